import PyProof.Rows.All
import Wide.All
import OpenK.AllK
import Wide.FinOn
import HandS.ForMost
import HandS.Words
import HandS.Walk
import HandS.Lambda
import HandS.ExcOwn
import HandS.WordsExc
import HandS.TupAny
import HandS.TupLe
import HandS.IsInst
import HandS.SortInts
import HandS.Conv
import HandS.Style
import HandS.Deep
import HandS.List
import HandS.RaiseMore
import KE.KTupSum
import KE.DataMinMax
import HandS.SortOrd
import HandS.TupMul
import HandS.WordsDict
import HandS.Zip
import KE.GoesZip
import KE.GoesMore
import HandS.ExcIs
import KE.DataFind
import HandS.HeadHook1
import HandS.HeadHook2
import HandS.Defaults
import HandS.Ends
import HandS.More
import HandS.Head0
import HandS.Head1
import HandS.Head2
import HandS.HeadEnd
import HandS.EndTab
import KE.KNestM
import PySem.Challenge.RW_circusweek_k04_whole_sight_from_rows
set_option Elab.async false
set_option linter.all false
set_option maxRecDepth 100000
set_option maxHeartbeats 0
section
/-! CwA: own values, own syntax, the evaluator. -/
namespace Cw
open PySem L2

/-- own values: immutable data, lists and dicts by value; ref: a list with identity; fn: a def of the text; frz: a list that is only read -/
inductive D where
  | non | bl (b : Bool) | int (i : Int) | str (x : Str)
  | tup (xs : List D) | lst (xs : List D)
  | dK (kvs : List (Key × D)) | dT (kvs : List (List Key × D))
  | ref (i : Nat) | fn (i : Nat) | frz (xs : List D)
instance : Inhabited D := ⟨.non⟩

/-- the lists with identity -/
abbrev RH := List (List D)
inductive Res (α : Type) where
  | ok (a : α) (R : RH)
  | exc (c : Nat) (R : RH)
  | bad
def Res.bind {α β : Type} (m : Res α) (f : α → RH → Res β) : Res β := match m with
  | .ok a R => f a R
  | .exc c R => .exc c R
  | .bad => .bad
/-- an operation that may have no answer -/
def Res.of {α : Type} (o : Option α) (R : RH) : Res α := match o with
  | some a => .ok a R
  | none => .bad

/-- a variable: nothing, shared (read only), own (its list or dict may be changed); lm: the lambda that a catcher got; er: the error of class c that an except suite holds -/
inductive Sl where
  | no | sh (d : D) | ow (d : D) | lm | er (c : Nat)
def gS : List Sl → Nat → Sl
  | [], _ => .no
  | s :: _, 0 => s
  | _ :: l, i + 1 => gS l i
def Sl.val : Sl → Option D
  | .sh d => some d
  | .ow d => some d
  | _ => none
def sS : List Sl → Nat → Sl → List Sl
  | [], _, _ => []
  | _ :: l, 0, x => x :: l
  | s :: l, i + 1, x => s :: sS l i x

inductive Bop where | add | sub | mul | fdiv | mod | pow
inductive Cop where | eq | ne | lt | le | gt | ge | is | isn | in_ | nin
inductive Kd where | int | bool | str | tuple | list | dict
inductive Blt where | len | abs | int | min | max | sum | all | any | sorted | list | tuple | lrange | repr | str
inductive Mth where | index | count | get
/-- what a catcher tells of a value -/
inductive Td where | con (d : D) | val | pair (d : D)
inductive Tk where | xpr | ret | set (i : Nat)
mutual
inductive Ex where
  | var (i : Nat) | con (d : D)
  | tup (es : Exs) | lst (es : Exs)
  | bin (o : Bop) (a b : Ex) | neg (a : Ex)
  | cmp (o : Cop) (a b : Ex) | ch2 (o p : Cop) (a b c : Ex)
  | and (a : Ex) (es : Exs) | or (a : Ex) (es : Exs) | not (a : Ex) | ite (c a b : Ex)
  | call (f : Nat) (es : Exs) | blt (f : Blt) (es : Exs) | isi (ks : List Kd) (a : Ex)
  | meth (m : Mth) (o : Ex) (es : Exs)
  | idx (a i : Ex) | slc (a : Ex) (lo hi : Exo) | rev (a : Ex)
  | lc (elt : Ex) (tg : Tg) (it : Itr) (cd : Exo)
  | lamc | tri (f : Nat) (t : Td) (ws : List D) (b : Ex) | ise (i : Nat) (x : Str) (bs : List Bool)
  | nev | callv (i : Nat) (fs : List Nat) (es : Exs) | dic0 | dic1 (k : Int) (e : Ex) | callb (f : Nat) (es : Exs)
inductive Exs where | nil | cons (e : Ex) (es : Exs)
inductive Exo where | no | so (e : Ex)
inductive Itr where | ex (e : Ex) | rng (a : Ex) | rng2 (a b : Ex) | rng3 (a b c : Ex) | enu (e : Ex) | zip (a b : Ex)
inductive Tg where | nm (i : Nat) | tp (ts : Tgs)
inductive Tgs where | nil | cons (t : Tg) (ts : Tgs)
end
/-- an expression of a statement -/
inductive SE where
  | ex (e : Ex) | pop (i : Nat) | popAt (i : Nat) (e : Ex) | nref (e : Ex)
mutual
inductive Sm where
  | set (i : Nat) (e : SE) | own (i : Nat) (e : Ex) | unp (ts : Tgs) (e : SE) | par (is : List (Nat × Bool)) (es : Exs)
  | xpr (e : SE) | app (i : Nat) (e : SE) | ext (i : Nat) (e : Ex) | sub (i : Nat) (k e : Ex)
  | aug (i : Nat) (o : Bop) (e : Ex) | asb (i : Nat) (k : Ex) (o : Bop) (e : Ex)
  | su2 (i : Nat) (k : Ex) (j : Nat) (l a b : Ex)
  | rsb (r k e : Ex) | rpp (r k : Ex)
  | ite (c : Ex) (a b : Sms) | for_ (tg : Tg) (it : Itr) (body : Sms) | whl (c : Ex) (body : Sms)
  | ret (e : SE) | retN | raise (c : Nat) | pas | brk | cnt
  | tryx (k : Tk) (e : Ex) (j : Nat) (x : Str) (suite : Sms)
  | esc (is : List Nat) | kil (is : List Nat)
inductive Sms where | nil | cons (s : Sm) (ss : Sms)
end
inductive Fl where | nx | bk | ct | rt (d : D)
end Cw

end
section
/-! CwB: the evaluator. -/
namespace Cw
open PySem L2

/-! ### operations on values -/
mutual
/-- ==, of plain data -/
def deq : D → D → Bool
  | .non, .non => true
  | .bl a, .bl b => a == b
  | .bl a, .int j => (if a then 1 else 0) == j
  | .int i, .bl b => i == (if b then 1 else 0)
  | .int i, .int j => i == j
  | .str x, .str y => x == y
  | .lst xs, .lst ys => deqs xs ys
  | .tup xs, .tup ys => deqs xs ys
  | _, _ => false
def deqs : List D → List D → Bool
  | [], [] => true
  | x :: xs, y :: ys => deq x y && deqs xs ys
  | _, _ => false
end
mutual
/-- None, bools, intsD, texts, tuples and lists of such -/
def plain : D → Bool
  | .non | .bl _ | .int _ => true
  | .str x => PyData.strOk x
  | .tup xs | .lst xs => plains xs
  | _ => false
def plains : List D → Bool
  | [] => true
  | x :: xs => plain x && plains xs
end
mutual
def dep : D → Nat
  | .tup xs | .lst xs => deps xs + 1
  | _ => 0
def deps : List D → Nat
  | [] => 0
  | x :: xs => max (dep x) (deps xs)
end
def flt (d : D) : Bool := plain d && decide (dep d ≤ 60)
mutual
/-- <, of ints, texts, tuples -/
def dlt : D → D → Bool
  | .int i, .int j => decide (i < j)
  | .str x, .str y => decide (x.cps.toList < y.cps.toList)
  | .tup xs, .tup ys => dlts xs ys
  | _, _ => false
def dlts : List D → List D → Bool
  | [], [] => false
  | [], _ :: _ => true
  | _ :: _, [] => false
  | x :: xs, y :: ys => if deq x y = true then dlts xs ys else dlt x y
end
mutual
/-- two that can be ordered: ints, texts, tuples whose items at one place can -/
def cmpb : D → D → Bool
  | .int _, .int _ => true
  | .str _, .str _ => true
  | .tup xs, .tup ys => cmpbs xs ys
  | _, _ => false
def cmpbs : List D → List D → Bool
  | x :: xs, y :: ys => cmpb x y && cmpbs xs ys
  | _, _ => true
end
instance {i j : Int} : Decidable (CMul i j) := by unfold CMul; infer_instance
instance {i j : Int} : Decidable (CDivN i j) := by unfold CDivN; infer_instance
instance {i j : Int} : Decidable (CPow i j) := by unfold CPow; infer_instance
def isNon : D → Bool
  | .non => true
  | _ => false
def negD : D → Option D
  | .int i => some (.int (-i))
  | _ => none
def notD : D → Option D
  | .bl b => some (.bl (!b))
  | _ => none
def cmpD : Cop → D → D → Option Bool
  | .eq, x, y => if (flt x && flt y) = true then some (deq x y) else none
  | .ne, x, y => if (flt x && flt y) = true then some (!deq x y) else none
  | .lt, x, y => if (flt x && flt y && cmpb x y) = true then some (dlt x y) else none
  | .gt, .int i, .int j => some (decide (j < i))
  | .le, .int i, .int j => some (decide (i ≤ j))
  | .ge, .int i, .int j => some (decide (j ≤ i))
  | .is, x, .non => some (isNon x)
  | .isn, x, .non => some (!isNon x)
  | .is, .bl a, .bl b => some (decide (a = b))
  | .isn, .bl a, .bl b => some (!decide (a = b))
  | .in_, x, .lst ys => if (flt x && ys.all flt) = true then some (ys.any fun y => deq y x) else none
  | .nin, x, .lst ys => if (flt x && ys.all flt) = true then some (!ys.any fun y => deq y x) else none
  | .in_, x, .tup ys => if (flt x && ys.all flt) = true then some (ys.any fun y => deq y x) else none
  | .nin, x, .tup ys => if (flt x && ys.all flt) = true then some (!ys.any fun y => deq y x) else none
  | _, _, _ => none
def rep {α : Type} (xs : List α) : Nat → List α
  | 0 => []
  | n + 1 => xs ++ rep xs n
def binD : Bop → D → D → Option D
  | .add, .int i, .int j => some (.int (i + j))
  | .add, .str a, .str b => if a.length + b.length ≤ sizeLine then some (.str (a ++ b)) else none
  | .add, .tup xs, .tup ys => if xs.length + ys.length ≤ sizeLine then some (.tup (xs ++ ys)) else none
  | .add, .lst xs, .lst ys => if xs.length + ys.length ≤ sizeLine then some (.lst (xs ++ ys)) else none
  | .sub, .int i, .int j => some (.int (i - j))
  | .mul, .int i, .int j => if decide (CMul i j) = true then some (.int (i * j)) else none
  | .mul, .lst xs, .int k => if (decide (-(2 ^ 63) ≤ k) && decide (k < 2 ^ 63) && decide (xs.length * k.toNat ≤ sizeLine)) = true then some (.lst (List.replicate k.toNat xs).flatten) else none
  | .mul, .tup xs, .int k => if (!xs.isEmpty && (decide (2 ≤ k) && (decide (k ≤ 1000) && decide (xs.length ≤ 1000)))) = true then some (.tup (List.replicate k.toNat xs).flatten) else none
  | .fdiv, .int i, .int j => if decide (CDivN i j) = true then some (.int (i.fdiv j)) else none
  | .mod, .int i, .int j => if j = 0 then none else some (.int (i.fmod j))
  | .pow, .int i, .int j => if decide (CPow i j) = true then some (.int (i ^ j.toNat)) else none
  | _, _, _ => none

def isK : Kd → D → Option Bool
  | _, .fn _ => none
  | .int, .int _ => some true
  | .int, .bl _ => some true
  | .bool, .bl _ => some true
  | .str, .str _ => some true
  | .tuple, .tup _ => some true
  | .list, .lst _ => some true
  | .list, .ref _ => some true
  | .list, .frz _ => some true
  | .dict, .dK _ => some true
  | .dict, .dT _ => some true
  | _, _ => some false
/-- all intsD -/
def isKs : List Kd → D → Option Bool
  | [], _ => some false
  | k :: ks, d => match isK k d, isKs ks d with
    | some b, some c => some (b || c)
    | _, _ => none
/-- all ints -/
def intsD : List D → Option (List Int)
  | [] => some []
  | .int i :: l => (intsD l).map (i :: ·)
  | _ => none
def blsD : List D → Option (List Bool)
  | [] => some []
  | .bl i :: l => (blsD l).map (i :: ·)
  | _ => none
def maxI : Int → List Int → Int
  | m, [] => m
  | m, x :: l => maxI (if m < x then x else m) l
def minI : Int → List Int → Int
  | m, [] => m
  | m, x :: l => minI (if x < m then x else m) l
def insI (x : Int) : List Int → List Int
  | [] => [x]
  | y :: l => if x < y then x :: y :: l else y :: insI x l
def sortI (l : List Int) : List Int := l.foldl (fun acc x => insI x acc) []
def rngI (lo : Int) : Nat → List D
  | 0 => []
  | n + 1 => .int lo :: rngI (lo + 1) n
def cut {α : Type} (xs : List α) (lo hi : Option Int) : List α := (xs.drop (HT.sIx xs.length 0 lo)).take (HT.sIx xs.length xs.length hi - HT.sIx xs.length 0 lo)
/-! sorted of tuples that begin by an int -/
def tupI : D → Bool
  | .tup (.int _ :: _) => true
  | _ => false
def srtOk (l : List D) : Bool := l.all flt && (l.all tupI && l.all fun x => l.all fun y => cmpb x y)
def insD (x : D) : List D → List D
  | [] => [x]
  | y :: l => if dlt x y = true then x :: y :: l else y :: insD x l
def sortD (l : List D) : List D := l.foldl (fun acc x => insD x acc) []
/-- the first of the least, of the greatest -/
def minT (d : D) (l : List D) : D := l.foldl (fun a y => if dlt y a = true then y else a) d
def maxT (d : D) (l : List D) : D := l.foldl (fun a y => if dlt a y = true then y else a) d
def bltD : Blt → List D → Option D
  | .len, [.lst xs] => some (.int xs.length)
  | .len, [.frz xs] => some (.int xs.length)
  | .len, [.tup xs] => some (.int xs.length)
  | .len, [.str z] => if z.length ≤ sizeLine then some (.int z.length) else none
  | .len, [.dK kvs] => some (.int kvs.length)
  | .abs, [.int i] => some (.int (if i < 0 then -i else i))
  | .int, [.int i] => some (.int i)
  | .int, [.bl b] => some (.int (if b = true then 1 else 0))
  | .max, [.int i, .int j] => some (.int (if j > i then j else i))
  | .min, [.int i, .int j] => some (.int (if j < i then j else i))
  | .max, [.lst (.int i :: l)] => (intsD l).map fun l => .int (maxI i l)
  | .min, [.lst (.int i :: l)] => (intsD l).map fun l => .int (minI i l)
  | .sum, [.lst l] => (intsD l).map fun l => .int l.sum
  | .all, [.lst l] => (blsD l).map fun l => .bl (l.all id)
  | .any, [.lst l] => (blsD l).map fun l => .bl (l.any id)
  | .sorted, [.lst l] => match intsD l with
    | some l => some (.lst ((sortI l).map .int))
    | none => if srtOk l = true then some (.lst (sortD l)) else none
  | .list, [.lst l] => some (.lst l)
  | .list, [.frz l] => some (.lst l)
  | .list, [.tup l] => some (.lst l)
  | .tuple, [.lst l] => some (.tup l)
  | .tuple, [.frz l] => some (.tup l)
  | .tuple, [.tup l] => some (.tup l)
  | .lrange, [.int n] => if (decide (-(2 ^ 61) ≤ n) && decide (n ≤ sizeLine)) = true then some (.lst (rngI 0 n.toNat)) else none
  | .lrange, [.int a, .int b] => if (decide (-(2 ^ 61) ≤ a) && decide (a ≤ 2 ^ 61) && decide (-(2 ^ 61) ≤ b) && decide (b - a ≤ sizeLine) && decide (b ≤ 2 ^ 61)) = true then some (.lst (rngI a (b - a).toNat)) else none
  | .max, [.tup (.int i :: l)] => (intsD l).map fun l => .int (maxI i l)
  | .min, [.tup (.int i :: l)] => (intsD l).map fun l => .int (minI i l)
  | .sum, [.tup l] => (intsD l).map fun l => .int l.sum
  | .sorted, [.tup l] => match intsD l with
    | some l => some (.lst ((sortI l).map .int))
    | none => if srtOk l = true then some (.lst (sortD l)) else none
  | .min, [.lst (d :: l)] => if srtOk (d :: l) = true then some (minT d l) else none
  | .max, [.lst (d :: l)] => if srtOk (d :: l) = true then some (maxT d l) else none
  | .repr, [.bl b] => some (.str (if b = true then "True" else "False"))
  | .repr, [.int i] => if i.natAbs.log2 < 1920 then some (.str (toString i)) else none
  | .repr, [.non] => some (.str "None")
  | .str, [.int i] => if i.natAbs.log2 < 1920 then some (.str (toString i)) else none
  | _, _ => none
def idxD (R : RH) : D → D → Option D
  | .lst xs, .int i => atI xs i
  | .frz xs, .int i => atI xs i
  | .tup xs, .int i => atI xs i
  | .str z, .int i => if z.length ≤ sizeLine then (atI z.cps.toList i).map fun c => .str ⟨#[c]⟩ else none
  | .ref r, .int i => match R[r]? with
    | some xs => atI xs i
    | none => none
  | _, _ => none
def lenR (R : RH) : D → D
  | .ref r => match R[r]? with
    | some xs => .lst xs
    | none => .non
  | d => d
def slcD : D → Option Int → Option Int → Option D
  | .lst xs, lo, hi => some (.lst (cut xs lo hi))
  | .frz xs, lo, hi => some (.lst (cut xs lo hi))
  | .tup xs, lo, hi => some (.tup (cut xs lo hi))
  | .str z, lo, hi => if z.length ≤ sizeLine then some (.str (cutS z lo hi)) else none
  | _, _, _ => none
def revD : D → Option D
  | .lst xs => some (.lst xs.reverse)
  | _ => none
/-- what a for or a comprehension walks -/
def itmD : D → Option (List D)
  | .lst xs | .frz xs | .tup xs => some xs
  | _ => none
def rngD : D → Option (List D)
  | .int n => if (decide (-(2 ^ 62) ≤ n) && decide (n ≤ sizeLine)) = true then some (rngI 0 n.toNat) else none
  | _ => none
def rngD2 : D → D → Option (List D)
  | .int a, .int b => if (decide (-(2 ^ 61) ≤ a) && decide (a ≤ 2 ^ 61) && decide (-(2 ^ 61) ≤ b) && decide (b ≤ 2 ^ 61) && decide (b - a ≤ sizeLine)) = true then some (rngI a (b - a).toNat) else none
  | _, _ => none
def rngJ (hi : Int) : Nat → List D
  | 0 => []
  | n + 1 => .int hi :: rngJ (hi - 1) n
def rngD3 : D → D → D → Option (List D)
  | .int a, .int b, .int c => if (decide (c = -1) && decide (-(2 ^ 61) ≤ a) && decide (a ≤ 2 ^ 61) && decide (-(2 ^ 61) ≤ b) && decide (b ≤ 2 ^ 61) && decide (a - b ≤ sizeLine)) = true then some (rngJ a (a - b).toNat) else none
  | _, _, _ => none
def enuL (i : Nat) : List D → List D
  | [] => []
  | x :: l => .tup [.int i, x] :: enuL (i + 1) l
def zipL : List D → List D → List D
  | x :: l, y :: m => .tup [x, y] :: zipL l m
  | _, _ => []

/-- the first place of an equal one -/
def findD (d : D) : List D → Option Nat
  | [] => none
  | z :: l => if deq z d = true then some 0 else (findD d l).map (· + 1)
/-- what the method stands on -/
def mthOn : Mth → D → Bool
  | .index, .lst _ => true
  | .count, .lst _ => true
  | _, _ => false
def methD : Mth → D → List D → Option D
  | .count, .lst l, [d] => if (flt (.lst l) && flt d) = true then some (.int (l.countP fun z => deq z d : Nat)) else none
  | .index, .lst l, [d] => if (flt (.lst l) && flt d) = true then (findD d l).map fun j => .int j else none
  | _, _, _ => none
/-! ### targets -/
mutual
def setT : Tg → D → List Sl → Option (List Sl)
  | .nm i, d, σ => some (sS σ i (.sh d))
  | .tp ts, .tup ds, σ => setTs ts ds σ
  | .tp _, _, _ => none
def setTs : Tgs → List D → List Sl → Option (List Sl)
  | .nil, [], σ => some σ
  | .cons t ts, d :: ds, σ => match setT t d σ with
    | some σ1 => setTs ts ds σ1
    | none => none
  | _, _, _ => none
end
mutual
def tgs : Tg → List Nat
  | .nm i => [i]
  | .tp ts => tgss ts
def tgss : Tgs → List Nat
  | .nil => []
  | .cons t ts => tgs t ++ tgss ts
end
def isOw : Sl → Bool
  | .ow _ => true
  | _ => false
def killS : List Nat → List Sl → List Sl
  | [], σ => σ
  | i :: l, σ => sS (killS l σ) i .no
/-- a comprehension's own names: not own lists of the def -/
def setC (tg : Tg) (d : D) (σ : List Sl) : Option (List Sl) := if (tgs tg).any (fun i => isOw (gS σ i)) = true then none else setT tg d (killS (tgs tg) σ)
def escS : List Nat → List Sl → List Sl
  | [], σ => σ
  | i :: l, σ => escS l (match gS σ i with
    | .ow d => sS σ i (.sh d)
    | _ => σ)

/-- what a lambda's body reads of its maker -/
def hideS : List Sl → List Sl
  | [] => []
  | .sh d :: σ => .sh d :: hideS σ
  | _ :: σ => .no :: hideS σ
/-- what a catcher tells -/
def Td.of : Td → D → D
  | .con d, _ => d
  | .val, v => v
  | .pair d, v => .tup [d, v]
def triR (t : Td) (ws : List D) : Res D → Res D
  | .ok v R => .ok (t.of v) R
  | .exc c R => match ws[c]? with
    | some d => .ok d R
    | none => .bad
  | .bad => .bad
mutual
/-- no list with identity within -/
def noR : D → Bool
  | .non | .bl _ | .int _ | .str _ | .fn _ => true
  | .tup xs | .lst xs | .frz xs => noRs xs
  | _ => false
def noRs : List D → Bool
  | [] => true
  | x :: xs => noR x && noRs xs
end
mutual
/-- no list within -/
def noL : D → Bool
  | .non | .bl _ | .int _ | .str _ | .fn _ => true
  | .tup xs => noLs xs
  | _ => false
def noLs : List D → Bool
  | [] => true
  | x :: xs => noL x && noLs xs
end
/-- what a call tells that borrowed own lists -/
def unb (R : RH) : Res D → Res D
  | .ok d [] => if noL d = true then .ok d R else .bad
  | .exc c [] => .exc c R
  | _ => .bad
/-! ### expressions -/
/-- kept somewhere: not a list that may still be changed -/
def stx (x : Ex) (σ : List Sl) (r : Res D) : Res D := match x with
  | .var i => if isOw (gS σ i) = true then .bad else r
  | _ => r
def lcL (f : D → RH → Res (Option D)) : List D → RH → Res (List D)
  | [], R => .ok [] R
  | d :: ds, R => match f d R with
    | .ok o R1 => match lcL f ds R1 with
      | .ok l R2 => .ok (match o with
        | some x => x :: l
        | none => l) R2
      | _ => .bad
    | _ => .bad
section
variable (ck : Nat → List D → RH → Res D)
mutual
def ev : Ex → List Sl → RH → Res D
  | .var i, σ, R => .of (gS σ i).val R
  | .con d, _, R => .ok d R
  | .tup es, σ, R => (evs es σ R).bind fun ds R => .ok (.tup ds) R
  | .lst es, σ, R => (evs es σ R).bind fun ds R => .ok (.lst ds) R
  | .bin o a b, σ, R => (ev a σ R).bind fun x R => (ev b σ R).bind fun y R => .of (binD o x y) R
  | .neg a, σ, R => (ev a σ R).bind fun x R => .of (negD x) R
  | .cmp o a b, σ, R => (ev a σ R).bind fun x R => (ev b σ R).bind fun y R => .of ((cmpD o x y).map .bl) R
  | .ch2 o p a b c, σ, R => (ev a σ R).bind fun x R => (ev b σ R).bind fun y R => match cmpD o x y with
    | some true => (ev c σ R).bind fun z R => .of ((cmpD p y z).map .bl) R
    | some false => .ok (.bl false) R
    | none => .bad
  | .and a es, σ, R => (ev a σ R).bind fun x R => match x with
    | .bl true => evAnd es σ R
    | .bl false => .ok (.bl false) R
    | _ => .bad
  | .or a es, σ, R => (ev a σ R).bind fun x R => match x with
    | .bl false => evOr es σ R
    | .bl true => .ok (.bl true) R
    | _ => .bad
  | .not a, σ, R => (ev a σ R).bind fun x R => .of (notD x) R
  | .ite c a b, σ, R => (ev c σ R).bind fun x R => match x with
    | .bl true => stx a σ (ev a σ R)
    | .bl false => stx b σ (ev b σ R)
    | _ => .bad
  | .call f es, σ, R => (evs es σ R).bind fun ds R => ck f ds R
  | .blt f es, σ, R => (evb es σ R).bind fun ds R => .of (bltD f (match f with
    | .len => ds.map (lenR R)
    | _ => ds)) R
  | .isi ks a, σ, R => (ev a σ R).bind fun x R => .of ((isKs ks x).map .bl) R
  | .meth m o es, σ, R => (ev o σ R).bind fun x R => if mthOn m x = true then (evb es σ R).bind fun ds R => .of (methD m x ds) R else .bad
  | .idx a i, σ, R => (ev a σ R).bind fun x R => (ev i σ R).bind fun y R => .of (idxD R x y) R
  | .slc a lo hi, σ, R => (ev a σ R).bind fun x R => (evo lo σ R).bind fun l R => (evo hi σ R).bind fun h R => .of (slcD x l h) R
  | .rev a, σ, R => (ev a σ R).bind fun x R => .of (revD x) R
  | .lc elt tg it cd, σ, R => (evi it σ R).bind fun ds R => (lcL (fun d R => match setC tg d σ with
    | none => .bad
    | some σ1 => (evc cd σ1 R).bind fun b R => if b = true then (stx elt σ1 (ev elt σ1 R)).bind fun x R => .ok (some x) R else .ok none R) ds R).bind fun ds R => .ok (.lst ds) R
  | .lamc, σ, R => match gS σ 0 with
    | .lm => ck 0 [] R
    | _ => .bad
  | .tri _ t ws b, σ, R => triR t ws (stx b (hideS σ) (ev b (hideS σ) R))
  | .ise i _ bs, σ, R => match gS σ i with
    | .er c => .of (bs[c]?.map .bl) R
    | _ => .bad
  | .callv i fs es, σ, R => match gS σ i with
    | .sh (.fn f) => if f ∈ fs then (evs es σ R).bind fun ds R => ck f ds R else .bad
    | _ => .bad
  | .nev, _, _ => .bad
  | .callb f es, σ, R => (evb es σ R).bind fun ds R => if noRs ds = true then unb R (ck f ds []) else .bad
  | .dic0, _, R => .ok (.dK []) R
  | .dic1 k e, σ, R => (stx e σ (ev e σ R)).bind fun x R => .ok (.dK [(.inl k, x)]) R
/-- kept one by one -/
def evs : Exs → List Sl → RH → Res (List D)
  | .nil, _, R => .ok [] R
  | .cons e es, σ, R => (stx e σ (ev e σ R)).bind fun x R => (evs es σ R).bind fun xs R => .ok (x :: xs) R
/-- only read -/
def evb : Exs → List Sl → RH → Res (List D)
  | .nil, _, R => .ok [] R
  | .cons e es, σ, R => (ev e σ R).bind fun x R => (evb es σ R).bind fun xs R => .ok (x :: xs) R
def evAnd : Exs → List Sl → RH → Res D
  | .nil, _, _ => .bad
  | .cons e .nil, σ, R => stx e σ (ev e σ R)
  | .cons e es, σ, R => (ev e σ R).bind fun x R => match x with
    | .bl true => evAnd es σ R
    | .bl false => .ok (.bl false) R
    | _ => .bad
def evOr : Exs → List Sl → RH → Res D
  | .nil, _, _ => .bad
  | .cons e .nil, σ, R => stx e σ (ev e σ R)
  | .cons e es, σ, R => (ev e σ R).bind fun x R => match x with
    | .bl false => evOr es σ R
    | .bl true => .ok (.bl true) R
    | _ => .bad
def evo : Exo → List Sl → RH → Res (Option Int)
  | .no, _, R => .ok none R
  | .so e, σ, R => (ev e σ R).bind fun x R => match x with
    | .int i => .ok (some i) R
    | _ => .bad
def evc : Exo → List Sl → RH → Res Bool
  | .no, _, R => .ok true R
  | .so e, σ, R => (ev e σ R).bind fun x R => match x with
    | .bl b => .ok b R
    | _ => .bad
def evi : Itr → List Sl → RH → Res (List D)
  | .ex e, σ, R => (ev e σ R).bind fun x R => .of (itmD x) R
  | .rng a, σ, R => (ev a σ R).bind fun x R => .of (rngD x) R
  | .rng2 a b, σ, R => (ev a σ R).bind fun x R => (ev b σ R).bind fun y R => .of (rngD2 x y) R
  | .rng3 a b c, σ, R => (ev a σ R).bind fun x R => (ev b σ R).bind fun y R => (ev c σ R).bind fun z R => .of (rngD3 x y z) R
  | .enu e, σ, R => (ev e σ R).bind fun x R => .of ((itmD x).map (enuL 0)) R
  | .zip a b, σ, R => (ev a σ R).bind fun x R => (ev b σ R).bind fun y R => match itmD x, itmD y with
    | some l, some m => .ok (zipL l m) R
    | _, _ => .bad
end
end
end Cw

end
section
/-! CwC: how own values lie in HandS' heap; what stays. -/
namespace Cw
open PySem L2

/-- what is fixed for the law's run: the written part, where the defs stand, where the classes stand; the tables of code objects; in a catcher: its lambda, the error that is held, its start -/
structure Fx where
  K : PySem.W.Frag
  fa : Nat → Option Addr
  ca : Nat → Option Addr
  T : List (Addr × Str)
  lm : Option Addr := none
  er : Option (Addr × Nat) := none
  cre : Option (List Addr × Hp × List Addr) := none
/-- a def's run: what its callers own, the heap and the identity lists at its entry -/
structure Act where
  O0 : List Addr
  He : Hp
  re : List Addr

/-- no table -/
abbrev Nt (o : HO) : Prop := ∀ ps, o ≠ .tbl ps
def ntb : Option HO → Option HO
  | some (.tbl _) => none
  | o => o
theorem ntb_some {x : Option HO} {o : HO} (h : ntb x = some o) : x = some o ∧ Nt o := by
  cases x with
  | none => cases h
  | some u =>
    cases u <;> first | (cases h; done) | (cases h; exact ⟨rfl, fun _ z => by cases z⟩)
theorem ntb_of {x : Option HO} {o : HO} (h : x = some o) (n : Nt o) : ntb x = some o := by
  subst h
  cases o <;> first | rfl | exact absurd rfl (n _)
def mask (H : Hp) (O : List Addr) : Hp := fun a => if a ∈ O then none else ntb (H a)
theorem mask_in {H : Hp} {O : List Addr} {a : Addr} (h : a ∈ O) : mask H O a = none := if_pos h
theorem mask_out {H : Hp} {O : List Addr} {a : Addr} (h : a ∉ O) : mask H O a = ntb (H a) := if_neg h
theorem mask_mk {H : Hp} {O : List Addr} {a : Addr} {o : HO} (h : a ∉ O) (e : H a = some o) (n : Nt o) : mask H O a = some o := (mask_out h).trans (ntb_of e n)
theorem mask_some {H : Hp} {O : List Addr} {a : Addr} {o : HO} (h : mask H O a = some o) : H a = some o ∧ a ∉ O := by
  unfold mask at h
  split at h
  · cases h
  · rename_i q
    exact ⟨(ntb_some h).1, q⟩
theorem mask_nt {H : Hp} {O : List Addr} {a : Addr} {o : HO} (h : mask H O a = some o) : Nt o := by
  unfold mask at h
  split at h
  · cases h
  · exact (ntb_some h).2
theorem mask_congr {H : Hp} {O O' : List Addr} (h : ∀ a, a ∈ O ↔ a ∈ O') : mask H O = mask H O' := by
  funext a
  unfold mask
  by_cases q : a ∈ O
  · rw [if_pos q, if_pos ((h a).mp q)]
  · rw [if_neg q, if_neg fun z => q ((h a).mpr z)]

mutual
/-- a value lies at v in the heap H -/
inductive RD (F : Fx) (ρ : List Addr) (H : Hp) : V → D → Prop
  | non : RD F ρ H .non .non
  | bl (b : Bool) : RD F ρ H (.bl b) (.bl b)
  | int (i : Int) : RD F ρ H (.int i) (.int i)
  | str (x : Str) : RD F ρ H (.str x) (.str x)
  | tup {a : Addr} {vs : List V} {ds : List D} : SqT F.K H a vs → RDs F ρ H vs ds → RD F ρ H (.ref a) (.tup ds)
  | lst {a : Addr} {vs : List V} {ds : List D} : H a = some (.lst vs) → RDs F ρ H vs ds → RD F ρ H (.ref a) (.lst ds)
  | frz {a : Addr} {vs : List V} {ds : List D} : SqL F.K H a vs → RDs F ρ H vs ds → RD F ρ H (.ref a) (.frz ds)
  | dK {a : Addr} {kvs : List (Key × V)} {kds : List (Key × D)} : H a = some (.dK kvs) → RDp F ρ H kvs kds → RD F ρ H (.ref a) (.dK kds)
  | dT {a : Addr} {kvs : List (List Key × V)} {kds : List (List Key × D)} : H a = some (.dT kvs) → RDt F ρ H kvs kds → RD F ρ H (.ref a) (.dT kds)
  | ref {a : Addr} {i : Nat} : ρ[i]? = some a → RD F ρ H (.ref a) (.ref i)
  | fn {a : Addr} {i : Nat} : F.fa i = some a → RD F ρ H (.ref a) (.fn i)
inductive RDs (F : Fx) (ρ : List Addr) (H : Hp) : List V → List D → Prop
  | nil : RDs F ρ H [] []
  | cons {v : V} {vs : List V} {d : D} {ds : List D} : RD F ρ H v d → RDs F ρ H vs ds → RDs F ρ H (v :: vs) (d :: ds)
inductive RDp (F : Fx) (ρ : List Addr) (H : Hp) : List (Key × V) → List (Key × D) → Prop
  | nil : RDp F ρ H [] []
  | cons {k : Key} {v : V} {vs : List (Key × V)} {d : D} {ds : List (Key × D)} : RD F ρ H v d → RDp F ρ H vs ds → RDp F ρ H ((k, v) :: vs) ((k, d) :: ds)
inductive RDt (F : Fx) (ρ : List Addr) (H : Hp) : List (List Key × V) → List (List Key × D) → Prop
  | nil : RDt F ρ H [] []
  | cons {k : List Key} {v : V} {vs : List (List Key × V)} {d : D} {ds : List (List Key × D)} : RD F ρ H v d → RDt F ρ H vs ds → RDt F ρ H ((k, v) :: vs) ((k, d) :: ds)
end
theorem sqT_mono {K : PySem.W.Frag} {H H' : Hp} {a : Addr} {vs : List V} (k : ∀ b o, H b = some o → H' b = some o) (h : SqT K H a vs) : SqT K H' a vs := by
  rcases h with (h | ⟨o, h⟩) | h
  · exact .inl (.inl (k _ _ h))
  · exact .inl (.inr ⟨o, k _ _ h⟩)
  · exact .inr h
theorem sqL_mono {K : PySem.W.Frag} {H H' : Hp} {a : Addr} {vs : List V} (k : ∀ b o, H b = some o → H' b = some o) (h : SqL K H a vs) : SqL K H' a vs := by
  rcases h with (h | ⟨o, h⟩) | h
  · exact .inl (.inl (k _ _ h))
  · exact .inl (.inr ⟨o, k _ _ h⟩)
  · exact .inr h
section
variable {F : Fx} {ρ ρ' : List Addr} {H H' : Hp}
theorem pre_get {ρ ρ' : List Addr} (p : ∃ e, ρ' = ρ ++ e) {i : Nat} {a : Addr} (h : ρ[i]? = some a) : ρ'[i]? = some a := by
  obtain ⟨e, rfl⟩ := p
  rw [List.getElem?_append_left (List.getElem?_eq_some_iff.mp h).1]
  exact h
mutual
theorem RD.mono (p : ∃ e, ρ' = ρ ++ e) (k : ∀ b o, H b = some o → H' b = some o) : ∀ {v : V} {d : D}, RD F ρ H v d → RD F ρ' H' v d
  | _, _, .non => .non
  | _, _, .bl b => .bl b
  | _, _, .int i => .int i
  | _, _, .str x => .str x
  | _, _, .tup h t => .tup (sqT_mono k h) (RDs.mono p k t)
  | _, _, .lst h t => .lst (k _ _ h) (RDs.mono p k t)
  | _, _, .frz h t => .frz (sqL_mono k h) (RDs.mono p k t)
  | _, _, .dK h t => .dK (k _ _ h) (RDp.mono p k t)
  | _, _, .dT h t => .dT (k _ _ h) (RDt.mono p k t)
  | _, _, .ref h => .ref (pre_get p h)
  | _, _, .fn h => .fn h
theorem RDs.mono (p : ∃ e, ρ' = ρ ++ e) (k : ∀ b o, H b = some o → H' b = some o) : ∀ {v : List V} {d : List D}, RDs F ρ H v d → RDs F ρ' H' v d
  | _, _, .nil => .nil
  | _, _, .cons h t => .cons (RD.mono p k h) (RDs.mono p k t)
theorem RDp.mono (p : ∃ e, ρ' = ρ ++ e) (k : ∀ b o, H b = some o → H' b = some o) : ∀ {v : List (Key × V)} {d : List (Key × D)}, RDp F ρ H v d → RDp F ρ' H' v d
  | _, _, .nil => .nil
  | _, _, .cons h t => .cons (RD.mono p k h) (RDp.mono p k t)
theorem RDt.mono (p : ∃ e, ρ' = ρ ++ e) (k : ∀ b o, H b = some o → H' b = some o) : ∀ {v : List (List Key × V)} {d : List (List Key × D)}, RDt F ρ H v d → RDt F ρ' H' v d
  | _, _, .nil => .nil
  | _, _, .cons h t => .cons (RD.mono p k h) (RDt.mono p k t)
end
theorem RDs.length : ∀ {vs : List V} {ds : List D}, RDs F ρ H vs ds → vs.length = ds.length
  | _, _, .nil => rfl
  | _, _, .cons _ t => congrArg (· + 1) (RDs.length t)
theorem RDs.get : ∀ {vs : List V} {ds : List D} {i : Nat} {d : D}, RDs F ρ H vs ds → ds[i]? = some d → ∃ v, vs[i]? = some v ∧ RD F ρ H v d
  | _, _, i, _, .nil, h => by simp at h
  | _, _, 0, _, .cons h t, e => by
    simp at e
    subst e
    exact ⟨_, rfl, h⟩
  | _, _, i + 1, _, .cons h t, e => by
    obtain ⟨v, h1, h2⟩ := RDs.get (i := i) t (by simpa using e)
    exact ⟨v, by simpa using h1, h2⟩
theorem RDs.getV : ∀ {vs : List V} {ds : List D} {i : Nat} {v : V}, RDs F ρ H vs ds → vs[i]? = some v → ∃ d, ds[i]? = some d ∧ RD F ρ H v d
  | _, _, i, _, .nil, h => by simp at h
  | _, _, 0, _, .cons h t, e => by
    simp at e
    subst e
    exact ⟨_, rfl, h⟩
  | _, _, i + 1, _, .cons h t, e => by
    obtain ⟨v, h1, h2⟩ := RDs.getV (i := i) t (by simpa using e)
    exact ⟨v, by simpa using h1, h2⟩
theorem RDs.append : ∀ {vs ws : List V} {ds es : List D}, RDs F ρ H vs ds → RDs F ρ H ws es → RDs F ρ H (vs ++ ws) (ds ++ es)
  | _, _, _, _, .nil, h => h
  | _, _, _, _, .cons a t, h => .cons a (RDs.append t h)
theorem RDs.take : ∀ {vs : List V} {ds : List D} (n : Nat), RDs F ρ H vs ds → RDs F ρ H (vs.take n) (ds.take n)
  | _, _, 0, _ => .nil
  | _, _, _ + 1, .nil => .nil
  | _, _, n + 1, .cons a t => .cons a (RDs.take n t)
theorem RDs.drop : ∀ {vs : List V} {ds : List D} (n : Nat), RDs F ρ H vs ds → RDs F ρ H (vs.drop n) (ds.drop n)
  | _, _, 0, h => h
  | _, _, _ + 1, .nil => .nil
  | _, _, n + 1, .cons a t => RDs.drop n t
theorem RDs.cut {vs : List V} {ds : List D} (lo hi : Option Int) (h : RDs F ρ H vs ds) : RDs F ρ H (cutV vs lo hi) (Cw.cut ds lo hi) := by
  unfold cutV Cw.cut
  rw [h.length]
  exact (h.drop _).take _
theorem RDs.reverse : ∀ {vs : List V} {ds : List D}, RDs F ρ H vs ds → RDs F ρ H vs.reverse ds.reverse
  | _, _, .nil => .nil
  | _, _, .cons a t => by
    rw [List.reverse_cons, List.reverse_cons]
    exact (RDs.reverse t).append (.cons a .nil)
theorem RDs.rep {vs : List V} {ds : List D} (h : RDs F ρ H vs ds) : ∀ k : Nat, RDs F ρ H (List.replicate k vs).flatten (List.replicate k ds).flatten
  | 0 => .nil
  | k + 1 => by
    rw [List.replicate_succ, List.replicate_succ, List.flatten_cons, List.flatten_cons]
    exact h.append (RDs.rep h k)
theorem RDs.set : ∀ {vs : List V} {ds : List D} {v : V} {d : D} (i : Nat), RDs F ρ H vs ds → RD F ρ H v d → RDs F ρ H (vs.set i v) (ds.set i d)
  | _, _, _, _, _, .nil, _ => .nil
  | _, _, _, _, 0, .cons a t, h => .cons h t
  | _, _, _, _, i + 1, .cons a t, h => .cons a (RDs.set i t h)
theorem RDs.eraseIdx : ∀ {vs : List V} {ds : List D} (i : Nat), RDs F ρ H vs ds → RDs F ρ H (vs.eraseIdx i) (ds.eraseIdx i)
  | _, _, _, .nil => .nil
  | _, _, 0, .cons a t => t
  | _, _, i + 1, .cons a t => .cons a (RDs.eraseIdx i t)
theorem RDs.atI {vs : List V} {ds : List D} {i : Int} {d : D} (h : RDs F ρ H vs ds) (e : L2.atI ds i = some d) : ∃ v, L2.atI vs i = some v ∧ RD F ρ H v d := by
  unfold L2.atI at e ⊢
  rw [h.length]
  cases q : ixN ds.length i with
  | none => rw [q] at e; cases e
  | some j =>
    rw [q] at e
    exact h.get e
theorem RDs.int : ∀ {vs : List V} {ds : List D} {ns : List Int}, RDs F ρ H vs ds → intsD ds = some ns → vs = ns.map V.int
  | _, _, _, .nil, e => by
    simp [intsD] at e
    subst e
    rfl
  | _, _, _, .cons (ds := l) (.int i) t, e => by
    simp only [intsD] at e
    cases q : intsD l with
    | none => rw [q] at e; cases e
    | some ms =>
      rw [q] at e
      cases e
      rw [List.map_cons, RDs.int t q]
  | _, _, _, .cons .non t, e => by simp [intsD] at e
  | _, _, _, .cons (.bl b) t, e => by simp [intsD] at e
  | _, _, _, .cons (.str b) t, e => by simp [intsD] at e
  | _, _, _, .cons (.tup _ _) t, e => by simp [intsD] at e
  | _, _, _, .cons (.lst _ _) t, e => by simp [intsD] at e
  | _, _, _, .cons (.frz _ _) t, e => by simp [intsD] at e
  | _, _, _, .cons (.dK _ _) t, e => by simp [intsD] at e
  | _, _, _, .cons (.dT _ _) t, e => by simp [intsD] at e
  | _, _, _, .cons (.ref _) t, e => by simp [intsD] at e
  | _, _, _, .cons (.fn _) t, e => by simp [intsD] at e
theorem RDs.bool : ∀ {vs : List V} {ds : List D} {ns : List Bool}, RDs F ρ H vs ds → blsD ds = some ns → vs = ns.map V.bl
  | _, _, _, .nil, e => by
    simp [blsD] at e
    subst e
    rfl
  | _, _, _, .cons (ds := l) (.bl i) t, e => by
    simp only [blsD] at e
    cases q : blsD l with
    | none => rw [q] at e; cases e
    | some ms =>
      rw [q] at e
      cases e
      rw [List.map_cons, RDs.bool t q]
  | _, _, _, .cons .non t, e => by simp [blsD] at e
  | _, _, _, .cons (.int b) t, e => by simp [blsD] at e
  | _, _, _, .cons (.str b) t, e => by simp [blsD] at e
  | _, _, _, .cons (.tup _ _) t, e => by simp [blsD] at e
  | _, _, _, .cons (.lst _ _) t, e => by simp [blsD] at e
  | _, _, _, .cons (.frz _ _) t, e => by simp [blsD] at e
  | _, _, _, .cons (.dK _ _) t, e => by simp [blsD] at e
  | _, _, _, .cons (.dT _ _) t, e => by simp [blsD] at e
  | _, _, _, .cons (.ref _) t, e => by simp [blsD] at e
  | _, _, _, .cons (.fn _) t, e => by simp [blsD] at e
theorem RDs.ofInts : ∀ (ns : List Int), RDs F ρ H (ns.map V.int) (ns.map D.int)
  | [] => .nil
  | n :: ns => .cons (.int n) (RDs.ofInts ns)
end

/-! ### slots -/
theorem gS_set : ∀ (σ : List Sl) (i j : Nat) (x : Sl), gS (sS σ i x) j = if j = i ∧ i < σ.length then x else gS σ j
  | [], i, j, x => by simp [sS, gS]
  | s :: l, 0, 0, x => by simp [sS, gS]
  | s :: l, 0, j + 1, x => by simp [sS, gS]
  | s :: l, i + 1, 0, x => by simp [sS, gS]
  | s :: l, i + 1, j + 1, x => by
    show gS (sS l i x) j = _
    rw [gS_set l i j x]
    simp [gS]
theorem sS_length : ∀ (σ : List Sl) (i : Nat) (x : Sl), (sS σ i x).length = σ.length
  | [], _, _ => rfl
  | _ :: l, 0, _ => rfl
  | _ :: l, i + 1, x => congrArg (· + 1) (sS_length l i x)

/-- the owned addresses -/
def owns (al : List (Option Addr)) : List Addr := al.filterMap id
def OO (A : Act) (ρ : List Addr) (al : List (Option Addr)) : List Addr := A.O0 ++ ρ ++ owns al
theorem mem_OO {A : Act} {ρ : List Addr} {al : List (Option Addr)} {a : Addr} : a ∈ OO A ρ al ↔ a ∈ A.O0 ∨ a ∈ ρ ∨ a ∈ owns al := by
  unfold OO
  rw [List.mem_append, List.mem_append, or_assoc]
theorem mem_owns {al : List (Option Addr)} {a : Addr} : a ∈ owns al ↔ ∃ i : Nat, al[i]? = some (some a) := by
  unfold owns
  rw [List.mem_filterMap]
  constructor
  · rintro ⟨o, h1, h2⟩
    obtain ⟨i, h⟩ := List.getElem?_of_mem h1
    exact ⟨i, by rw [h]; exact congrArg some h2⟩
  · rintro ⟨i, h⟩
    exact ⟨some a, List.mem_of_getElem? h, rfl⟩

/-- an own list or dict at a: its items lie in Hm -/
def OwR (F : Fx) (ρ : List Addr) (Hm H : Hp) (a : Addr) : D → Prop
  | .lst ds => ∃ vs, H a = some (.lst vs) ∧ RDs F ρ Hm vs ds
  | .dK kds => ∃ kvs, H a = some (.dK kvs) ∧ RDp F ρ Hm kvs kds
  | .dT kds => ∃ kvs, H a = some (.dT kvs) ∧ RDt F ρ Hm kvs kds
  | _ => False
def SlR (F : Fx) (ρ : List Addr) (Hm H : Hp) : Sl → Option Addr → Option V → Prop
  | .no, al, _ => al = none
  | .sh d, al, v => al = none ∧ ∃ x, v = some x ∧ RD F ρ Hm x d
  | .ow d, al, v => ∃ a, al = some a ∧ v = some (.ref a) ∧ OwR F ρ Hm H a d
  | .lm, al, v => al = none ∧ ∃ a, F.lm = some a ∧ v = some (.ref a)
  | .er c, al, v => al = none ∧ ∃ a, F.er = some (a, c) ∧ v = some (.ref a)

/-- what an expression's evaluation leaves -/
structure Ext (ρ : List Addr) (H : Hp) (ρ' : List Addr) (H' : Hp) : Prop where
  pre : ∃ e, ρ' = ρ ++ e
  new : ∀ a ∈ ρ', a ∉ ρ → H a = none
  keep : ∀ a o, H a = some o → a ∉ ρ → Nt o → H' a = some o
  there : ∀ a, H a ≠ none → H' a ≠ none
theorem Ext.refl {ρ : List Addr} {H : Hp} : Ext ρ H ρ H := ⟨⟨[], by simp⟩, fun a h n => absurd h n, fun _ _ h _ _ => h, fun _ h => h⟩
structure Rel (F : Fx) (A : Act) (ρ : List Addr) (al : List (Option Addr)) (σ : List Sl) (R : RH) (σV : St) (H : Hp) : Prop where
  ls : σ.length = σV.length
  la : al.length = σV.length
  sl : ∀ i : Nat, i < σV.length → SlR F ρ (mask H (OO A ρ al)) H (gS σ i) (al.getD i none) (σV.getD i none)
  rl : ρ.length = R.length
  rf : ∀ (i : Nat) (a : Addr) (ds : List D), ρ[i]? = some a → R[i]? = some ds → ∃ vs, H a = some (.lst vs) ∧ RDs F ρ (mask H (OO A ρ al)) vs ds
  nd : (ρ ++ owns al).Nodup
  pre : ∃ e, ρ = A.re ++ e
  newO : ∀ a ∈ owns al, A.He a = none
  newR : ∀ a ∈ ρ, a ∉ A.re → A.He a = none
  fr : ∀ a o, A.He a = some o → a ∉ A.re → Nt o → H a = some o
  o0 : ∀ a ∈ A.O0, H a ≠ none ∧ a ∉ ρ ∧ a ∉ owns al
  frN : ∀ a, A.He a ≠ none → H a ≠ none
  tb : LamX.Tabs F.T H
  cr : ∀ O1 H1 ρ1, F.cre = some (O1, H1, ρ1) → (∀ a ∈ A.O0, a ∈ O1 ∨ H1 a = none) ∧ Ext ρ1 H1 A.re A.He

theorem Ext.trans {ρ ρ1 ρ2 : List Addr} {H H1 H2 : Hp} (a : Ext ρ H ρ1 H1) (b : Ext ρ1 H1 ρ2 H2) : Ext ρ H ρ2 H2 where
  pre := by
    obtain ⟨e, rfl⟩ := a.pre
    obtain ⟨e', rfl⟩ := b.pre
    exact ⟨e ++ e', by simp⟩
  new := fun c h n => by
    by_cases q : c ∈ ρ1
    · exact a.new c q n
    · exact Classical.byContradiction fun z => a.there c z (b.new c h q)
  keep := fun c o h n t => by
    have h1 := a.keep c o h n t
    refine b.keep c o h1 (fun q => ?_) t
    have := a.new c q n
    rw [h] at this
    cases this
  there := fun c h => b.there c (a.there c h)
section
variable {F : Fx} {A : Act} {ρ ρ' : List Addr} {al : List (Option Addr)} {σ : List Sl} {R R' : RH} {σV : St} {H H' : Hp}
theorem ext_grow (k : ∀ a o, H a = some o → H' a = some o) : Ext ρ H ρ H' := ⟨⟨[], by simp⟩, fun a h n => absurd h n, fun a o h _ _ => k a o h, fun a h => by
  cases z : H a with
  | none => exact absurd z h
  | some o => rw [k a o z]; simp⟩
/-- tables stand aside from what is changed -/
theorem tab_upd {P : Addr} {q : Str} {p : Addr} {o : HO} (h : LamX.TabS H P q) (n : ∀ u, H p = some u → Nt u ∧ ∀ c q, u ≠ LamX.CodeO c q) : LamX.TabS (upd H p o) P q := by
  obtain ⟨ps, h1, h2, h3⟩ := h
  refine ⟨ps, ?_, h2, fun pos cv e => ?_⟩
  · rw [upd_ne fun z => (n _ (z ▸ h1)).1 _ rfl]
    exact h1
  · obtain ⟨c, e1, e2⟩ := h3 pos cv e
    refine ⟨c, e1, ?_⟩
    rw [upd_ne fun z => (n _ (z ▸ e2)).2 _ _ rfl]
    exact e2
theorem tabs_upd {T : List (Addr × Str)} {p : Addr} {o : HO} (h : LamX.Tabs T H) (n : ∀ u, H p = some u → Nt u ∧ ∀ c q, u ≠ LamX.CodeO c q) : LamX.Tabs T (upd H p o) := fun x hx => tab_upd (h x hx) n
theorem lst_no {p : Addr} {vs : List V} (h : H p = some (.lst vs)) : ∀ u, H p = some u → Nt u ∧ ∀ c q, u ≠ LamX.CodeO c q := fun u e => by
  rw [h] at e
  cases e
  exact ⟨fun _ z => (by cases z), fun _ _ z => (by unfold LamX.CodeO at z; cases z)⟩
theorem own_no {F : Fx} {Hm : Hp} {p : Addr} {d : D} (h : OwR F ρ Hm H p d) : ∀ u, H p = some u → Nt u ∧ ∀ c q, u ≠ LamX.CodeO c q := fun u e => by
  cases d <;> first | exact False.elim h | (obtain ⟨vs, q4, q5⟩ := h; rw [q4] at e; cases e; exact ⟨fun _ z => (by cases z), fun _ _ z => (by unfold LamX.CodeO at z; cases z)⟩)
theorem Rel.ltR (r : Rel F A ρ al σ R σV H) {a : Addr} (h : a ∈ ρ) : ∃ vs, H a = some (.lst vs) := by
  obtain ⟨i, hi⟩ := List.getElem?_of_mem h
  have hl : i < R.length := by rw [← r.rl]; exact (List.getElem?_eq_some_iff.mp hi).1
  obtain ⟨vs, e, _⟩ := r.rf i a R[i] hi (List.getElem?_eq_getElem hl)
  exact ⟨vs, e⟩
theorem Rel.ltO (r : Rel F A ρ al σ R σV H) {a : Addr} (h : a ∈ owns al) : H a ≠ none := by
  obtain ⟨i, hi⟩ := mem_owns.mp h
  have hl : i < σV.length := by rw [← r.la]; exact (List.getElem?_eq_some_iff.mp hi).1
  have q := r.sl i hl
  have e : al.getD i none = some a := by rw [List.getD_eq_getElem?_getD, hi]; rfl
  rw [e] at q
  cases z : gS σ i with
  | no => rw [z] at q; cases q
  | sh d => rw [z] at q; cases q.1
  | lm => rw [z] at q; cases q.1
  | er c => rw [z] at q; cases q.1
  | ow d =>
    rw [z] at q
    obtain ⟨b, e1, _, q⟩ := q
    cases e1
    cases d <;> first | exact False.elim q | (obtain ⟨vs, e, _⟩ := q; rw [e]; simp)
theorem Rel.ltB (r : Rel F A ρ al σ R σV H) {a : Addr} (h : a ∈ A.O0) : H a ≠ none := (r.o0 a h).1
theorem Rel.out (r : Rel F A ρ al σ R σV H) {p : Addr} (h : H p = none) : p ∉ OO A ρ al := fun m => by
  rcases mem_OO.mp m with m | m | m
  · exact r.ltB m h
  · obtain ⟨vs, e⟩ := r.ltR m
    rw [h] at e
    cases e
  · exact r.ltO m h
theorem Ext.mask (e : Ext ρ H ρ' H') : ∀ a o, mask H (OO A ρ al) a = some o → mask H' (OO A ρ' al) a = some o := fun a o h => by
  obtain ⟨h1, h2⟩ := mask_some h
  have n1 : a ∉ A.O0 := fun z => h2 (mem_OO.mpr (.inl z))
  have n2 : a ∉ ρ := fun z => h2 (mem_OO.mpr (.inr (.inl z)))
  have n3 : a ∉ owns al := fun z => h2 (mem_OO.mpr (.inr (.inr z)))
  have n4 : a ∉ ρ' := fun z => by
    have := e.new a z n2
    rw [h1] at this
    cases this
  refine mask_mk (fun z => ?_) (e.keep a o h1 n2 (mask_nt h)) (mask_nt h)
  rcases mem_OO.mp z with z | z | z
  · exact n1 z
  · exact n4 z
  · exact n3 z
/-- a state that differs in new objects and in the identity lists -/
theorem Rel.step (r : Rel F A ρ al σ R σV H) (e : Ext ρ H ρ' H') (nd : ρ'.Nodup) (rl : ρ'.length = R'.length) (rf : ∀ (i : Nat) (a : Addr) (ds : List D), ρ'[i]? = some a → R'[i]? = some ds → ∃ vs, H' a = some (.lst vs) ∧ RDs F ρ' (mask H' (OO A ρ' al)) vs ds) (tb : LamX.Tabs F.T H') :
    Rel F A ρ' al σ R' σV H' where
  ls := r.ls
  la := r.la
  sl := fun i hi => by
    have q := r.sl i hi
    cases z : gS σ i with
    | no => rw [z] at q; exact q
    | lm => rw [z] at q; exact q
    | er c => rw [z] at q; exact q
    | sh d =>
      rw [z] at q
      obtain ⟨q1, x, q2, q3⟩ := q
      exact ⟨q1, x, q2, q3.mono e.pre e.mask⟩
    | ow d =>
      rw [z] at q
      obtain ⟨a, q1, q2, q3⟩ := q
      have ha : a ∈ owns al := mem_owns.mpr ⟨i, by
        rw [List.getD_eq_getElem?_getD] at q1
        cases y : al[i]? with
        | none => rw [y] at q1; cases q1
        | some o => rw [y] at q1; exact congrArg some q1⟩
      have na : a ∉ ρ := fun m => (List.nodup_append.mp r.nd).2.2 a m a ha rfl
      refine ⟨a, q1, q2, ?_⟩
      cases d <;> first | exact False.elim q3 | (obtain ⟨vs, q4, q5⟩ := q3; exact ⟨vs, e.keep a _ q4 na (fun _ z => by cases z), q5.mono e.pre e.mask⟩)
  rl := rl
  rf := rf
  nd := by
    refine List.nodup_append.mpr ⟨nd, (List.nodup_append.mp r.nd).2.1, fun a h b h2 z => ?_⟩
    subst z
    by_cases q : a ∈ ρ
    · exact (List.nodup_append.mp r.nd).2.2 a q a h2 rfl
    · exact r.ltO h2 (e.new a h q)
  pre := by
    obtain ⟨x, rfl⟩ := r.pre
    obtain ⟨y, hy⟩ := e.pre
    exact ⟨x ++ y, by rw [hy, List.append_assoc]⟩
  newO := r.newO
  newR := fun a h n => by
    by_cases q : a ∈ ρ
    · exact r.newR a q n
    · exact Classical.byContradiction fun z => r.frN a z (e.new a h q)
  fr := fun a o h n t => by
    refine e.keep a o (r.fr a o h n t) (fun q => ?_) t
    have := r.newR a q n
    rw [h] at this
    cases this
  frN := fun a h => e.there a (r.frN a h)
  tb := tb
  cr := r.cr
  o0 := fun a h => by
    obtain ⟨h1, h2, h3⟩ := r.o0 a h
    have n : a ∉ ρ' := fun m => h1 (e.new a m h2)
    exact ⟨e.there a h1, n, h3⟩
/-- new objects alone -/
theorem Rel.grow (r : Rel F A ρ al σ R σV H) (k : ∀ a o, H a = some o → H' a = some o) : Rel F A ρ al σ R σV H' := by
  have e : Ext ρ H ρ H' := ext_grow k
  refine r.step e (List.nodup_append.mp r.nd).1 r.rl (fun i a ds h1 h2 => ?_) (r.tb.ext k)
  obtain ⟨vs, q1, q2⟩ := r.rf i a ds h1 h2
  exact ⟨vs, k _ _ q1, q2.mono e.pre e.mask⟩
theorem upd_keep {p : Addr} {o : HO} (hp : H p = none) : ∀ a u, H a = some u → upd H p o a = some u := fun a u h => by rw [upd_ne (ne_of_none h hp)]; exact h
end
end Cw

end
section
/-! CwD: readings of own expressions; the rules. -/
namespace Cw
open PySem L2

/-- what is wanted of an exception of the class c -/
abbrev XW := Nat → L2.St → Hp → Prop
def XW.wx (F : Fx) (W : XW) : WX := fun cls d σ H => ∃ c C, cls = .ref C ∧ F.ca c = some C ∧ d = none ∧ W c σ H
def Post {α β : Type} (F : Fx) (A : Act) (al : List (Option Addr)) (W : XW) (σ : List Sl) (σV : L2.St) (ρ : List Addr) (H : Hp) (r : Res α) (Rl : List Addr → Hp → β → α → Prop) (Q : β → Hp → Prop) : Prop := match r with
  | .ok d R' => ∀ v H' ρ', Rel F A ρ' al σ R' σV H' → Ext ρ H ρ' H' → Rl ρ' H' v d → Q v H'
  | .exc c R' => ∀ H' ρ', Rel F A ρ' al σ R' σV H' → Ext ρ H ρ' H' → W c σV H'
  | .bad => False
/-- kept -/
def RM (F : Fx) (A : Act) (al : List (Option Addr)) : List Addr → Hp → V → D → Prop := fun ρ H v d => RD F ρ (mask H (OO A ρ al)) v d
/-- only read: it may be an own list -/
def RT (F : Fx) (A : Act) (al : List (Option Addr)) : List Addr → Hp → V → D → Prop := fun ρ H v d => RD F ρ (mask H (OO A ρ al)) v d ∨ ∃ a, v = .ref a ∧ a ∉ ρ ∧ OwR F ρ (mask H (OO A ρ al)) H a d
def RMs (F : Fx) (A : Act) (al : List (Option Addr)) : List Addr → Hp → List V → List D → Prop := fun ρ H v d => RDs F ρ (mask H (OO A ρ al)) v d
inductive All2 {α β : Type} (P : α → β → Prop) : List α → List β → Prop
  | nil : All2 P [] []
  | cons {a : α} {b : β} {l : List α} {m : List β} : P a b → All2 P l m → All2 P (a :: l) (b :: m)
theorem All2.imp {α β : Type} {P P' : α → β → Prop} (h : ∀ a b, P a b → P' a b) : ∀ {l : List α} {m : List β}, All2 P l m → All2 P' l m
  | _, _, .nil => .nil
  | _, _, .cons a t => .cons (h _ _ a) (All2.imp h t)
def RTs (F : Fx) (A : Act) (al : List (Option Addr)) : List Addr → Hp → List V → List D → Prop := fun ρ H v d => All2 (RT F A al ρ H) v d
section
variable {F : Fx} {A : Act} {al : List (Option Addr)} {W : XW} {σ : List Sl} {σV : L2.St} {ρ ρ1 ρ2 : List Addr} {H H1 H2 : Hp} {R R1 R2 : RH}
theorem Post.ext {α β : Type} {r : Res α} {Rl : List Addr → Hp → β → α → Prop} {Q : β → Hp → Prop} (p : Post F A al W σ σV ρ H r Rl Q) (e : Ext ρ H ρ1 H1) : Post F A al W σ σV ρ1 H1 r Rl Q := by
  cases r with
  | ok d R' => exact fun v H' ρ' a b c => p v H' ρ' a (e.trans b) c
  | exc c R' => exact fun H' ρ' a b => p H' ρ' a (e.trans b)
  | bad => exact p
theorem Post.bind {α β γ δ : Type} {r : Res α} {f : α → RH → Res γ} {Rl : List Addr → Hp → β → α → Prop} {Rl2 : List Addr → Hp → δ → γ → Prop} {Q : δ → Hp → Prop} {Q1 : β → Hp → Prop}
    (p : Post F A al W σ σV ρ H (r.bind f) Rl2 Q)
    (h : ∀ d R1 v H1 ρ1, Rel F A ρ1 al σ R1 σV H1 → Ext ρ H ρ1 H1 → Rl ρ1 H1 v d → Post F A al W σ σV ρ1 H1 (f d R1) Rl2 Q → Q1 v H1) : Post F A al W σ σV ρ H r Rl Q1 := by
  cases r with
  | ok d R' => exact fun v H' ρ' a b c => h d R' v H' ρ' a b c (p.ext b)
  | exc c R' => exact p
  | bad => exact p
theorem Post.of {α β : Type} {o : Option α} {Rl : List Addr → Hp → β → α → Prop} {Q : β → Hp → Prop} (p : Post F A al W σ σV ρ H (Res.of o R) Rl Q) : ∃ d, o = some d ∧ Post F A al W σ σV ρ H (.ok d R) Rl Q := by
  cases o with
  | none => exact p.elim
  | some d => exact ⟨d, rfl, p⟩
/-- the end: the same heap -/
theorem Post.here {α β : Type} {d : α} {v : β} {Rl : List Addr → Hp → β → α → Prop} {Q : β → Hp → Prop} (p : Post F A al W σ σV ρ H (.ok d R) Rl Q) (r : Rel F A ρ al σ R σV H) (q : Rl ρ H v d) : Q v H := p v H ρ r Ext.refl q
/-- the end: a new object -/
theorem Post.new {α β : Type} {d : α} {v : β} {p : Addr} {o : HO} {Rl : List Addr → Hp → β → α → Prop} {Q : β → Hp → Prop} (q : Post F A al W σ σV ρ H (.ok d R) Rl Q) (r : Rel F A ρ al σ R σV H) (hp : H p = none) (z : Rl ρ (upd H p o) v d) : Q v (upd H p o) :=
  q v _ ρ (r.grow (upd_keep hp)) (ext_grow (upd_keep hp)) z
theorem grow_mask {p : Addr} {o : HO} (hp : H p = none) : ∀ a u, mask H (OO A ρ al) a = some u → mask (upd H p o) (OO A ρ al) a = some u := fun a u h => by
  obtain ⟨h1, h2⟩ := mask_some h
  exact mask_mk h2 (upd_keep hp a u h1) (mask_nt h)
theorem Rel.newMask (r : Rel F A ρ al σ R σV H) {p : Addr} {o : HO} (hp : H p = none) (n : Nt o := by intro _ z; cases z) : mask (upd H p o) (OO A ρ al) p = some o := mask_mk (r.out hp) upd_same n
theorem RM.tup (r : Rel F A ρ al σ R σV H) {p : Addr} {vs : List V} {ds : List D} (hp : H p = none) (h : RMs F A al ρ H vs ds) : RM F A al ρ (upd H p (.tup vs)) (.ref p) (.tup ds) :=
  RD.tup (.inl (.inl (r.newMask hp))) (RDs.mono ⟨[], by simp⟩ (grow_mask hp) h)
theorem RM.lst (r : Rel F A ρ al σ R σV H) {p : Addr} {vs : List V} {ds : List D} (hp : H p = none) (h : RMs F A al ρ H vs ds) : RM F A al ρ (upd H p (.lst vs)) (.ref p) (.lst ds) :=
  RD.lst (r.newMask hp) (RDs.mono ⟨[], by simp⟩ (grow_mask hp) h)
theorem RM.rt {v : V} {d : D} (h : RM F A al ρ H v d) : RT F A al ρ H v d := .inl h
theorem RM.ext {v : V} {d : D} (h : RM F A al ρ H v d) (e : Ext ρ H ρ1 H1) : RM F A al ρ1 H1 v d := RD.mono e.pre e.mask h
theorem RMs.ext {v : List V} {d : List D} (h : RMs F A al ρ H v d) (e : Ext ρ H ρ1 H1) : RMs F A al ρ1 H1 v d := RDs.mono e.pre e.mask h
theorem RT.ext {v : V} {d : D} (h : RT F A al ρ H v d) (e : Ext ρ H ρ1 H1) : RT F A al ρ1 H1 v d := by
  rcases h with h | ⟨a, rfl, n, h⟩
  · exact .inl (RM.ext h e)
  · refine .inr ⟨a, rfl, fun m => ?_, ?_⟩
    · cases d <;> first | exact False.elim h | (obtain ⟨vs, q, _⟩ := h; have := e.new a m n; rw [q] at this; cases this)
    · cases d <;> first | exact False.elim h | (obtain ⟨vs, q, q2⟩ := h; exact ⟨vs, e.keep a _ q n (fun _ z => by cases z), q2.mono e.pre e.mask⟩)
theorem RTs.ext {v : List V} {d : List D} (h : RTs F A al ρ H v d) (e : Ext ρ H ρ1 H1) : RTs F A al ρ1 H1 v d := All2.imp (fun _ _ x => RT.ext x e) h
/-! what is read of them -/
theorem RT.non {v : V} (h : RT F A al ρ H v .non) : v = .non := by
  rcases h with h | ⟨a, _, _, h⟩
  · cases h; rfl
  · exact h.elim
theorem RT.bl {v : V} {b : Bool} (h : RT F A al ρ H v (.bl b)) : v = .bl b := by
  rcases h with h | ⟨a, _, _, h⟩
  · cases h; rfl
  · exact h.elim
theorem RT.int {v : V} {b : Int} (h : RT F A al ρ H v (.int b)) : v = .int b := by
  rcases h with h | ⟨a, _, _, h⟩
  · cases h; rfl
  · exact h.elim
theorem RT.str {v : V} {b : Str} (h : RT F A al ρ H v (.str b)) : v = .str b := by
  rcases h with h | ⟨a, _, _, h⟩
  · cases h; rfl
  · exact h.elim
theorem sqT_of {O : List Addr} {a : Addr} {vs : List V} (h : SqT F.K (mask H O) a vs) : SqT F.K H a vs := sqT_mono (fun _ _ q => (mask_some q).1) h
theorem sqL_of {O : List Addr} {a : Addr} {vs : List V} (h : SqL F.K (mask H O) a vs) : SqL F.K H a vs := sqL_mono (fun _ _ q => (mask_some q).1) h
theorem RT.tup {v : V} {ds : List D} (h : RT F A al ρ H v (.tup ds)) : ∃ a vs, v = .ref a ∧ SqT F.K H a vs ∧ RMs F A al ρ H vs ds := by
  rcases h with h | ⟨a, _, _, h⟩
  · cases h with
    | tup h t => exact ⟨_, _, rfl, sqT_of h, t⟩
  · exact h.elim
theorem RT.lst {v : V} {ds : List D} (h : RT F A al ρ H v (.lst ds)) : ∃ a vs, v = .ref a ∧ H a = some (.lst vs) ∧ RMs F A al ρ H vs ds := by
  rcases h with h | ⟨a, rfl, _, vs, h, t⟩
  · cases h with
    | lst h t => exact ⟨_, _, rfl, (mask_some h).1, t⟩
  · exact ⟨_, _, rfl, h, t⟩
theorem RT.frz {v : V} {ds : List D} (h : RT F A al ρ H v (.frz ds)) : ∃ a vs, v = .ref a ∧ SqL F.K H a vs ∧ RMs F A al ρ H vs ds := by
  rcases h with h | ⟨a, _, _, h⟩
  · cases h with
    | frz h t => exact ⟨_, _, rfl, sqL_of h, t⟩
  · exact h.elim
theorem RT.dK {v : V} {ds : List (Key × D)} (h : RT F A al ρ H v (.dK ds)) : ∃ a vs, v = .ref a ∧ H a = some (.dK vs) ∧ RDp F ρ (mask H (OO A ρ al)) vs ds := by
  rcases h with h | ⟨a, rfl, _, vs, h, t⟩
  · cases h with
    | dK h t => exact ⟨_, _, rfl, (mask_some h).1, t⟩
  · exact ⟨_, _, rfl, h, t⟩
theorem RT.ref {v : V} {i : Nat} (h : RT F A al ρ H v (.ref i)) : ∃ a, v = .ref a ∧ ρ[i]? = some a := by
  rcases h with h | ⟨a, _, _, h⟩
  · cases h with
    | ref h => exact ⟨_, rfl, h⟩
  · exact h.elim
theorem RMs.length {vs : List V} {ds : List D} (h : RMs F A al ρ H vs ds) : vs.length = ds.length := RDs.length h
end

/-! ### readings -/
section
variable (F : Fx) (W : XW) (ck : Nat → List D → RH → Res D)
/-- kept -/
def tS (x : Ex) : TE := fun σV H Q => ∃ A ρ al σ R, Rel F A ρ al σ R σV H ∧ Post F A al W σ σV ρ H (stx x σ (ev ck x σ R)) (RM F A al) Q
/-- only read -/
def tB (x : Ex) : TE := fun σV H Q => ∃ A ρ al σ R, Rel F A ρ al σ R σV H ∧ Post F A al W σ σV ρ H (ev ck x σ R) (RT F A al) Q
def tAs (xs : Exs) : TA := fun σV H Q => ∃ A ρ al σ R, Rel F A ρ al σ R σV H ∧ Post F A al W σ σV ρ H (evs ck xs σ R) (RMs F A al) Q
def tAb (xs : Exs) : TA := fun σV H Q => ∃ A ρ al σ R, Rel F A ρ al σ R σV H ∧ Post F A al W σ σV ρ H (evb ck xs σ R) (RTs F A al) Q
/-- a test -/
def RB : List Addr → Hp → Bool → D → Prop := fun _ _ b d => d = .bl b
def tT (x : Ex) : TT := fun σV H Q => ∃ A ρ al σ R, Rel F A ρ al σ R σV H ∧ Post F A al W σ σV ρ H (ev ck x σ R) RB Q
end
theorem PE.by {X : Cx} {e : Expr} {t t' : TE} (h : PE X e t) (i : ∀ σ H Q, t' σ H Q → t σ H Q) : PE X e t' := ⟨fun pins s σ H Q I q => h.run pins s σ H Q I (i σ H Q q)⟩
theorem PA.by {X : Cx} {e : List Expr} {t t' : TA} (h : PA X e t) (i : ∀ σ H Q, t' σ H Q → t σ H Q) : PA X e t' := ⟨fun pos pins s σ H Q I q => h.run pos pins s σ H Q I (i σ H Q q)⟩
theorem PT.by {X : Cx} {e : Expr} {t t' : TT} (h : PT X e t) (i : ∀ σ H Q, t' σ H Q → t σ H Q) : PT X e t' := ⟨fun pins s σ H Q I q => h.run pins s σ H Q I (i σ H Q q)⟩
theorem PW.by {X : Cx} {e : Expr} {t t' : TT} (h : PW X e t) (i : ∀ σ H Q, t' σ H Q → t σ H Q) : PW X e t' := ⟨fun wh pins s σ H Q I q => h.run wh pins s σ H Q I (i σ H Q q)⟩

def isVar : Ex → Bool
  | .var _ => true
  | _ => false
theorem stx_not {x : Ex} {σ : List Sl} {r : Res D} (h : isVar x = false) : stx x σ r = r := by
  cases x <;> first | rfl | cases h
section
variable {F : Fx} {A : Act} {W : XW} {ck : Nat → List D → RH → Res D} {X : Cx} {e : Expr} {x : Ex}
/-- what is kept may be read -/
theorem tB_of (hv : isVar x = false) (h : PE X e (tS F W ck x)) : PE X e (tB F W ck x) := PE.by h fun σV H Q ⟨A, ρ, al, σ, R, r, p⟩ => ⟨A, ρ, al, σ, R, r, by
  rw [stx_not hv]
  cases q : ev ck x σ R with
  | ok d R' =>
    rw [q] at p
    exact fun v H' ρ' a b c => p v H' ρ' a b (RM.rt c)
  | exc c R' => rw [q] at p; exact p
  | bad => rw [q] at p; exact p⟩

/-! ### names, constants -/
theorem slot_at {i : Nat} {σ : List Sl} {d : Sl} : gS σ i = d → d ≠ .no → i < σ.length := by
  induction σ generalizing i with
  | nil => intro h n; exact absurd h.symm n
  | cons s l ih =>
    intro h n
    cases i with
    | zero => exact Nat.succ_pos _
    | succ i => exact Nat.succ_lt_succ (ih (i := i) h n)
theorem getD_some {σV : L2.St} {i : Nat} {v : V} (h : σV.getD i none = some v) : σV[i]? = some (some v) := by
  rw [List.getD_eq_getElem?_getD] at h
  cases q : σV[i]? with
  | none => rw [q] at h; cases h
  | some o => rw [q] at h; exact congrArg some h
theorem Rel.sh {ρ : List Addr} {al : List (Option Addr)} {σ : List Sl} {R : RH} {σV : L2.St} {H : Hp} (r : Rel F A ρ al σ R σV H) {i : Nat} {d : D} (h : gS σ i = .sh d) : ∃ v, σV[i]? = some (some v) ∧ RM F A al ρ H v d := by
  have hi := slot_at h (by simp)
  have q := r.sl i (by rw [← r.ls]; exact hi)
  rw [h] at q
  obtain ⟨_, v, q2, q3⟩ := q
  exact ⟨v, getD_some q2, q3⟩
theorem Rel.ow {ρ : List Addr} {al : List (Option Addr)} {σ : List Sl} {R : RH} {σV : L2.St} {H : Hp} (r : Rel F A ρ al σ R σV H) {i : Nat} {d : D} (h : gS σ i = .ow d) : ∃ a, σV[i]? = some (some (.ref a)) ∧ al.getD i none = some a ∧ a ∈ owns al ∧ a ∉ ρ ∧ OwR F ρ (mask H (OO A ρ al)) H a d := by
  have hi := slot_at h (by simp)
  have q := r.sl i (by rw [← r.ls]; exact hi)
  rw [h] at q
  obtain ⟨a, q1, q2, q3⟩ := q
  have ha : a ∈ owns al := mem_owns.mpr ⟨i, by
    rw [List.getD_eq_getElem?_getD] at q1
    cases y : al[i]? with
    | none => rw [y] at q1; cases q1
    | some o => rw [y] at q1; exact congrArg some q1⟩
  exact ⟨a, getD_some q2, q1, ha, fun m => (List.nodup_append.mp r.nd).2.2 a m a ha rfl, q3⟩
theorem snd_varB {i : Nat} (h : PE X e (tVar i)) : PE X e (tB F W ck (.var i)) := PE.by h fun σV H Q ⟨A, ρ, al, σ, R, r, p⟩ => by
  obtain ⟨d, e1, p⟩ := Post.of p
  cases q : gS σ i with
  | no => rw [q] at e1; cases e1
  | lm => rw [q] at e1; cases e1
  | er c => rw [q] at e1; cases e1
  | sh d' =>
    rw [q] at e1
    cases e1
    obtain ⟨v, h1, h2⟩ := r.sh q
    exact ⟨v, h1, p.here r (.inl h2)⟩
  | ow d' =>
    rw [q] at e1
    cases e1
    obtain ⟨a, h1, _, _, h3, h4⟩ := r.ow q
    exact ⟨_, h1, p.here r (.inr ⟨a, rfl, h3, h4⟩)⟩
theorem snd_varS {i : Nat} (h : PE X e (tVar i)) : PE X e (tS F W ck (.var i)) := PE.by h fun σV H Q ⟨A, ρ, al, σ, R, r, p⟩ => by
  unfold stx at p
  cases q : gS σ i with
  | no => simp only [q, isOw] at p; obtain ⟨d, e1, _⟩ := Post.of (R := R) (by simpa [ev, q, Sl.val] using p); cases e1
  | lm => simp only [q, isOw] at p; obtain ⟨d, e1, _⟩ := Post.of (R := R) (by simpa [ev, q, Sl.val] using p); cases e1
  | er c => simp only [q, isOw] at p; obtain ⟨d, e1, _⟩ := Post.of (R := R) (by simpa [ev, q, Sl.val] using p); cases e1
  | sh d' =>
    have p : Post F A al W σ σV ρ H (Res.of (some d') R) (RM F A al) Q := by simpa [ev, q, Sl.val, isOw] using p
    obtain ⟨v, h1, h2⟩ := r.sh q
    exact ⟨v, h1, p v H ρ r Ext.refl h2⟩
  | ow d' => simp [q, isOw] at p; exact p.elim
/-- a constant of the text or of the module -/
def ConOk (F : Fx) (v : V) (d : D) : Prop := ∀ ρ H, RD F ρ H v d
theorem snd_con {v : V} {d : D} (h : PE X e (tC v)) (c : ConOk F v d) : PE X e (tS F W ck (.con d)) := PE.by h fun σV H Q ⟨A, ρ, al, σ, R, r, p⟩ => p v H ρ r Ext.refl (c _ _)
/-! ### lists of arguments -/
def isStar : Expr → Bool
  | .Starred .. => true
  | _ => false
theorem star_cons {e : Expr} {es : List Expr} {env : Env} (h : isStar e = false) : starEach (e :: es) env = (false, eval e env) :: starEach es env := by
  cases e <;> first | rfl | cases h
theorem snd_nilS : PA X [] (tAs F W ck .nil) := PA.by pa_nil fun σV H Q ⟨A, ρ, al, σ, R, r, p⟩ => p [] H ρ r Ext.refl .nil
theorem snd_nilB : PA X [] (tAb F W ck .nil) := PA.by pa_nil fun σV H Q ⟨A, ρ, al, σ, R, r, p⟩ => p [] H ρ r Ext.refl .nil
theorem snd_consS {es : List Expr} {xs : Exs} (hs : isStar e = false) (h : PE X e (tS F W ck x)) (t : PA X es (tAs F W ck xs)) : PA X (e :: es) (tAs F W ck (.cons x xs)) :=
  PA.by (pa_cons h t (star_cons hs)) fun σV H Q ⟨A, ρ, al, σ, R, r, p⟩ => ⟨A, ρ, al, σ, R, r, Post.bind (Q1 := fun v H1 => tAs F W ck xs σV H1 fun vs H2 => Q (v :: vs) H2) p fun d R1 v H1 ρ1 r1 e1 q1 p1 => ⟨A, ρ1, al, σ, R1, r1, p1.bind fun ds R2 vs H2 ρ2 r2 e2 q2 p2 => p2 _ H2 ρ2 r2 Ext.refl (.cons (RM.ext q1 e2) q2)⟩⟩
theorem snd_consB {es : List Expr} {xs : Exs} (hs : isStar e = false) (h : PE X e (tB F W ck x)) (t : PA X es (tAb F W ck xs)) : PA X (e :: es) (tAb F W ck (.cons x xs)) :=
  PA.by (pa_cons h t (star_cons hs)) fun σV H Q ⟨A, ρ, al, σ, R, r, p⟩ => ⟨A, ρ, al, σ, R, r, Post.bind (Q1 := fun v H1 => tAb F W ck xs σV H1 fun vs H2 => Q (v :: vs) H2) p fun d R1 v H1 ρ1 r1 e1 q1 p1 => ⟨A, ρ1, al, σ, R1, r1, p1.bind fun ds R2 vs H2 ρ2 r2 e2 q2 p2 => p2 _ H2 ρ2 r2 Ext.refl (.cons (RT.ext q1 e2) q2)⟩⟩
def lenX : Exs → Nat
  | .nil => 0
  | .cons _ es => lenX es + 1
theorem evs_len : ∀ {xs : Exs} {σ : List Sl} {R R' : RH} {ds : List D}, evs ck xs σ R = .ok ds R' → ds.length = lenX xs
  | .nil, σ, R, R', ds, h => by
    simp only [evs] at h
    cases h
    rfl
  | .cons x xs, σ, R, R', ds, h => by
    simp only [evs] at h
    cases q : stx x σ (ev ck x σ R) with
    | ok d R1 =>
      rw [q] at h
      simp only [Res.bind] at h
      cases q2 : evs ck xs σ R1 with
      | ok l R2 =>
        rw [q2] at h
        cases h
        exact congrArg (· + 1) (evs_len q2)
      | exc c R2 => rw [q2] at h; cases h
      | bad => rw [q2] at h; cases h
    | exc c R2 => rw [q] at h; cases h
    | bad => rw [q] at h; cases h
theorem line_of {n : Nat} (h : n ≤ 1000) : n ≤ sizeLine := Nat.le_trans h (by decide)
theorem snd_tup {es : List Expr} {xs : Exs} {pos : Pos} {x1} (h : PA X es (tAs F W ck xs)) (hl : lenX xs ≤ 1000) : PE X (.Tuple es x1 pos) (tS F W ck (.tup xs)) :=
  PE.by (pe_tup h) fun σV H Q ⟨A, ρ, al, σ, R, r, p⟩ => ⟨A, ρ, al, σ, R, r, by
    have p : Post F A al W σ σV ρ H ((evs ck xs σ R).bind fun ds R => .ok (.tup ds) R) (RM F A al) Q := p
    cases q : evs ck xs σ R with
    | ok ds R1 =>
      rw [q] at p
      exact fun vs H1 ρ1 r1 e1 q1 => ⟨by rw [RMs.length q1, evs_len q]; exact line_of hl, fun a ha => (Post.ext p e1).new r1 ha (RM.tup r1 ha q1)⟩
    | exc c R1 => rw [q] at p; exact p
    | bad => rw [q] at p; exact p⟩
theorem snd_lst {es : List Expr} {xs : Exs} {pos : Pos} (h : PA X es (tAs F W ck xs)) (hl : lenX xs ≤ 1000) : PE X (.List es pos) (tS F W ck (.lst xs)) :=
  PE.by (pe_lst h) fun σV H Q ⟨A, ρ, al, σ, R, r, p⟩ => ⟨A, ρ, al, σ, R, r, by
    have p : Post F A al W σ σV ρ H ((evs ck xs σ R).bind fun ds R => .ok (.lst ds) R) (RM F A al) Q := p
    cases q : evs ck xs σ R with
    | ok ds R1 =>
      rw [q] at p
      exact fun vs H1 ρ1 r1 e1 q1 => ⟨by rw [RMs.length q1, evs_len q]; exact line_of hl, fun a ha => (Post.ext p e1).new r1 ha (RM.lst r1 ha q1)⟩
    | exc c R1 => rw [q] at p; exact p
    | bad => rw [q] at p; exact p⟩
end
end Cw

end
section
/-! CwE: operators, comparisons, tests. -/
namespace Cw
open PySem L2 PyProof.Rows

/-! ### data as the library's -/
mutual
def toPy : D → PyData
  | .non => .none
  | .bl b => .bool b
  | .int i => .int i
  | .str x => .str x
  | .tup xs => .tuple (toPys xs)
  | .lst xs => .list (toPys xs)
  | _ => .none
def toPys : List D → List PyData
  | [] => []
  | x :: xs => toPy x :: toPys xs
end
mutual
theorem canLay_of : ∀ d : D, plain d = true → (toPy d).canLay0 = true
  | .non, _ => by simp [toPy, PyData.canLay0]
  | .bl _, _ => by simp [toPy, PyData.canLay0]
  | .int _, _ => by simp [toPy, PyData.canLay0]
  | .str x, h => by simpa [toPy, PyData.canLay0, plain] using h
  | .tup xs, h => by
    simp only [toPy, PyData.canLay0]
    exact canLays_of xs (by simpa [plain] using h)
  | .lst xs, h => by
    simp only [toPy, PyData.canLay0]
    exact canLays_of xs (by simpa [plain] using h)
  | .dK _, h => by simp [plain] at h
  | .dT _, h => by simp [plain] at h
  | .ref _, h => by simp [plain] at h
  | .fn _, h => by simp [plain] at h
  | .frz _, h => by simp [plain] at h
theorem canLays_of : ∀ l : List D, plains l = true → PyData.canLayAll0 (toPys l) = true
  | [], _ => by simp [toPys, PyData.canLayAll0]
  | x :: l, h => by
    simp only [plains, Bool.and_eq_true] at h
    simp only [toPys, PyData.canLayAll0, Bool.and_eq_true]
    exact ⟨canLay_of x h.1, canLays_of l h.2⟩
end
mutual
theorem depth_of : ∀ d : D, plain d = true → (toPy d).depth = dep d
  | .non, _ => by simp [toPy, PyData.depth, dep]
  | .bl _, _ => by simp [toPy, PyData.depth, dep]
  | .int _, _ => by simp [toPy, PyData.depth, dep]
  | .str x, h => by simp [toPy, PyData.depth, dep]
  | .tup xs, h => by
    simp only [toPy, PyData.depth, dep]
    rw [depths_of xs (by simpa [plain] using h)]
  | .lst xs, h => by
    simp only [toPy, PyData.depth, dep]
    rw [depths_of xs (by simpa [plain] using h)]
  | .dK _, h => by simp [plain] at h
  | .dT _, h => by simp [plain] at h
  | .ref _, h => by simp [plain] at h
  | .fn _, h => by simp [plain] at h
  | .frz _, h => by simp [plain] at h
theorem depths_of : ∀ l : List D, plains l = true → PyData.depthAll (toPys l) = deps l
  | [], _ => by simp [toPys, PyData.depthAll, deps]
  | x :: l, h => by
    simp only [plains, Bool.and_eq_true] at h
    simp only [toPys, PyData.depthAll, deps]
    rw [depth_of x h.1, depths_of l h.2]
end
mutual
theorem deq_of : ∀ x y : D, plain x = true → plain y = true → PyData.eqv (toPy x) (toPy y) = deq x y
  | .non, y, _, h => by cases y <;> first | (simp [toPy, PyData.eqv, deq]; done) | (simp [plain] at h; done)
  | .bl _, y, _, h => by cases y <;> first | (simp [toPy, PyData.eqv, deq]; done) | (simp [plain] at h; done)
  | .int _, y, _, h => by cases y <;> first | (simp [toPy, PyData.eqv, deq]; done) | (simp [plain] at h; done)
  | .str x, y, _, h => by cases y <;> first | (simp [toPy, PyData.eqv, deq]; done) | (simp [plain] at h; done)
  | .tup xs, y, h1, h => by
    cases y with
    | tup ys => simp only [toPy, PyData.eqv, deq]; exact deqs_of xs ys (by simpa [plain] using h1) (by simpa [plain] using h)
    | _ => first | (simp [toPy, PyData.eqv, deq]; done) | (simp [plain] at h; done)
  | .lst xs, y, h1, h => by
    cases y with
    | lst ys => simp only [toPy, PyData.eqv, deq]; exact deqs_of xs ys (by simpa [plain] using h1) (by simpa [plain] using h)
    | _ => first | (simp [toPy, PyData.eqv, deq]; done) | (simp [plain] at h; done)
  | .dK _, _, h, _ => by simp [plain] at h
  | .dT _, _, h, _ => by simp [plain] at h
  | .ref _, _, h, _ => by simp [plain] at h
  | .fn _, _, h, _ => by simp [plain] at h
  | .frz _, _, h, _ => by simp [plain] at h
theorem deqs_of : ∀ x y : List D, plains x = true → plains y = true → PyData.eqvAll (toPys x) (toPys y) = deqs x y
  | [], [], _, _ => by simp [toPys, PyData.eqvAll, deqs]
  | [], _ :: _, _, _ => by simp [toPys, PyData.eqvAll, deqs]
  | _ :: _, [], _, _ => by simp [toPys, PyData.eqvAll, deqs]
  | x :: l, y :: m, h, h2 => by
    simp only [plains, Bool.and_eq_true] at h h2
    simp only [toPys, PyData.eqvAll, deqs]
    rw [deq_of x y h.1 h2.1, deqs_of l m h.2 h2.2]
end
theorem flt_plain {d : D} (h : flt d = true) : plain d = true := (Bool.and_eq_true_iff.mp h).1
theorem flt_dep {d : D} (h : flt d = true) : dep d ≤ 60 := of_decide_eq_true (Bool.and_eq_true_iff.mp h).2
theorem shaped_of {d : D} (h : flt d = true) : SeqAt.shaped (toPy d) = true := by
  unfold SeqAt.shaped
  rw [canLay_of d (flt_plain h), depth_of d (flt_plain h)]
  simp only [Bool.true_and, decide_eq_true_eq]
  have := flt_dep h
  omega
section
variable {F : Fx} {ρ : List Addr} {H Hm : Hp}
mutual
theorem RD.dp (k : ∀ a o, Hm a = some o → H a = some o) : ∀ {v : V} {d : D}, RD F ρ Hm v d → plain d = true → Dp F.K H v (toPy d)
  | _, _, .non, _ => .non
  | _, _, .bl b, _ => .bl b
  | _, _, .int i, _ => .int i
  | _, _, .str x, _ => .str x
  | _, _, .tup h t, p => .tup (sqT_mono k h) (RDs.dp k t (by simpa [plain] using p))
  | _, _, .lst h t, p => .lst (.of (k _ _ h)) (RDs.dp k t (by simpa [plain] using p))
  | _, _, .frz _ _, p => by simp [plain] at p
  | _, _, .dK _ _, p => by simp [plain] at p
  | _, _, .dT _ _, p => by simp [plain] at p
  | _, _, .ref _, p => by simp [plain] at p
  | _, _, .fn _, p => by simp [plain] at p
theorem RDs.dp (k : ∀ a o, Hm a = some o → H a = some o) : ∀ {v : List V} {d : List D}, RDs F ρ Hm v d → plains d = true → DpAll F.K H v (toPys d)
  | _, _, .nil, _ => .nil
  | _, _, .cons h t, p => by
    simp only [plains, Bool.and_eq_true] at p
    exact .cons (RD.dp k h p.1) (RDs.dp k t p.2)
end
end
section
variable {F : Fx} {A : Act} {al : List (Option Addr)} {W : XW} {σ : List Sl} {σV : L2.St} {ρ : List Addr} {H : Hp} {R : RH}
theorem RT.dp {v : V} {d : D} (h : RT F A al ρ H v d) (p : plain d = true) : Dp F.K H v (toPy d) := by
  have k : ∀ a o, mask H (OO A ρ al) a = some o → H a = some o := fun _ _ q => (mask_some q).1
  rcases h with h | ⟨a, rfl, _, h⟩
  · exact RD.dp k h p
  · cases d <;> first | exact False.elim h | (simp [plain] at p; done) | skip
    obtain ⟨vs, h1, h2⟩ := h
    exact .lst (.of h1) (RDs.dp k h2 (by simpa [plain] using p))
theorem RMs.dp {v : List V} {d : List D} (h : RMs F A al ρ H v d) (p : plains d = true) : DpAll F.K H v (toPys d) := RDs.dp (fun _ _ q => (mask_some q).1) h p
end

/-! ### < of data -/
theorem plains_all {l : List D} (h : plains l = true) : ∀ (i : Nat) (d : D), l[i]? = some d → plain d = true := by
  induction l with
  | nil => intro i d e; simp at e
  | cons x l ih =>
    simp only [plains, Bool.and_eq_true] at h
    intro i d e
    cases i with
    | zero => simp at e; subst e; exact h.1
    | succ i => exact ih h.2 i d (by simpa using e)
theorem deps_all {l : List D} : ∀ (i : Nat) (d : D), l[i]? = some d → dep d ≤ deps l := by
  induction l with
  | nil => intro i d e; simp at e
  | cons x l ih =>
    intro i d e
    simp only [deps]
    cases i with
    | zero => simp at e; subst e; omega
    | succ i => have := ih i d (by simpa using e); omega
theorem cmpbs_all : ∀ {l m : List D}, cmpbs l m = true → ∀ (i : Nat) d e, l[i]? = some d → m[i]? = some e → cmpb d e = true
  | [], _, _, i, d, e, h, _ => by simp at h
  | _ :: _, [], _, i, d, e, _, h => by simp at h
  | x :: l, y :: m, h, i, d, e, h1, h2 => by
    simp only [cmpbs, Bool.and_eq_true] at h
    cases i with
    | zero => simp at h1 h2; subst h1 h2; exact h.1
    | succ i => exact cmpbs_all h.2 i d e (by simpa using h1) (by simpa using h2)
/-- dlts by places -/
theorem dlts_at : ∀ (xs ys : List D) (e r : Nat → Bool), (∀ (j : Nat) x y, xs[j]? = some x → ys[j]? = some y → e j = deq x y ∧ (e j = false → r j = dlt x y)) → ∀ k, k ≤ min xs.length ys.length →
    Ob.lexAt e r (decide (xs.length < ys.length)) (min xs.length ys.length - k) k = (if (xs.drop (min xs.length ys.length - k)).length = 0 ∨ True then dlts (xs.drop (min xs.length ys.length - k)) (ys.drop (min xs.length ys.length - k)) else false) := by
  intro xs ys e r h k
  induction k with
  | zero =>
    intro _
    rw [if_pos (.inr trivial), Ob.lexAt_zero, Nat.sub_zero]
    by_cases q : xs.length < ys.length
    · rw [decide_eq_true q, Nat.min_eq_left (Nat.le_of_lt q)]
      have h1 : xs.drop xs.length = [] := List.drop_length
      rw [h1]
      cases z : ys.drop xs.length with
      | nil => have := congrArg List.length z; rw [List.length_drop] at this; simp at this; omega
      | cons y m => rfl
    · rw [decide_eq_false q, Nat.min_eq_right (Nat.le_of_not_lt q)]
      have h1 : ys.drop ys.length = [] := List.drop_length
      rw [h1]
      cases z : xs.drop ys.length with
      | nil => rfl
      | cons y m => rfl
  | succ k ih =>
    intro hk
    rw [if_pos (.inr trivial)]
    have ih := ih (by omega)
    rw [if_pos (.inr trivial)] at ih
    rw [Ob.lexAt_succ]
    have hx : min xs.length ys.length - (k + 1) < xs.length := by omega
    have hy : min xs.length ys.length - (k + 1) < ys.length := by omega
    rw [List.drop_eq_getElem_cons hx, List.drop_eq_getElem_cons hy]
    have e1 : min xs.length ys.length - (k + 1) + 1 = min xs.length ys.length - k := by omega
    rw [e1]
    obtain ⟨h1, h2⟩ := h _ _ _ (List.getElem?_eq_getElem hx) (List.getElem?_eq_getElem hy)
    simp only [dlts]
    rw [← h1]
    cases z : e (min xs.length ys.length - (k + 1)) with
    | true => rw [if_pos rfl, if_pos rfl]; exact ih
    | false => rw [if_neg Bool.false_ne_true, if_neg Bool.false_ne_true]; exact h2 z
theorem dlts_eq {xs ys : List D} {e r : Nat → Bool} (h : ∀ (j : Nat) x y, xs[j]? = some x → ys[j]? = some y → e j = deq x y ∧ (e j = false → r j = dlt x y)) :
    Ob.lexAt e r (decide (xs.length < ys.length)) 0 (min xs.length ys.length) = dlts xs ys := by
  have q := dlts_at xs ys e r h _ (Nat.le_refl _)
  rw [if_pos (.inr trivial), Nat.sub_self, List.drop_zero, List.drop_zero] at q
  exact q
section
variable {X : Cx} {pins : List (Addr × Obj)} {σ : L2.St} {H Hm : Hp} {s : Shared} {F : Fx} {ρ : List Addr}
theorem rc_lt (I : Inv X pins σ H s) (hK : F.K = X.K) (k : ∀ a o, Hm a = some o → H a = some o) : ∀ (n : Nat) (x y : D) (vx vy : V) (ux uy : Value) (B : Around), dep x ≤ n → RD F ρ Hm vx x → RD F ρ Hm vy y → RelV vx ux → RelV vy uy →
    plain x = true → plain y = true → cmpb x y = true → B.units + n < cLine → Ob.RcOp .Lt B s ux uy (dlt x y) := by
  intro n
  induction n with
  | zero =>
    intro x y vx vy ux uy B hd hx hy rx ry px py hc hu
    cases x with
    | int i =>
      cases y with
      | int j =>
        cases hx; cases hy
        obtain ⟨t, rfl⟩ := rx
        obtain ⟨t', rfl⟩ := ry
        simp only [dlt]
        exact Ob.RcOp.lt_int _ _ _ _
      | _ => simp [cmpb] at hc
    | str i =>
      cases y with
      | str j =>
        cases hx; cases hy
        obtain ⟨t, rfl⟩ := rx
        obtain ⟨t', rfl⟩ := ry
        simp only [dlt]
        exact fun prog w E Q h => lt_str h
      | _ => simp [cmpb] at hc
    | tup xs => simp [dep] at hd
    | _ => simp [cmpb] at hc
  | succ n ih =>
    intro x y vx vy ux uy B hd hx hy rx ry px py hc hu
    cases x with
    | int i =>
      cases y with
      | int j =>
        cases hx; cases hy
        obtain ⟨t, rfl⟩ := rx
        obtain ⟨t', rfl⟩ := ry
        simp only [dlt]
        exact Ob.RcOp.lt_int _ _ _ _
      | _ => simp [cmpb] at hc
    | str i =>
      cases y with
      | str j =>
        cases hx; cases hy
        obtain ⟨t, rfl⟩ := rx
        obtain ⟨t', rfl⟩ := ry
        simp only [dlt]
        exact fun prog w E Q h => lt_str h
      | _ => simp [cmpb] at hc
    | tup xs =>
      cases y with
      | tup ys =>
        cases hx with
        | tup h1 t1 =>
        cases hy with
        | tup h2 t2 =>
        cases rx
        cases ry
        rename_i a vs b ws
        obtain ⟨its, r1, p1, _⟩ := I.tuple (xs := vs) (a := a) (by rw [← hK]; exact sqT_mono k h1)
        obtain ⟨its2, r2, p2, _⟩ := I.tuple (xs := ws) (a := b) (by rw [← hK]; exact sqT_mono k h2)
        have l1 : its.length = xs.length := by rw [← r1.length, t1.length]
        have l2 : its2.length = ys.length := by rw [← r2.length, t2.length]
        simp only [dlt]
        simp only [plain] at px py
        simp only [cmpb] at hc
        simp only [dep] at hd
        have at1 : ∀ j (h : j < its.toArray.size), ∃ v d, xs[j]? = some d ∧ RD F ρ Hm v d ∧ RelV v its.toArray[j] := fun j h => by
          have hj : j < vs.length := by rw [r1.length]; simpa using h
          obtain ⟨d, e1, e2⟩ := t1.getV (List.getElem?_eq_getElem hj)
          obtain ⟨u, e3, e4⟩ := r1.get (List.getElem?_eq_getElem hj)
          refine ⟨_, d, e1, e2, ?_⟩
          have : its.toArray[j] = u := by simpa [List.getElem?_eq_getElem (show j < its.length by simpa using h)] using e3
          rw [this]
          exact e4
        have at2 : ∀ j (h : j < its2.toArray.size), ∃ v d, ys[j]? = some d ∧ RD F ρ Hm v d ∧ RelV v its2.toArray[j] := fun j h => by
          have hj : j < ws.length := by rw [r2.length]; simpa using h
          obtain ⟨d, e1, e2⟩ := t2.getV (List.getElem?_eq_getElem hj)
          obtain ⟨u, e3, e4⟩ := r2.get (List.getElem?_eq_getElem hj)
          refine ⟨_, d, e1, e2, ?_⟩
          have : its2.toArray[j] = u := by simpa [List.getElem?_eq_getElem (show j < its2.length by simpa using h)] using e3
          rw [this]
          exact e4
        have R := Ob.RcOp.tuples_lt (A := B) (s := s) (e := fun j => deq (xs.getD j .non) (ys.getD j .non)) (r := fun j => dlt (xs.getD j .non) (ys.getD j .non)) p1 p2 (by omega) (fun j g1 g2 => by
          obtain ⟨v, d, e1, e2, e3⟩ := at1 j g1
          obtain ⟨v', d', e1', e2', e3'⟩ := at2 j g2
          have pd := plains_all px _ _ e1
          have pd' := plains_all py _ _ e1'
          obtain ⟨as, q1⟩ := Dp.reads I (toPy d) v _ (by rw [← hK]; exact RD.dp k e2 pd) e3
          obtain ⟨bs, q2⟩ := Dp.reads I (toPy d') v' _ (by rw [← hK]; exact RD.dp k e2' pd') e3'
          have z := SeqAt.eqAt_reads (toPy d) (toPy d') B.in1 s _ _ as bs q1 q2 (canLay_of d pd) (canLay_of d' pd') (by
            have w1 := deps_all _ _ e1
            have w2 : min (toPy d).depth (toPy d').depth ≤ dep d := by rw [depth_of d pd]; exact Nat.min_le_left _ _
            show B.units + 1 + _ < cLine
            omega)
          rw [deq_of d d' pd pd'] at z
          simp only [List.getD_eq_getElem?_getD, e1, e1', Option.getD_some]
          exact z) (fun j g1 g2 _ => by
          obtain ⟨v, d, e1, e2, e3⟩ := at1 j g1
          obtain ⟨v', d', e1', e2', e3'⟩ := at2 j g2
          have w1 := deps_all _ _ e1
          simp only [List.getD_eq_getElem?_getD, e1, e1', Option.getD_some]
          exact ih d d' v v' _ _ B.in1 (by omega) e2 e2' e3 e3' (plains_all px _ _ e1) (plains_all py _ _ e1') (cmpbs_all hc j _ _ e1 e1') (by show B.units + 1 + n < cLine; omega))
        have e1 : its.toArray.size = xs.length := by simpa using l1
        have e2 : its2.toArray.size = ys.length := by simpa using l2
        rw [e1, e2, dlts_eq fun j x y h1 h2 => ⟨by simp [List.getD_eq_getElem?_getD, h1, h2], fun _ => by simp [List.getD_eq_getElem?_getD, h1, h2]⟩] at R
        exact R
      | _ => simp [cmpb] at hc
    | _ => simp [cmpb] at hc
end
end Cw

end
section
/-! CwHt: sum, max, min, sorted of tuples of ints. -/
namespace SrtO
open PySem PyProof.Rows Srt PySem.W
section
variable {prog : Program} {w : World} {A : Around} {E : Value → Shared → Prop} {s : Shared}
theorem collect_tuple {l : Addr} {vs : List Value} {Q : List Value → Shared → Prop} (hl : s.heap.IsTuple l vs.toArray)
    (h : Q vs { s with heap := (s.heap.push (seqObj "list" #[] 0)).update s.heap.objs.size (Obj.mapSeq (· ++ vs.toArray)) }) (hsz : vs.length ≤ sizeLine) :
    wpAny (model prog w) A (collect (.ref l)) Q E s := by
  obtain ⟨o, ho, hc, n, hd⟩ := id hl
  unfold collect
  refine wpAny_bind (wpAny_runValue (codeAny_builtin entry_proto_collect' ?_))
  show wpAny _ _ (do again (.builtin "list.__iadd__" ⟨[← newList [], .ref l], []⟩)) _ _ s
  refine wpAny_bind (wpAny_newList (wpAny_pure ⟨Code.quiet_builtin _ (by decide +kernel), codeAny_builtin entry_list_iadd' ?_⟩))
  show wpAny _ _ (Builtin.List.listExtendWith (.ref s.heap.objs.size) (.ref l) (.ref s.heap.objs.size)) _ _ { s with heap := s.heap.push (seqObj "list" #[] 0) }
  unfold Builtin.List.listExtendWith
  have ho' : (s.heap.push (seqObj "list" #[] 0)).get? l = some o := Heap.get?_push_of_some _ ho
  refine wpAny_bind (wpAny_typeOf (T := "tuple") ⟨o, ho', hc⟩ ?_)
  have ht : (Value.type "tuple" == Value.type "tuple") = true := by rfl
  rw [if_pos (by rw [ht]; simp)]
  refine wpAny_bind (listItems_at ho' hd ?_)
  refine wpAny_bind (listItems_at (xs := #[]) (n := 0) (Heap.get?_push_size _ rfl) rfl ?_)
  rw [if_neg (by simp)]
  refine wpAny_bind (listUpdate_at (xs := #[]) (n := 0) (Heap.get?_push_size _ rfl) rfl ?_ (Nat.zero_le _) (by show (#[] ++ vs.toArray).size ≤ sizeLine + 1; simp only [Array.size_append, List.size_toArray, List.length_nil]; omega))
  refine wpAny_pure ?_
  show wpAny (model prog w) A (do
      let o ← load s.heap.objs.size
      match o.data with
      | .seq xs _ => pure xs.toList
      | _ => unsupported "internal:collect") Q E { s with heap := (s.heap.push (seqObj "list" #[] 0)).update s.heap.objs.size (Obj.mapSeq (· ++ vs.toArray)) }
  refine wpAny_bind (wpAny_load (get?_update_seq (Heap.get?_push_size _ rfl) _) ?_)
  show wpAny _ _ (pure ((#[] : Array Value) ++ vs.toArray).toList) Q E _
  rw [show ((#[] : Array Value) ++ vs.toArray).toList = vs by simp]
  exact wpAny_pure h
theorem sorted_ordT {l : Addr} {vs : List Value} {ltv : Value → Value → Bool} {Q : Value → Shared → Prop} (O : Swo ltv) (hl : s.heap.IsTuple l vs.toArray) (hz : vs.length ≤ sizeLine)
    (hS : 2 ≤ vs.length → ∀ (h₁ : Heap) (a : Addr), h₁.get? a = some (seqObj "list" vs.toArray 0) → (∀ b o, s.heap.get? b = some o → b ≠ a ∧ h₁.get? b = some o) → SortableO prog w A.in1.in1 { s with heap := h₁ } a vs ltv)
    (h : ∀ out : List Value, Srtd ltv out → Stb ltv out vs → Q (.ref (s.heap.objs.size + 1)) { s with heap := sortedAll s.heap vs out.toArray }) :
    wpAny (model prog w) A (call (.builtin "sorted") [.ref l]) Q E s := by
  refine Calls.call_function_entry kind_sorted plain_sorted entry_sorted (args_sorted1 _) ?_
  unfold Builtin.«sorted»
  refine wpAny_bind (m := checkCount "sorted" 1 1 _) (wpAny_pure ?_)
  refine wpAny_bind (collect_tuple hl ?_ hz)
  refine wpAny_bind (wpAny_newList ?_ hz)
  have hsz : ((s.heap.push (seqObj "list" #[] 0)).update s.heap.objs.size (Obj.mapSeq (· ++ vs.toArray))).objs.size = s.heap.objs.size + 1 := by
    rw [Heap.size_update, size_push']
  have hoL : (((s.heap.push (seqObj "list" #[] 0)).update s.heap.objs.size (Obj.mapSeq (· ++ vs.toArray))).push (seqObj "list" vs.toArray 0)).get? (s.heap.objs.size + 1) = some (seqObj "list" vs.toArray 0) := by
    rw [← hsz]; exact Heap.get?_push_size _ rfl
  have keep : ∀ b o, s.heap.get? b = some o → b ≠ s.heap.objs.size + 1 ∧ (((s.heap.push (seqObj "list" #[] 0)).update s.heap.objs.size (Obj.mapSeq (· ++ vs.toArray))).push (seqObj "list" vs.toArray 0)).get? b = some o := fun b o q => by
    have hlt : b < s.heap.objs.size := Heap.lt_size q
    refine ⟨Nat.ne_of_lt (Nat.lt_succ_of_lt hlt), Heap.get?_push_of_some _ ?_⟩
    rw [Heap.get?_update_ne _ _ _ _ (Nat.ne_of_lt hlt)]
    exact Heap.get?_push_of_some _ q
  show wpAny _ _ _ _ _ { s with heap := ((s.heap.push (seqObj "list" #[] 0)).update s.heap.objs.size (Obj.mapSeq (· ++ vs.toArray))).push (seqObj "list" vs.toArray 0) }
  rw [hsz]
  refine wpAny_bind (wpAny_holding (wpAny_call_entry slot_list_sort ⟨_, hoL, rfl⟩ entry_list_sort (list_sort_ord O hoL hz (fun h2 => hS h2 _ _ hoL keep) fun out hs hb => ⟨_, rfl, ?_⟩) (args_list_sort _)))
  exact wpAny_pure ⟨_, rfl, h out hs hb⟩
end
end SrtO
namespace Cw
open PySem L2 PyProof.Rows
theorem isTuple_of {h : Heap} {a : Addr} {xs : Array Value} (p : IsTup h a xs) : h.IsTuple a xs := p
theorem reads_ints {h : Heap} : ∀ {its : List Value} {ns : List Int}, IntsAre its ns → ReadsAll h its (ns.map PyData.int) []
  | _, _, .nil => .nil
  | _, _, .cons n t r => .cons (as := []) (bs := []) (.int n t) (reads_ints r)
theorem alike_ints (ns : List Int) : PySem.W.AlikeAll (ns.map PyData.int) := by
  refine ⟨fun x hx y hy => ?_, fun x hx => ?_⟩
  · obtain ⟨i, _, rfl⟩ := List.mem_map.mp hx
    obtain ⟨j, _, rfl⟩ := List.mem_map.mp hy
    rfl
  · obtain ⟨i, _, rfl⟩ := List.mem_map.mp hx
    exact fun h => by cases h
theorem depth_ints : ∀ ns : List Int, PyData.depthAll (ns.map PyData.int) = 0
  | [] => rfl
  | n :: ns => by
    simp only [List.map_cons, PyData.depthAll, PyData.depth, depth_ints ns]
    rfl
theorem foldl_max : ∀ (l : List Int) (n : Int), l.foldl max n ∈ n :: l ∧ ∀ y ∈ n :: l, y ≤ l.foldl max n
  | [], n => ⟨List.mem_singleton.mpr rfl, fun y h => by rw [List.mem_singleton.mp h]; exact Int.le_refl _⟩
  | x :: l, n => by
    obtain ⟨h1, h2⟩ := foldl_max l (max n x)
    rw [List.foldl_cons]
    refine ⟨?_, fun y h => ?_⟩
    · rcases List.mem_cons.mp h1 with e | h
      · rw [e]
        rcases Int.le_total n x with q | q
        · rw [Int.max_eq_right q]; exact List.mem_cons_of_mem _ List.mem_cons_self
        · rw [Int.max_eq_left q]; exact List.mem_cons_self
      · exact List.mem_cons_of_mem _ (List.mem_cons_of_mem _ h)
    · have h3 := h2 _ List.mem_cons_self
      rcases List.mem_cons.mp h with e | h
      · subst e; omega
      · rcases List.mem_cons.mp h with e | h
        · subst e; omega
        · exact h2 y (List.mem_cons_of_mem _ h)
theorem foldl_min : ∀ (l : List Int) (n : Int), l.foldl min n ∈ n :: l ∧ ∀ y ∈ n :: l, l.foldl min n ≤ y
  | [], n => ⟨List.mem_singleton.mpr rfl, fun y h => by rw [List.mem_singleton.mp h]; exact Int.le_refl _⟩
  | x :: l, n => by
    obtain ⟨h1, h2⟩ := foldl_min l (min n x)
    rw [List.foldl_cons]
    refine ⟨?_, fun y h => ?_⟩
    · rcases List.mem_cons.mp h1 with e | h
      · rw [e]
        rcases Int.le_total n x with q | q
        · rw [Int.min_eq_left q]; exact List.mem_cons_self
        · rw [Int.min_eq_right q]; exact List.mem_cons_of_mem _ List.mem_cons_self
      · exact List.mem_cons_of_mem _ (List.mem_cons_of_mem _ h)
    · have h3 := h2 _ List.mem_cons_self
      rcases List.mem_cons.mp h with e | h
      · subst e; omega
      · rcases List.mem_cons.mp h with e | h
        · subst e; omega
        · exact h2 y (List.mem_cons_of_mem _ h)
def rSumT (K : PySem.W.Frag) : List V → Hp → VK → Prop := fun vs H Q => ∃ (a : Addr) (ns : List Int), vs = [V.ref a] ∧ SqT K H a (ns.map V.int) ∧ Q (.int ns.sum) H
def rMaxT (K : PySem.W.Frag) : List V → Hp → VK → Prop := fun vs H Q => ∃ (a : Addr) (ns : List Int), vs = [V.ref a] ∧ SqT K H a (ns.map V.int) ∧ 0 < ns.length ∧ ∀ m, m ∈ ns → (∀ y, y ∈ ns → y ≤ m) → Q (.int m) H
def rMinT (K : PySem.W.Frag) : List V → Hp → VK → Prop := fun vs H Q => ∃ (a : Addr) (ns : List Int), vs = [V.ref a] ∧ SqT K H a (ns.map V.int) ∧ 0 < ns.length ∧ ∀ m, m ∈ ns → (∀ y, y ∈ ns → m ≤ y) → Q (.int m) H
def rSortedT (K : PySem.W.Frag) : List V → Hp → VK → Prop := fun vs H Q => ∃ (a : Addr) (ns : List Int), vs = [V.ref a] ∧ SqT K H a (ns.map V.int) ∧
  ∀ (ns' : List Int) (p : Addr), ns'.Perm ns → ns'.Pairwise (· ≤ ·) → H p = none → Q (.ref p) (upd H p (.lst (ns'.map V.int)))
section
variable {X : Cx}
theorem cr_sumT (hc : X.calm = true) : CallR X (.builtin "sum") (rSumT X.K) := by
  intro pins s σ H vs us Q I r h
  obtain ⟨a, ns, rfl, hs, q⟩ := h
  obtain ⟨its, rv, hl, _⟩ := I.tuple hs
  rw [Vals.ref1 r]
  have hi := rv.ints
  obtain ⟨xs, hx⟩ := hi.allInts.items
  have hn : numsOf its.toArray.toList = ns := by rw [show its.toArray.toList = its from rfl, hi.numsOf]
  have hl' : s.heap.IsTuple a its.toArray := hl
  rw [hx] at hl' hn
  rw [nums_intItems] at hn
  refine PySem.W.ktm_sumG (I.ok.hd hc) hl' fun h' tk t' hk => ?_
  rw [PySem.preSum_eq, List.take_of_length_le (by simp), hn]
  exact ⟨.int _, H, I.kept hk, ⟨_, rfl⟩, q⟩
theorem cr_maxT (hc : X.calm = true) (hu : X.A.units + 70 < cLine) : CallR X (.builtin "max") (rMaxT X.K) := by
  intro pins s σ H vs us Q I r h
  obtain ⟨a, ns, rfl, hs, hne, q⟩ := h
  obtain ⟨its, rv, hl, _⟩ := I.tuple hs
  rw [Vals.ref1 r]
  have hi := rv.ints
  cases ns with
  | nil => exact absurd hne (Nat.lt_irrefl 0)
  | cons n ns =>
    refine PySem.W.max_tuple_data (x := .int n) (xs := ns.map PyData.int) (as := []) (I.ok.hd hc) (isTuple_of hl) (reads_ints hi) (alike_ints (n :: ns)) ?_ fun i v h' tk bs hv hr hk => ?_
    · have := depth_ints (n :: ns)
      rw [List.map_cons] at this
      rw [this]
      omega
    · rw [PySem.W.maxD_ints] at hr
      cases hr
      obtain ⟨h1, h2⟩ := foldl_max ns n
      exact ⟨.int _, H, I.kept hk, ⟨_, rfl⟩, q _ h1 h2⟩
theorem cr_minT (hc : X.calm = true) (hu : X.A.units + 70 < cLine) : CallR X (.builtin "min") (rMinT X.K) := by
  intro pins s σ H vs us Q I r h
  obtain ⟨a, ns, rfl, hs, hne, q⟩ := h
  obtain ⟨its, rv, hl, _⟩ := I.tuple hs
  rw [Vals.ref1 r]
  have hi := rv.ints
  cases ns with
  | nil => exact absurd hne (Nat.lt_irrefl 0)
  | cons n ns =>
    refine PySem.W.min_tuple_data (x := .int n) (xs := ns.map PyData.int) (as := []) (I.ok.hd hc) (isTuple_of hl) (reads_ints hi) (alike_ints (n :: ns)) ?_ fun i v h' tk bs hv hr hk => ?_
    · have := depth_ints (n :: ns)
      rw [List.map_cons] at this
      rw [this]
      omega
    · rw [PySem.W.minD_ints] at hr
      cases hr
      obtain ⟨h1, h2⟩ := foldl_min ns n
      exact ⟨.int _, H, I.kept hk, ⟨_, rfl⟩, q _ h1 h2⟩
def rRepr : List V → Hp → VK → Prop := fun xs H Q => (∃ b : Bool, xs = [.bl b] ∧ Q (.str (if b = true then "True" else "False")) H) ∨ (∃ i, xs = [.int i] ∧ i.natAbs.log2 < 1920 ∧ Q (.str (toString i)) H) ∨ (xs = [.non] ∧ Q (.str "None") H)
theorem cr_repr : CallR X (.builtin "repr") rRepr := by
  intro pins s σ H xs us Q I r h
  rcases h with ⟨b, rfl, q⟩ | ⟨i, rfl, hz, q⟩ | ⟨rfl, q⟩
  · obtain ⟨u, rfl, hr⟩ := vals1 r
    have e : u = Value.bool b := hr
    subst e
    refine PySem.P.repr_of_bool ?_
    exact ⟨.str _, H, I.tok _, ⟨_, rfl⟩, q⟩
  · obtain ⟨u, rfl, t, rfl⟩ := vals1 r
    exact PySem.P.repr_of_int hz ⟨.str _, H, I.tok _, ⟨_, rfl⟩, q⟩
  · obtain ⟨u, rfl, hr⟩ := vals1 r
    have e : u = Value.none := hr
    subst e
    refine PySem.P.repr_of_none ?_
    exact ⟨.str _, H, I.tok _, ⟨_, rfl⟩, q⟩
theorem cr_sortedT : CallR X (.builtin "sorted") (rSortedT X.K) := by
  intro pins s σ H vs us Q I r h
  obtain ⟨a, ns, rfl, hs, q⟩ := h
  obtain ⟨its, rv, hl, hz⟩ := I.tuple hs
  rw [Vals.ref1 r]
  have hi := rv.ints
  refine SrtO.sorted_ordT SrtO.swo_int (isTuple_of hl) (by rw [← rv.length]; exact hz) (fun h2 h₁ a' _ _ => SrtO.ints_sortable hi h2) fun out h1 h2 => ?_
  obtain ⟨k1, k2, k3⟩ := SrtO.ints_out hi h1 h2
  obtain ⟨ep, he'⟩ := PyProof.Rows.sortedAll_at s.heap its out.toArray
  have hlen : ((out.map SrtO.iv).map V.int).length ≤ sizeLine := by
    rw [List.length_map, k2.length_eq]
    rw [List.length_map] at hz
    exact hz
  exact ⟨.ref _, upd H (s.heap.objs.size + 1) (.lst ((out.map SrtO.iv).map V.int)), I.laid (t' := s.toks) (fun _ _ => PyProof.Rows.sortedAll_old) (Nat.le_succ _) ⟨hlen, out, ep, vals_of_ints k1, he'⟩, rfl, q _ _ k2 k3 (I.hok.fresh (Nat.le_succ _))⟩
end
end Cw

end
section
/-! CwSo: the order of data; sorted of tuples. -/
namespace Cw
open PySem L2 PyProof.Rows
/-! ### the order -/
mutual
theorem cmpb_symm : ∀ x y : D, cmpb x y = true → cmpb y x = true
  | .int _, y, h => by cases y <;> first | (simp [cmpb] at h; done) | rfl
  | .str _, y, h => by cases y <;> first | (simp [cmpb] at h; done) | rfl
  | .tup xs, y, h => by
    cases y with
    | tup ys =>
      simp only [cmpb] at h ⊢
      exact cmpbs_symm xs ys h
    | _ => simp [cmpb] at h
  | .non, y, h => by simp [cmpb] at h
  | .bl _, y, h => by simp [cmpb] at h
  | .lst _, y, h => by simp [cmpb] at h
  | .dK _, y, h => by simp [cmpb] at h
  | .dT _, y, h => by simp [cmpb] at h
  | .ref _, y, h => by simp [cmpb] at h
  | .fn _, y, h => by simp [cmpb] at h
  | .frz _, y, h => by simp [cmpb] at h
theorem cmpbs_symm : ∀ x y : List D, cmpbs x y = true → cmpbs y x = true
  | [], [], _ => rfl
  | [], _ :: _, _ => rfl
  | _ :: _, [], _ => rfl
  | x :: xs, y :: ys, h => by
    simp only [cmpbs, Bool.and_eq_true] at h ⊢
    exact ⟨cmpb_symm x y h.1, cmpbs_symm xs ys h.2⟩
end
mutual
theorem deq_eqv : ∀ x y : D, cmpb x y = true → deq x y = true → x = y
  | .int _, y, c, h => by cases y <;> first | (simp [cmpb] at c; done) | (simpa [deq] using h)
  | .str _, y, c, h => by cases y <;> first | (simp [cmpb] at c; done) | (simpa [deq] using h)
  | .tup xs, y, c, h => by
    cases y with
    | tup ys =>
      simp only [cmpb] at c
      simp only [deq] at h
      rw [deqs_eqv xs ys c h]
    | _ => simp [cmpb] at c
  | .non, y, h, _ => by simp [cmpb] at h
  | .bl _, y, h, _ => by simp [cmpb] at h
  | .lst _, y, h, _ => by simp [cmpb] at h
  | .dK _, y, h, _ => by simp [cmpb] at h
  | .dT _, y, h, _ => by simp [cmpb] at h
  | .ref _, y, h, _ => by simp [cmpb] at h
  | .fn _, y, h, _ => by simp [cmpb] at h
  | .frz _, y, h, _ => by simp [cmpb] at h
theorem deqs_eqv : ∀ x y : List D, cmpbs x y = true → deqs x y = true → x = y
  | [], [], _, _ => rfl
  | [], _ :: _, _, h => by simp [deqs] at h
  | _ :: _, [], _, h => by simp [deqs] at h
  | x :: xs, y :: ys, c, h => by
    simp only [cmpbs, Bool.and_eq_true] at c
    simp only [deqs, Bool.and_eq_true] at h
    rw [deq_eqv x y c.1 h.1, deqs_eqv xs ys c.2 h.2]
end
mutual
theorem deq_self : ∀ x : D, cmpb x x = true → deq x x = true
  | .int _, _ => by simp [deq]
  | .str _, _ => by simp [deq]
  | .tup xs, h => by
    simp only [cmpb] at h
    simp only [deq]
    exact deqs_self xs h
  | .non, h => by simp [cmpb] at h
  | .bl _, h => by simp [cmpb] at h
  | .lst _, h => by simp [cmpb] at h
  | .dK _, h => by simp [cmpb] at h
  | .dT _, h => by simp [cmpb] at h
  | .ref _, h => by simp [cmpb] at h
  | .fn _, h => by simp [cmpb] at h
  | .frz _, h => by simp [cmpb] at h
theorem deqs_self : ∀ x : List D, cmpbs x x = true → deqs x x = true
  | [], _ => rfl
  | x :: xs, h => by
    simp only [cmpbs, Bool.and_eq_true] at h
    simp only [deqs, Bool.and_eq_true]
    exact ⟨deq_self x h.1, deqs_self xs h.2⟩
end
mutual
theorem dlt_irr : ∀ x : D, cmpb x x = true → dlt x x = false
  | .int _, _ => by simp [dlt]
  | .str s, _ => by
    simp only [dlt, decide_eq_false_iff_not]
    exact List.lt_irrefl _
  | .tup xs, h => by
    simp only [cmpb] at h
    simp only [dlt]
    exact dlts_irr xs h
  | .non, h => by simp [cmpb] at h
  | .bl _, h => by simp [cmpb] at h
  | .lst _, h => by simp [cmpb] at h
  | .dK _, h => by simp [cmpb] at h
  | .dT _, h => by simp [cmpb] at h
  | .ref _, h => by simp [cmpb] at h
  | .fn _, h => by simp [cmpb] at h
  | .frz _, h => by simp [cmpb] at h
theorem dlts_irr : ∀ x : List D, cmpbs x x = true → dlts x x = false
  | [], _ => rfl
  | x :: xs, h => by
    simp only [cmpbs, Bool.and_eq_true] at h
    simp only [dlts, deq_self x h.1, if_true]
    exact dlts_irr xs h.2
end
theorem str_tri {x y : Str} (h1 : ¬ x.cps.toList < y.cps.toList) (h2 : ¬ y.cps.toList < x.cps.toList) : x = y := by
  have e : x.cps.toList = y.cps.toList := List.le_antisymm (List.not_lt.mp h2) (List.not_lt.mp h1)
  cases x
  cases y
  simp only at e
  rw [Array.toList_inj.mp e]
mutual
theorem dlt_tri : ∀ x y : D, cmpb x y = true → dlt x y = false → dlt y x = false → x = y
  | .int i, y, c, h1, h2 => by
    cases y with
    | int j =>
      simp only [dlt, decide_eq_false_iff_not] at h1 h2
      have : i = j := by omega
      rw [this]
    | _ => simp [cmpb] at c
  | .str i, y, c, h1, h2 => by
    cases y with
    | str j =>
      simp only [dlt, decide_eq_false_iff_not] at h1 h2
      rw [str_tri h1 h2]
    | _ => simp [cmpb] at c
  | .tup xs, y, c, h1, h2 => by
    cases y with
    | tup ys =>
      simp only [cmpb] at c
      simp only [dlt] at h1 h2
      rw [dlts_tri xs ys c h1 h2]
    | _ => simp [cmpb] at c
  | .non, y, h, _, _ => by simp [cmpb] at h
  | .bl _, y, h, _, _ => by simp [cmpb] at h
  | .lst _, y, h, _, _ => by simp [cmpb] at h
  | .dK _, y, h, _, _ => by simp [cmpb] at h
  | .dT _, y, h, _, _ => by simp [cmpb] at h
  | .ref _, y, h, _, _ => by simp [cmpb] at h
  | .fn _, y, h, _, _ => by simp [cmpb] at h
  | .frz _, y, h, _, _ => by simp [cmpb] at h
theorem dlts_tri : ∀ x y : List D, cmpbs x y = true → dlts x y = false → dlts y x = false → x = y
  | [], [], _, _, _ => rfl
  | [], _ :: _, _, h, _ => by simp [dlts] at h
  | _ :: _, [], _, _, h => by simp [dlts] at h
  | x :: xs, y :: ys, c, h1, h2 => by
    simp only [cmpbs, Bool.and_eq_true] at c
    simp only [dlts] at h1 h2
    by_cases q : deq x y = true
    · have e := deq_eqv x y c.1 q
      subst e
      rw [if_pos q] at h1 h2
      rw [dlts_tri xs ys c.2 h1 h2]
    · rw [if_neg q] at h1
      have q2 : ¬ deq y x = true := fun z => by
        have e := deq_eqv y x (cmpb_symm x y c.1) z
        subst e
        exact q z
      rw [if_neg q2] at h2
      have e := dlt_tri x y c.1 h1 h2
      subst e
      exact absurd (deq_self _ c.1) q
end
mutual
theorem dlt_tr : ∀ x y z : D, cmpb x y = true → cmpb y z = true → cmpb x z = true → dlt x y = true → dlt y z = true → dlt x z = true
  | .int i, y, z, c, c2, c3, h1, h2 => by
    cases y with
    | int j =>
      cases z with
      | int k =>
        simp only [dlt, decide_eq_true_eq] at h1 h2 ⊢
        omega
      | _ => simp [cmpb] at c2
    | _ => simp [cmpb] at c
  | .str i, y, z, c, c2, c3, h1, h2 => by
    cases y with
    | str j =>
      cases z with
      | str k =>
        simp only [dlt, decide_eq_true_eq] at h1 h2 ⊢
        exact List.lt_trans h1 h2
      | _ => simp [cmpb] at c2
    | _ => simp [cmpb] at c
  | .tup xs, y, z, c, c2, c3, h1, h2 => by
    cases y with
    | tup ys =>
      cases z with
      | tup zs =>
        simp only [cmpb] at c c2 c3
        simp only [dlt] at h1 h2 ⊢
        exact dlts_tr xs ys zs c c2 c3 h1 h2
      | _ => simp [cmpb] at c2
    | _ => simp [cmpb] at c
  | .non, y, _, h, _, _, _, _ => by simp [cmpb] at h
  | .bl _, y, _, h, _, _, _, _ => by simp [cmpb] at h
  | .lst _, y, _, h, _, _, _, _ => by simp [cmpb] at h
  | .dK _, y, _, h, _, _, _, _ => by simp [cmpb] at h
  | .dT _, y, _, h, _, _, _, _ => by simp [cmpb] at h
  | .ref _, y, _, h, _, _, _, _ => by simp [cmpb] at h
  | .fn _, y, _, h, _, _, _, _ => by simp [cmpb] at h
  | .frz _, y, _, h, _, _, _, _ => by simp [cmpb] at h
theorem dlts_tr : ∀ x y z : List D, cmpbs x y = true → cmpbs y z = true → cmpbs x z = true → dlts x y = true → dlts y z = true → dlts x z = true
  | [], [], _, _, _, _, h, _ => by simp [dlts] at h
  | _ :: _, [], _, _, _, _, h, _ => by simp [dlts] at h
  | _, _ :: _, [], _, _, _, _, h => by simp [dlts] at h
  | [], _ :: _, _ :: _, _, _, _, _, _ => by simp [dlts]
  | x :: xs, y :: ys, z :: zs, c, c2, c3, h1, h2 => by
    simp only [cmpbs, Bool.and_eq_true] at c c2 c3
    simp only [dlts] at h1 h2 ⊢
    by_cases q : deq x y = true
    · have e := deq_eqv x y c.1 q
      subst e
      rw [if_pos q] at h1
      by_cases q2 : deq x z = true
      · rw [if_pos q2] at h2 ⊢
        exact dlts_tr xs ys zs c.2 c2.2 c3.2 h1 h2
      · rw [if_neg q2] at h2 ⊢
        exact h2
    · rw [if_neg q] at h1
      by_cases q2 : deq y z = true
      · have e := deq_eqv y z c2.1 q2
        subst e
        rw [if_neg q]
        exact h1
      · rw [if_neg q2] at h2
        have t := dlt_tr x y z c.1 c2.1 c3.1 h1 h2
        by_cases q3 : deq x z = true
        · have e := deq_eqv x z c3.1 q3
          subst e
          rw [dlt_irr _ c3.1] at t
          cases t
        · rw [if_neg q3]
          exact t
end
end Cw

end
section
/-! CwSp: sorted, min of tuples: the rules. -/
namespace Cw
open PySem L2 PyProof.Rows
theorem readsAll_get {h : Heap} : ∀ {us : List Value} {xs : List D} {as : List Addr}, ReadsAll h us (toPys xs) as → ∀ (j : Nat) (u : Value), us[j]? = some u → ∃ d bs, xs[j]? = some d ∧ Reads h u (toPy d) bs
  | _, [], _, r, j, u, hu => by
    rw [toPys] at r
    cases r
    simp at hu
  | _, x :: xs, _, r, j, u, hu => by
    rw [toPys] at r
    cases r with
    | cons r1 r2 =>
      cases j with
      | zero =>
        simp at hu
        subst hu
        exact ⟨x, _, rfl, r1⟩
      | succ j => exact readsAll_get r2 j u (by simpa using hu)
theorem readsAll_lenD {h : Heap} : ∀ {us : List Value} {xs : List D} {as : List Addr}, ReadsAll h us (toPys xs) as → us.length = xs.length
  | _, [], _, r => by
    rw [toPys] at r
    cases r
    rfl
  | _, x :: xs, _, r => by
    rw [toPys] at r
    cases r with
    | cons r1 r2 => exact congrArg (· + 1) (readsAll_lenD r2)
/-- <, off the heap -/
theorem rc_ltR : ∀ (n : Nat) (x y : D) (ux uy : Value) (B : Around) (s : Shared) (as bs : List Addr), dep x ≤ n → plain x = true → plain y = true → cmpb x y = true → Reads s.heap ux (toPy x) as → Reads s.heap uy (toPy y) bs → B.units + n < cLine → Ob.RcOp .Lt B s ux uy (dlt x y) := by
  intro n
  induction n with
  | zero =>
    intro x y ux uy B s as bs hd px py hc rx ry hu
    cases x with
    | int i =>
      cases y with
      | int j =>
        simp only [toPy] at rx ry
        cases rx; cases ry
        simp only [dlt]
        exact Ob.RcOp.lt_int _ _ _ _
      | _ => simp [cmpb] at hc
    | str i =>
      cases y with
      | str j =>
        simp only [toPy] at rx ry
        cases rx; cases ry
        simp only [dlt]
        exact fun prog w E Q h => lt_str h
      | _ => simp [cmpb] at hc
    | tup xs => simp [dep] at hd
    | _ => simp [cmpb] at hc
  | succ n ih =>
    intro x y ux uy B s as bs hd px py hc rx ry hu
    cases x with
    | int i =>
      cases y with
      | int j =>
        simp only [toPy] at rx ry
        cases rx; cases ry
        simp only [dlt]
        exact Ob.RcOp.lt_int _ _ _ _
      | _ => simp [cmpb] at hc
    | str i =>
      cases y with
      | str j =>
        simp only [toPy] at rx ry
        cases rx; cases ry
        simp only [dlt]
        exact fun prog w E Q h => lt_str h
      | _ => simp [cmpb] at hc
    | tup xs =>
      cases y with
      | tup ys =>
        simp only [toPy] at rx ry
        simp only [dlt]
        simp only [plain] at px py
        simp only [cmpb] at hc
        simp only [dep] at hd
        cases rx with
        | @tuple a1 o1 vs1 n1 _ _ h1 h2 h3 h4 =>
        cases ry with
        | @tuple a2 o2 vs2 n2 _ _ g1 g2 g3 g4 =>
        have l1 := readsAll_lenD h4
        have l2 := readsAll_lenD g4
        rw [Array.length_toList] at l1 l2
        have at1 : ∀ j (h : j < vs1.size), ∃ d bs, xs[j]? = some d ∧ Reads s.heap vs1[j] (toPy d) bs := fun j h => readsAll_get h4 j _ (by simp [h])
        have at2 : ∀ j (h : j < vs2.size), ∃ d bs, ys[j]? = some d ∧ Reads s.heap vs2[j] (toPy d) bs := fun j h => readsAll_get g4 j _ (by simp [h])
        have R := Ob.RcOp.tuples_lt (A := B) (s := s) (e := fun j => deq (xs.getD j .non) (ys.getD j .non)) (r := fun j => dlt (xs.getD j .non) (ys.getD j .non)) (⟨o1, h1, h2, n1, h3⟩ : s.heap.IsTuple a1 vs1) (⟨o2, g1, g2, n2, g3⟩ : s.heap.IsTuple a2 vs2) (by omega) (fun j i1 i2 => by
          obtain ⟨d, as', e1, e2⟩ := at1 j i1
          obtain ⟨d', bs', e1', e2'⟩ := at2 j i2
          have pd := plains_all px _ _ e1
          have pd' := plains_all py _ _ e1'
          have z := SeqAt.eqAt_reads (toPy d) (toPy d') B.in1 s _ _ _ _ e2 e2' (canLay_of d pd) (canLay_of d' pd') (by
            have w1 := deps_all _ _ e1
            have w2 : min (toPy d).depth (toPy d').depth ≤ dep d := by rw [depth_of d pd]; exact Nat.min_le_left _ _
            show B.units + 1 + _ < cLine
            omega)
          rw [deq_of d d' pd pd'] at z
          simp only [List.getD_eq_getElem?_getD, e1, e1', Option.getD_some]
          exact z) (fun j i1 i2 _ => by
          obtain ⟨d, as', e1, e2⟩ := at1 j i1
          obtain ⟨d', bs', e1', e2'⟩ := at2 j i2
          have w1 := deps_all _ _ e1
          simp only [List.getD_eq_getElem?_getD, e1, e1', Option.getD_some]
          exact ih d d' _ _ B.in1 s _ _ (by omega) (plains_all px _ _ e1) (plains_all py _ _ e1') (cmpbs_all hc j _ _ e1 e1') e2 e2' (by show B.units + 1 + n < cLine; omega))
        rw [l1, l2, dlts_eq fun j x y h1 h2 => ⟨by simp [List.getD_eq_getElem?_getD, h1, h2], fun _ => by simp [List.getD_eq_getElem?_getD, h1, h2]⟩] at R
        exact R
      | _ => simp [cmpb] at hc
    | _ => simp [cmpb] at hc
mutual
theorem reads_one {h : Heap} : ∀ (x y : D) (u : Value) (as bs : List Addr), cmpb x y = true → Reads h u (toPy x) as → Reads h u (toPy y) bs → x = y
  | .int i, y, u, as, bs, c, r1, r2 => by
    cases y with
    | int j =>
      simp only [toPy] at r1 r2
      cases r1
      cases r2
      rfl
    | _ => simp [cmpb] at c
  | .str i, y, u, as, bs, c, r1, r2 => by
    cases y with
    | str j =>
      simp only [toPy] at r1 r2
      cases r1
      cases r2
      rfl
    | _ => simp [cmpb] at c
  | .tup xs, y, u, as, bs, c, r1, r2 => by
    cases y with
    | tup ys =>
      simp only [toPy] at r1 r2
      simp only [cmpb] at c
      cases r1 with
      | tuple h1 h2 h3 h4 =>
        cases r2 with
        | tuple g1 g2 g3 g4 =>
          rw [h1] at g1
          cases g1
          rw [h3] at g3
          cases g3
          rw [readsAll_one xs ys _ _ _ c h4 g4]
    | _ => simp [cmpb] at c
  | .non, y, _, _, _, h, _, _ => by simp [cmpb] at h
  | .bl _, y, _, _, _, h, _, _ => by simp [cmpb] at h
  | .lst _, y, _, _, _, h, _, _ => by simp [cmpb] at h
  | .dK _, y, _, _, _, h, _, _ => by simp [cmpb] at h
  | .dT _, y, _, _, _, h, _, _ => by simp [cmpb] at h
  | .ref _, y, _, _, _, h, _, _ => by simp [cmpb] at h
  | .fn _, y, _, _, _, h, _, _ => by simp [cmpb] at h
  | .frz _, y, _, _, _, h, _, _ => by simp [cmpb] at h
theorem readsAll_one {h : Heap} : ∀ (x y : List D) (u : List Value) (as bs : List Addr), cmpbs x y = true → ReadsAll h u (toPys x) as → ReadsAll h u (toPys y) bs → x = y
  | [], [], _, _, _, _, _, _ => rfl
  | [], y :: ys, u, _, _, _, r1, r2 => by
    simp only [toPys] at r1 r2
    cases r1
    cases r2
  | x :: xs, [], u, _, _, _, r1, r2 => by
    simp only [toPys] at r1 r2
    cases r2
    cases r1
  | x :: xs, y :: ys, u, _, _, c, r1, r2 => by
    rw [toPys] at r1 r2
    simp only [cmpbs, Bool.and_eq_true] at c
    cases r1 with
    | cons a1 a2 =>
      cases r2 with
      | cons b1 b2 => rw [reads_one x y _ _ _ c.1 a1 b1, readsAll_one xs ys _ _ _ c.2 a2 b2]
end
/-! ### sorted -/
theorem insD_perm (x : D) : ∀ l : List D, (insD x l).Perm (x :: l)
  | [] => List.Perm.refl _
  | y :: l => by
    unfold insD
    split
    · exact List.Perm.refl _
    · exact ((insD_perm x l).cons y).trans (List.Perm.swap x y l)
theorem sortD_permF : ∀ (l acc : List D), (l.foldl (fun acc x => insD x acc) acc).Perm (acc ++ l)
  | [], acc => by simp
  | x :: l, acc => by
    rw [List.foldl_cons]
    refine (sortD_permF l (insD x acc)).trans ?_
    refine ((insD_perm x acc).append_right l).trans ?_
    exact List.perm_middle.symm
theorem sortD_perm (l : List D) : (sortD l).Perm l := by simpa [sortD] using sortD_permF l []
abbrev SrtD (l : List D) : Prop := l.Pairwise fun x y => dlt y x = false
section
variable {P : D → Prop}
theorem insD_srt (hP : ∀ x y, P x → P y → cmpb x y = true) {x : D} (hx : P x) : ∀ {l : List D}, (∀ y ∈ l, P y) → SrtD l → SrtD (insD x l)
  | [], _, _ => List.pairwise_singleton _ _
  | y :: l, hl, hs => by
    obtain ⟨h1, h2⟩ := List.pairwise_cons.mp hs
    have py := hl y List.mem_cons_self
    unfold insD
    split
    · rename_i q
      refine List.pairwise_cons.mpr ⟨fun z hz => ?_, hs⟩
      cases w : dlt z x with
      | false => rfl
      | true =>
        have pz := hl z hz
        have t := dlt_tr z x y (hP _ _ pz hx) (hP _ _ hx py) (hP _ _ pz py) w q
        rcases List.mem_cons.mp hz with rfl | hz
        · rw [dlt_irr _ (hP _ _ py py)] at t
          cases t
        · rw [h1 z hz] at t
          cases t
    · rename_i q
      refine List.pairwise_cons.mpr ⟨fun z hz => ?_, insD_srt hP hx (fun z hz => hl z (List.mem_cons_of_mem _ hz)) h2⟩
      rcases List.mem_cons.mp ((insD_perm x l).mem_iff.mp hz) with rfl | hz
      · simpa using q
      · exact h1 z hz
theorem sortD_srtF (hP : ∀ x y, P x → P y → cmpb x y = true) : ∀ (l acc : List D), (∀ y ∈ l, P y) → (∀ y ∈ acc, P y) → SrtD acc → SrtD (l.foldl (fun acc x => insD x acc) acc)
  | [], acc, _, _, h => h
  | x :: l, acc, hl, ha, h => by
    rw [List.foldl_cons]
    have hx := hl x List.mem_cons_self
    refine sortD_srtF hP l _ (fun y hy => hl y (List.mem_cons_of_mem _ hy)) (fun y hy => ?_) (insD_srt hP hx ha h)
    rcases List.mem_cons.mp ((insD_perm x acc).mem_iff.mp hy) with rfl | hy
    · exact hx
    · exact ha y hy
theorem srtD_one (hP : ∀ x y, P x → P y → cmpb x y = true) : ∀ {l m : List D}, (∀ y ∈ l, P y) → SrtD l → SrtD m → l.Perm m → l = m
  | [], m, _, _, _, h => (List.Perm.eq_nil h.symm).symm
  | x :: l, [], _, _, _, h => absurd h.length_eq (by simp)
  | x :: l, y :: m, hl, hs, ht, h => by
    obtain ⟨s1, s2⟩ := List.pairwise_cons.mp hs
    obtain ⟨t1, t2⟩ := List.pairwise_cons.mp ht
    have px := hl x List.mem_cons_self
    have hy : y ∈ x :: l := h.mem_iff.mpr List.mem_cons_self
    have hx : x ∈ y :: m := h.mem_iff.mp List.mem_cons_self
    have py := hl y hy
    have e : x = y := by
      refine dlt_tri x y (hP _ _ px py) ?_ ?_
      · rcases List.mem_cons.mp hx with e | hx
        · rw [e]; exact dlt_irr _ (hP _ _ py py)
        · exact t1 x hx
      · rcases List.mem_cons.mp hy with e | hy
        · rw [e]; exact dlt_irr _ (hP _ _ px px)
        · exact s1 y hy
    subst e
    rw [srtD_one hP (fun z hz => hl z (List.mem_cons_of_mem _ hz)) s2 t2 h.cons_inv]
end
section
variable {prog : Program} {w : World} {A : Around} {s : Shared} {Q : Bool → Shared → Prop}
theorem katlex {fin : Bool} : ∀ (xs ys : List D) (us ws : List Value) (i : Nat) (as bs : List Addr) (n : Nat), plains xs = true → plains ys = true → cmpbs xs ys = true → deps xs ≤ n → ReadsAll s.heap us (toPys xs) as → ReadsAll s.heap ws (toPys ys) bs → A.units + 1 + n < cLine →
    (i = 0 → ∃ k xs' k' ys', xs = .int k :: xs' ∧ ys = .int k' :: ys') → fin = decide (xs.length < ys.length) → Q (dlts xs ys) s → PySem.W.KatLex prog w A true fin Q (us.zip ws) i s
  | [], [], us, ws, i, as, bs, n, _, _, _, _, r1, r2, _, _, hf, q => by
    rw [toPys] at r1 r2
    cases r1; cases r2
    rw [hf]
    exact PySem.W.kat_nil q
  | [], y :: ys, us, ws, i, as, bs, n, _, _, _, _, r1, r2, _, _, hf, q => by
    rw [toPys] at r1
    cases r1
    rw [hf]
    exact PySem.W.kat_nil (by simpa [dlts] using q)
  | x :: xs, [], us, ws, i, as, bs, n, _, _, _, _, r1, r2, _, _, hf, q => by
    rw [toPys] at r2
    cases r2
    rw [List.zip_nil_right, hf]
    exact PySem.W.kat_nil (by simpa [dlts] using q)
  | x :: xs, y :: ys, us, ws, i, as, bs, n, px, py, c, hd, r1, r2, hu, h0, hf, q => by
    rw [toPys] at r1 r2
    simp only [plains, Bool.and_eq_true] at px py
    simp only [cmpbs, Bool.and_eq_true] at c
    simp only [deps] at hd
    simp only [dlts] at q
    cases r1 with
    | cons a1 a2 =>
    cases r2 with
    | cons b1 b2 =>
    rw [List.zip_cons_cons]
    have z := SeqAt.eqAt_reads (toPy x) (toPy y) A s _ _ _ _ a1 b1 (canLay_of x px.1) (canLay_of y py.1) (by
      have w2 : min (toPy x).depth (toPy y).depth ≤ dep x := by rw [depth_of x px.1]; exact Nat.min_le_left _ _
      omega)
    rw [deq_of x y px.1 py.1] at z
    refine PySem.W.kat_cons (z prog w _ _ ?_)
    by_cases e : deq x y = true
    · rw [e]
      rw [if_pos e] at q
      exact PySem.W.kat_yes (katlex xs ys _ _ (i + 1) _ _ n px.2 py.2 c.2 (by omega) a2 b2 hu (fun h => by omega) (by rw [hf]; simp) q)
    · rw [Bool.not_eq_true] at e
      rw [e]
      rw [if_neg (by rw [e]; decide)] at q
      refine PySem.W.kat_no ?_
      by_cases hi : i = 0
      · subst hi
        obtain ⟨k, xs', k', ys', e1, e2⟩ := h0 rfl
        cases e1
        cases e2
        simp only [toPy] at a1 b1
        cases a1
        cases b1
        simp only [dlt] at q
        exact oneLt_int q
      · have hb : (true && i == 0) = false := by simpa using hi
        rw [hb]
        exact PySem.W.kat_one _ _ (rc_ltR n x y _ _ A s _ _ (by omega) px.1 py.1 c.1 a1 b1 (by omega) prog w _ _ q)
end
theorem kat_firstsD {h : Heap} : ∀ {vs : List Value}, (∀ v ∈ vs, ∃ k l as, Reads h v (toPy (.tup (.int k :: l))) as) → ∃ fs : List Value, PySem.W.KatTups h vs fs ∧ fs.length = vs.length ∧ ∀ f ∈ fs, ∃ x t, f = Value.int x t
  | [], _ => ⟨[], PySem.W.KatTups.nil, rfl, fun _ hm => by simp at hm⟩
  | v :: vs, hp => by
    obtain ⟨fs, h1, h2, h3⟩ := kat_firstsD (vs := vs) fun v' hm => hp v' (List.mem_cons_of_mem _ hm)
    obtain ⟨k, l, as, r⟩ := hp v List.mem_cons_self
    simp only [toPy, toPys] at r
    cases r with
    | @tuple a o us n _ _ g1 g2 g3 g4 =>
      generalize hus : us.toList = ul at g4
      cases g4 with
      | cons c1 c2 =>
        cases c1 with
        | int _ t =>
          have hf : us[0]? = some (.int k t) := by
            rw [← Array.getElem?_toList, hus]
            rfl
          refine ⟨.int k t :: fs, PySem.W.KatTups.cons g1 g2 g3 hf h1, by rw [List.length_cons, List.length_cons, h2], fun f hm => ?_⟩
          rcases List.mem_cons.mp hm with rfl | hm
          · exact ⟨k, t, rfl⟩
          · exact h3 f hm
open Classical in
/-- the data that a value is -/
noncomputable def keyD (h : Heap) (ds : List D) (v : Value) : D := if q : ∃ d, d ∈ ds ∧ ∃ as, Reads h v (toPy d) as then q.choose else ds.headD (.int 0)
theorem keyD_in (h : Heap) (ds : List D) (v : Value) : keyD h ds v ∈ ds ∨ (ds = [] ∧ keyD h ds v = .int 0) := by
  unfold keyD
  split
  · rename_i q
    exact .inl q.choose_spec.1
  · cases ds with
    | nil => exact .inr ⟨rfl, rfl⟩
    | cons d ds => exact .inl List.mem_cons_self
theorem keyD_eq {h : Heap} {ds : List D} {v : Value} {d : D} {as : List Addr} (hc : ∀ x ∈ ds, ∀ y ∈ ds, cmpb x y = true) (hd : d ∈ ds) (r : Reads h v (toPy d) as) : keyD h ds v = d := by
  have q : ∃ d, d ∈ ds ∧ ∃ as, Reads h v (toPy d) as := ⟨d, hd, as, r⟩
  unfold keyD
  rw [dif_pos q]
  obtain ⟨h1, bs, h2⟩ := q.choose_spec
  exact reads_one _ _ v bs as (hc _ h1 _ hd) h2 r
theorem swo_D {h : Heap} {ds : List D} (hc : ∀ x ∈ ds, ∀ y ∈ ds, cmpb x y = true) : SrtO.Swo fun v u => dlt (keyD h ds v) (keyD h ds u) := by
  have c : ∀ v u, cmpb (keyD h ds v) (keyD h ds u) = true := fun v u => by
    rcases keyD_in h ds v with h1 | ⟨h1, h2⟩
    · rcases keyD_in h ds u with h3 | ⟨h3, h4⟩
      · exact hc _ h1 _ h3
      · rw [h3] at h1; cases h1
    · rcases keyD_in h ds u with h3 | ⟨h3, h4⟩
      · rw [h1] at h3; cases h3
      · rw [h2, h4]; rfl
  refine ⟨fun x y h1 => ?_, fun x y z h1 h2 => ?_⟩
  · cases q : dlt (keyD h ds y) (keyD h ds x) with
    | false => rfl
    | true =>
      have := dlt_tr _ _ _ (c x y) (c y x) (c x x) h1 q
      rw [dlt_irr _ (c x x)] at this
      cases this
  · cases q : dlt (keyD h ds z) (keyD h ds x) with
    | false => rfl
    | true =>
      cases q2 : dlt (keyD h ds x) (keyD h ds y) with
      | false =>
        have e := dlt_tri _ _ (c x y) q2 h1
        rw [e] at q
        rw [q] at h2
        cases h2
      | true =>
        have := dlt_tr _ _ _ (c z x) (c x y) (c z y) q q2
        rw [this] at h2
        cases h2
def rSortD (F : Fx) (K : PySem.W.Frag) : List V → Hp → VK → Prop := fun vs H Q => ∃ (a : Addr) (ys : List V) (ρ : List Addr) (Hm : Hp) (ds : List D), vs = [V.ref a] ∧ (SqL K H a ys ∨ SqT K H a ys) ∧ (∀ b o, Hm b = some o → H b = some o) ∧ RDs F ρ Hm ys ds ∧ srtOk ds = true ∧
  ∀ (p : Addr) (zs : List V), RDs F ρ Hm zs (sortD ds) → H p = none → Q (.ref p) (upd H p (.lst zs))
theorem vals_out {F : Fx} {ρ : List Addr} {Hm : Hp} {key : Value → D} : ∀ {out : List Value}, (∀ v ∈ out, ∃ y, RelV y v ∧ RD F ρ Hm y (key v)) → ∃ zs, Vals zs out ∧ RDs F ρ Hm zs (out.map key)
  | [], _ => ⟨[], Paired.nil, .nil⟩
  | v :: out, h => by
    obtain ⟨zs, h1, h2⟩ := vals_out fun u hu => h u (List.mem_cons_of_mem _ hu)
    obtain ⟨y, h3, h4⟩ := h v List.mem_cons_self
    exact ⟨y :: zs, Paired.cons h3 h1, .cons h4 h2⟩
section
variable {X : Cx}
theorem cr_sortD {F : Fx} (hK : F.K = X.K) (hu : X.A.units + 70 < cLine) : CallR X (.builtin "sorted") (rSortD F X.K) := by
  intro pins s σ H vs us Q I r h
  obtain ⟨a, ys, ρ, Hm, ds, rfl, hs, hm, rd, ok, q⟩ := h
  rw [Vals.ref1 r]
  unfold srtOk at ok
  simp only [Bool.and_eq_true, List.all_eq_true] at ok
  obtain ⟨o1, o2, o3⟩ := ok
  have base : ∀ {its : List Value}, Vals ys its → its.length = ds.length ∧ ∀ v ∈ its, ∃ y d, d ∈ ds ∧ RelV y v ∧ RD F ρ Hm y d ∧ ∃ as, Reads s.heap v (toPy d) as := fun {its} rv => by
    refine ⟨by rw [← rv.length, rd.length], fun v hv => ?_⟩
    obtain ⟨j, hj, e⟩ := List.getElem_of_mem hv
    have hj2 : j < ys.length := by rw [rv.length]; exact hj
    obtain ⟨d, e1, e2⟩ := rd.getV (List.getElem?_eq_getElem hj2)
    obtain ⟨u, e3, e4⟩ := rv.get (List.getElem?_eq_getElem hj2)
    rw [List.getElem?_eq_getElem hj] at e3
    have e5 : u = v := by rw [← e]; exact (Option.some.inj e3).symm
    subst e5
    have hd := List.mem_of_getElem? e1
    obtain ⟨as, r1⟩ := Dp.reads I (toPy d) _ u (by rw [← hK]; exact RD.dp hm e2 (flt_plain (o1 d hd))) e4
    exact ⟨_, d, hd, e4, e2, as, r1⟩
  have go : ∀ {its : List Value}, Vals ys its → its.length ≤ sizeLine → (∀ out : List Value, SrtO.Srtd (fun v u => dlt (keyD s.heap ds v) (keyD s.heap ds u)) out → SrtO.Stb (fun v u => dlt (keyD s.heap ds v) (keyD s.heap ds u)) out its → ∃ (v : V) (H' : Hp), Inv X pins σ H' { s with heap := PyProof.Rows.sortedAll s.heap its out.toArray } ∧ RelV v (.ref (s.heap.objs.size + 1)) ∧ Q v H') ∧
      (2 ≤ its.length → ∀ (h₁ : Heap) (a : Addr), h₁.get? a = some (seqObj "list" its.toArray 0) → (∀ b o, s.heap.get? b = some o → b ≠ a ∧ h₁.get? b = some o) → SrtO.SortableO X.prog X.w X.A.in1.in1 { s with heap := h₁ } a its fun v u => dlt (keyD s.heap ds v) (keyD s.heap ds u)) := fun {its} rv hz => by
    obtain ⟨b1, b2⟩ := base rv
    have hkey : ∀ v ∈ its, ∃ y, RelV y v ∧ RD F ρ Hm y (keyD s.heap ds v) ∧ keyD s.heap ds v ∈ ds ∧ ∃ as, Reads s.heap v (toPy (keyD s.heap ds v)) as := fun v hv => by
      obtain ⟨y, d, hd, e1, e2, as, e3⟩ := b2 v hv
      rw [keyD_eq o3 hd e3]
      exact ⟨y, e1, e2, hd, as, e3⟩
    have hmap : its.map (keyD s.heap ds) = ds := by
      refine List.ext_getElem? fun j => ?_
      rw [List.getElem?_map]
      by_cases hj : j < its.length
      · have hj2 : j < ys.length := by rw [rv.length]; exact hj
        obtain ⟨d, e1, e2⟩ := rd.getV (List.getElem?_eq_getElem hj2)
        obtain ⟨u, e3, e4⟩ := rv.get (List.getElem?_eq_getElem hj2)
        have hd := List.mem_of_getElem? e1
        obtain ⟨as, r1⟩ := Dp.reads I (toPy d) _ u (by rw [← hK]; exact RD.dp hm e2 (flt_plain (o1 d hd))) e4
        rw [e3, e1, Option.map_some, keyD_eq o3 hd r1]
      · rw [List.getElem?_eq_none (by omega), List.getElem?_eq_none (by omega)]
        rfl
    refine ⟨fun out h1 h2 => ?_, fun h2 h₁ a' ha hk h' keep => ?_⟩
    · obtain ⟨zs, z1, z2⟩ := vals_out (F := F) (ρ := ρ) (Hm := Hm) (key := keyD s.heap ds) (out := out) fun v hv => by
        obtain ⟨y, e1, e2, _⟩ := hkey v (h2.perm.mem_iff.mp hv)
        exact ⟨y, e1, e2⟩
      have hp : (out.map (keyD s.heap ds)).Perm ds := by
        have := h2.perm.map (keyD s.heap ds)
        rwa [hmap] at this
      have hs1 : SrtD (out.map (keyD s.heap ds)) := List.pairwise_map.mpr h1
      have e : out.map (keyD s.heap ds) = sortD ds := srtD_one (P := fun x => x ∈ ds) (fun x y hx hy => o3 x hx y hy) (fun y hy => hp.mem_iff.mp hy) hs1 (sortD_srtF (P := fun x => x ∈ ds) (fun x y hx hy => o3 x hx y hy) ds [] (fun y h => h) (fun y h => by cases h) List.Pairwise.nil) (hp.trans (sortD_perm ds).symm)
      rw [e] at z2
      obtain ⟨ep, he'⟩ := PyProof.Rows.sortedAll_at s.heap its out.toArray
      have hlen : zs.length ≤ sizeLine := by
        rw [z1.length, h2.perm.length_eq]
        exact hz
      exact ⟨.ref _, upd H (s.heap.objs.size + 1) (.lst zs), I.laid (t' := s.toks) (fun _ _ => PyProof.Rows.sortedAll_old) (Nat.le_succ _) ⟨hlen, out, ep, z1, he'⟩, rfl, q _ _ z2 (I.hok.fresh (Nat.le_succ _))⟩
    · have hk' : ∀ b o, s.heap.get? b = some o → h'.get? b = some o := fun b o e => keep b o (hk b o e).1 (hk b o e).2
      have hr : ∀ v ∈ its, ∃ as, Reads h' v (toPy (keyD s.heap ds v)) as := fun v hv => by
        obtain ⟨_, _, _, _, as, e⟩ := hkey v hv
        exact ⟨as, PyProof.Rows.Reads.keeps hk' e⟩
      have hin : ∀ v ∈ its, keyD s.heap ds v ∈ ds := fun v hv => (hkey v hv).choose_spec.2.2.1
      have hti : ∀ v ∈ its, ∃ k l, keyD s.heap ds v = .tup (.int k :: l) := fun v hv => by
        have := o2 _ (hin v hv)
        unfold tupI at this
        split at this
        · rename_i k l e
          exact ⟨k, l, e⟩
        · cases this
      obtain ⟨fs, f1, f2, f3⟩ := kat_firstsD (h := h') (vs := its) fun v hv => by
        obtain ⟨k, l, e⟩ := hti v hv
        obtain ⟨as, r⟩ := hr v hv
        rw [e] at r
        exact ⟨k, l, as, r⟩
      refine ⟨tuples' true, fun Q E hq => ?_, fun p p' hp hp' => ?_⟩
      · refine PySem.W.kat_kind (T := .type "int") f1 (by omega) (fun f hm => ?_) (by rfl) ?_
        · obtain ⟨x, t, rfl⟩ := f3 f hm
          exact PySem.W.Looks.now
        · have e : (Value.type "int" != Value.type "tuple") = true := by first | decide +kernel | rfl | decide
          rw [e]
          exact hq
      · obtain ⟨k, l, e⟩ := hti _ hp
        obtain ⟨k', l', e'⟩ := hti _ hp'
        obtain ⟨as, r1⟩ := hr _ hp
        obtain ⟨bs, r2⟩ := hr _ hp'
        have i1 := hin _ hp
        have i2 := hin _ hp'
        have c := o3 _ i1 _ i2
        have fl1 := o1 _ i1
        have fl2 := o1 _ i2
        show wpAny (model X.prog X.w) X.A.in1.in1 (keyLt' (tuples' true) p.1 p'.1) (fun r s' => s' = { s with heap := h' } ∧ r = dlt (keyD s.heap ds p.1) (keyD s.heap ds p'.1)) (fun _ _ => False) { s with heap := h' }
        generalize keyD s.heap ds p.1 = x at e r1 c fl1
        generalize keyD s.heap ds p'.1 = y at e' r2 c fl2
        subst e e'
        generalize p.1 = u1 at r1
        generalize p'.1 = u2 at r2
        simp only [toPy] at r1 r2
        simp only [cmpb] at c
        have pl1 := flt_plain fl1
        have pl2 := flt_plain fl2
        have dp1 := flt_dep fl1
        simp only [plain] at pl1 pl2
        simp only [dep] at dp1
        cases r1 with
        | @tuple a1 oo1 vs1 n1 _ _ h1 h2' h3 h4 =>
        cases r2 with
        | @tuple a2 oo2 vs2 n2 _ _ g1 g2 g3 g4 =>
        have l1 := readsAll_lenD h4
        have l2 := readsAll_lenD g4
        rw [Array.length_toList] at l1 l2
        refine PySem.W.kat_lt h1 h3 g1 g3 ?_
        exact katlex (.int k :: l) (.int k' :: l') _ _ 0 _ _ 60 pl1 pl2 c (by omega) h4 g4 (by show X.A.units + 1 + 1 + 1 + 60 < cLine; omega) (fun _ => ⟨k, l, k', l', rfl, rfl⟩) (by rw [l1, l2]) (⟨rfl, by simp only [dlt]⟩)
  rcases hs with hs | hs
  · obtain ⟨its, rv, hl, hz⟩ := I.list hs
    obtain ⟨g1, g2⟩ := go rv (by rw [← rv.length]; exact hz)
    exact SrtO.sorted_ord (swo_D o3) hl.isList (by rw [← rv.length]; exact hz) g2 g1
  · obtain ⟨its, rv, hl, hz⟩ := I.tuple hs
    obtain ⟨g1, g2⟩ := go rv (by rw [← rv.length]; exact hz)
    exact SrtO.sorted_ordT (swo_D o3) (isTuple_of hl) (by rw [← rv.length]; exact hz) g2 g1
end
end Cw

end
section
/-! CwMn: min, max of a list of tuples. -/
namespace Cw
open PySem L2 PyProof.Rows
mutual
theorem alike_of : ∀ x y : D, cmpb x y = true → PySem.W.alike (toPy x) (toPy y) = true
  | .int _, y, h => by cases y <;> first | (simp [toPy, PySem.W.alike]; done) | (simp [cmpb] at h; done)
  | .str _, y, h => by cases y <;> first | (simp [toPy, PySem.W.alike]; done) | (simp [cmpb] at h; done)
  | .tup xs, y, h => by
    cases y with
    | tup ys =>
      simp only [toPy, PySem.W.alike]
      exact alikes_of xs ys (by simpa [cmpb] using h)
    | _ => simp [cmpb] at h
  | .non, y, h => by simp [cmpb] at h
  | .bl _, y, h => by simp [cmpb] at h
  | .lst _, y, h => by simp [cmpb] at h
  | .ref _, y, h => by simp [cmpb] at h
  | .frz _, y, h => by simp [cmpb] at h
  | .dK _, y, h => by simp [cmpb] at h
  | .dT _, y, h => by simp [cmpb] at h
  | .fn _, y, h => by simp [cmpb] at h
theorem alikes_of : ∀ xs ys : List D, cmpbs xs ys = true → PySem.W.alikeAll (toPys xs) (toPys ys) = true
  | [], ys, _ => by simp [toPys, PySem.W.alikeAll]
  | x :: xs, [], _ => by simp [toPys, PySem.W.alikeAll]
  | x :: xs, y :: ys, h => by
    simp only [cmpbs, Bool.and_eq_true] at h
    simp only [toPys, PySem.W.alikeAll, Bool.and_eq_true]
    exact ⟨alike_of x y h.1, alikes_of xs ys h.2⟩
end
mutual
theorem dataLt_of : ∀ x y : D, plain x = true → plain y = true → cmpb x y = true → PySem.W.dataLt (toPy x) (toPy y) = dlt x y
  | .int _, y, _, _, h => by
    cases y with
    | int j => simp only [toPy, dlt]; exact PySem.W.dataLt_int _ _
    | _ => simp [cmpb] at h
  | .str _, y, _, _, h => by
    cases y with
    | str j => simp only [toPy, dlt]; exact PySem.W.dataLt_str _ _
    | _ => simp [cmpb] at h
  | .tup xs, y, p1, p2, h => by
    cases y with
    | tup ys =>
      simp only [toPy, dlt]
      rw [PySem.W.dataLt_tuple]
      exact dataLts_of xs ys (by simpa [plain] using p1) (by simpa [plain] using p2) (by simpa [cmpb] using h)
    | _ => simp [cmpb] at h
  | .non, y, _, _, h => by simp [cmpb] at h
  | .bl _, y, _, _, h => by simp [cmpb] at h
  | .lst _, y, _, _, h => by simp [cmpb] at h
  | .ref _, y, _, _, h => by simp [cmpb] at h
  | .frz _, y, _, _, h => by simp [cmpb] at h
  | .dK _, y, _, _, h => by simp [cmpb] at h
  | .dT _, y, _, _, h => by simp [cmpb] at h
  | .fn _, y, _, _, h => by simp [cmpb] at h
theorem dataLts_of : ∀ xs ys : List D, plains xs = true → plains ys = true → cmpbs xs ys = true → PyProof.Rows.lexLt PyProof.Rows.itemOrd (PySem.W.keyToksAll (toPys xs)) (PySem.W.keyToksAll (toPys ys)) = dlts xs ys
  | [], [], _, _, _ => by simp only [toPys, dlts]; decide
  | [], y :: ys, _, _, _ => by
    simp only [toPys, dlts, PySem.W.keyToksAll]
    rfl
  | x :: xs, [], _, _, _ => by
    simp only [toPys, dlts, PySem.W.keyToksAll]
    rfl
  | x :: xs, y :: ys, p1, p2, h => by
    simp only [cmpbs, Bool.and_eq_true] at h
    simp only [plains, Bool.and_eq_true] at p1 p2
    have a := alike_of x y h.1
    have e := deq_of x y p1.1 p2.1
    simp only [toPys, dlts]
    cases q : deq x y with
    | true =>
      rw [PySem.W.dataLt_all_yes a (by rw [e]; exact q), if_pos rfl]
      exact dataLts_of xs ys p1.2 p2.2 h.2
    | false =>
      rw [PySem.W.dataLt_all_no a (by rw [e]; exact q)]
      exact dataLt_of x y p1.1 p2.1 h.1
end
theorem fold_mem {f : D → D → Bool} : ∀ (l : List D) (d : D), (l.foldl (fun a y => if f y a = true then y else a) d) ∈ d :: l
  | [], d => List.mem_cons_self
  | y :: l, d => by
    rw [List.foldl_cons]
    have := fold_mem (f := f) l (if f y d = true then y else d)
    rcases List.mem_cons.mp this with h | h
    · rw [h]
      split
      · exact List.mem_cons_of_mem _ List.mem_cons_self
      · exact List.mem_cons_self
    · exact List.mem_cons_of_mem _ (List.mem_cons_of_mem _ h)
theorem minT_mem (d : D) (l : List D) : minT d l ∈ d :: l := fold_mem l d
theorem maxT_mem (d : D) (l : List D) : maxT d l ∈ d :: l := fold_mem (f := fun y a => dlt a y) l d
theorem toPys_map : ∀ l : List D, toPys l = l.map toPy
  | [] => rfl
  | x :: l => by rw [toPys, toPys_map l, List.map_cons]
theorem fold_py {f : D → D → Bool} {g : PyData → PyData → Bool} {P : D → Prop} (h : ∀ a y, P a → P y → g (toPy y) (toPy a) = f y a) : ∀ (l : List D) (d : D), P d → (∀ y ∈ l, P y) → (l.map toPy).foldl (fun a y => if g y a then y else a) (toPy d) = toPy (l.foldl (fun a y => if f y a = true then y else a) d)
  | [], d, _, _ => rfl
  | y :: l, d, hd, hl => by
    rw [List.map_cons, List.foldl_cons, List.foldl_cons]
    have hy := hl y List.mem_cons_self
    have e : (if g (toPy y) (toPy d) = true then toPy y else toPy d) = toPy (if f y d = true then y else d) := by
      rw [h d y hd hy]
      cases f y d <;> rfl
    rw [e]
    refine fold_py h l _ ?_ fun z hz => hl z (List.mem_cons_of_mem _ hz)
    split
    · exact hy
    · exact hd
theorem readsAll_mk {h : Heap} : ∀ (us : List Value) (ds : List D), us.length = ds.length → (∀ (j : Nat) (u : Value) (d : D), us[j]? = some u → ds[j]? = some d → ∃ as, Reads h u (toPy d) as) → ∃ as, ReadsAll h us (toPys ds) as
  | [], [], _, _ => ⟨_, by rw [toPys]; exact .nil⟩
  | [], _ :: _, e, _ => by simp at e
  | _ :: _, [], e, _ => by simp at e
  | u :: us, d :: ds, e, h => by
    obtain ⟨as, r⟩ := h 0 u d rfl rfl
    obtain ⟨bs, rs⟩ := readsAll_mk us ds (by simpa using e) fun j u' d' h1 h2 => h (j + 1) u' d' (by simpa using h1) (by simpa using h2)
    exact ⟨_, by rw [toPys]; exact .cons r rs⟩
theorem deps_le {n : Nat} : ∀ {l : List D}, (∀ x ∈ l, dep x ≤ n) → deps l ≤ n
  | [], _ => Nat.zero_le _
  | x :: l, h => by
    rw [deps]
    exact Nat.max_le.mpr ⟨h x List.mem_cons_self, deps_le fun y hy => h y (List.mem_cons_of_mem _ hy)⟩
def rMnD (mn : Bool) (F : Fx) (K : PySem.W.Frag) : List V → Hp → VK → Prop := fun vs H Q => ∃ (a : Addr) (ys : List V) (ρ : List Addr) (Hm : Hp) (d : D) (ds : List D), vs = [V.ref a] ∧ SqL K H a ys ∧ (∀ b o, Hm b = some o → H b = some o) ∧ RDs F ρ Hm ys (d :: ds) ∧ srtOk (d :: ds) = true ∧
  ∀ v, RD F ρ Hm v (if mn = true then minT d ds else maxT d ds) → Q v H
section
variable {X : Cx}
theorem cr_mnD {F : Fx} (mn : Bool) (hK : F.K = X.K) (hc : X.calm = true) (hu : X.A.units + 70 < cLine) : CallR X (.builtin (if mn = true then "min" else "max")) (rMnD mn F X.K) := by
  intro pins s σ H vs us Q I r h
  obtain ⟨a, ys, ρ, Hm, d, ds, rfl, hs, hm, rd, ok, q⟩ := h
  rw [Vals.ref1 r]
  unfold srtOk at ok
  simp only [Bool.and_eq_true, List.all_eq_true] at ok
  obtain ⟨o1, o2, o3⟩ := ok
  obtain ⟨its, rv, hl, hz⟩ := I.list hs
  have hlen : its.length = (d :: ds).length := by rw [← rv.length, rd.length]
  have base : ∀ (j : Nat) (u : Value) (e : D), its[j]? = some u → (d :: ds)[j]? = some e → ∃ y as, RelV y u ∧ RD F ρ Hm y e ∧ Reads s.heap u (toPy e) as := fun j u e h1 h2 => by
    have hj : j < its.length := (List.getElem?_eq_some_iff.mp h1).1
    have hj2 : j < ys.length := by rw [rv.length]; exact hj
    obtain ⟨e', e1, e2⟩ := rd.getV (List.getElem?_eq_getElem hj2)
    obtain ⟨u', e3, e4⟩ := rv.get (List.getElem?_eq_getElem hj2)
    rw [h2] at e1
    rw [h1] at e3
    cases e1
    cases e3
    obtain ⟨as, r1⟩ := Dp.reads I (toPy e) _ u (by rw [← hK]; exact RD.dp hm e2 (flt_plain (o1 e (List.mem_of_getElem? h2)))) e4
    exact ⟨_, as, e4, e2, r1⟩
  obtain ⟨as, hr⟩ := readsAll_mk its (d :: ds) hlen fun j u e h1 h2 => by
    obtain ⟨_, as, _, _, r1⟩ := base j u e h1 h2
    exact ⟨as, r1⟩
  have hpl : ∀ x ∈ d :: ds, plain x = true := fun x hx => flt_plain (o1 x hx)
  have hal : PySem.W.AlikeAll (toPy d :: toPys ds) := by
    refine ⟨fun x hx y hy => ?_, fun x hx => ?_⟩
    · rw [toPys_map, ← List.map_cons] at hx hy
      obtain ⟨x', hx', rfl⟩ := List.mem_map.mp hx
      obtain ⟨y', hy', rfl⟩ := List.mem_map.mp hy
      exact alike_of _ _ (o3 x' hx' y' hy')
    · rw [toPys_map, ← List.map_cons] at hx
      obtain ⟨x', hx', rfl⟩ := List.mem_map.mp hx
      have h1 := o3 x' hx' x' hx'
      cases x' <;> first | (simp [toPy]; done) | (simp [cmpb] at h1; done)
  have hdp : PyData.depthAll (toPy d :: toPys ds) ≤ 60 := by
    have e : toPy d :: toPys ds = toPys (d :: ds) := by rw [toPys]
    have hp : plains (d :: ds) = true := by
      have : ∀ l : List D, (∀ x ∈ l, plain x = true) → plains l = true := fun l => by
        induction l with
        | nil => intro _; rfl
        | cons x l ih => intro h; rw [plains, h x List.mem_cons_self, ih fun y hy => h y (List.mem_cons_of_mem _ hy)]; rfl
      exact this _ hpl
    rw [e, depths_of _ hp]
    refine deps_le fun x hx => ?_
    have := o1 x hx
    unfold flt at this
    simp only [Bool.and_eq_true, decide_eq_true_eq] at this
    exact this.2
  have fin : ∀ (m : D), m ∈ d :: ds → (∀ v, RD F ρ Hm v m → Q v H) → ∀ (i : Nat) (v : Value) (h' : Heap) (tk : Nat → Option Nat) (bs : List Addr), its[i]? = some v → Reads h' v (toPy m) bs → (∀ b o, s.heap.get? b = some o → h'.get? b = some o) → ∃ y, RelV y v ∧ Q y H := fun m hmem hq i v h' tk bs hv hr' hk => by
    have hi : i < (d :: ds).length := by rw [← hlen]; exact (List.getElem?_eq_some_iff.mp hv).1
    obtain ⟨y, as', e1, e2, e3⟩ := base i v _ hv (List.getElem?_eq_getElem hi)
    have e := reads_one _ m v _ _ (o3 _ (List.getElem_mem hi) m hmem) (PyProof.Rows.Reads.keeps hk e3) hr'
    exact ⟨y, e1, hq y (e ▸ e2)⟩
  have hr' : ReadsAll s.heap its (toPy d :: toPys ds) as := by
    rw [toPys] at hr
    exact hr
  cases mn with
  | true =>
    refine PySem.W.min_list_data (I.ok.hd hc) (vs := its.toArray) hl.isList hr' hal (by omega) fun i v h' tk bs hv hr2 hk => ?_
    have em : PySem.W.minD (toPy d) (toPys ds) = toPy (minT d ds) := by
      rw [toPys_map]
      exact fold_py (f := fun y a => dlt y a) (g := fun y a => PySem.W.dataLt y a) (P := fun x => x ∈ d :: ds) (fun a y ha hy => dataLt_of y a (hpl y hy) (hpl a ha) (o3 y hy a ha)) ds d List.mem_cons_self fun y hy => List.mem_cons_of_mem _ hy
    rw [em] at hr2
    obtain ⟨y, e1, e2⟩ := fin _ (minT_mem d ds) q i v h' (fun _ => none) bs (by simpa using hv) hr2 hk
    exact ⟨y, H, I.kept hk, e1, e2⟩
  | false =>
    refine PySem.W.max_list_data (I.ok.hd hc) (vs := its.toArray) hl.isList hr' hal (by omega) fun i v h' tk bs hv hr2 hk => ?_
    have em : PySem.W.maxD (toPy d) (toPys ds) = toPy (maxT d ds) := by
      rw [toPys_map]
      exact fold_py (f := fun y a => dlt a y) (g := fun y a => PySem.W.dataLt a y) (P := fun x => x ∈ d :: ds) (fun a y ha hy => dataLt_of a y (hpl a ha) (hpl y hy) (o3 a ha y hy)) ds d List.mem_cons_self fun y hy => List.mem_cons_of_mem _ hy
    rw [em] at hr2
    obtain ⟨y, e1, e2⟩ := fin _ (maxT_mem d ds) q i v h' (fun _ => none) bs (by simpa using hv) hr2 hk
    exact ⟨y, H, I.kept hk, e1, e2⟩
end
end Cw

end
section
/-! CwF: operators, comparisons, tests, calls. -/
namespace Cw
open PySem L2 PyProof.Rows
section
variable {F : Fx} {A : Act} {al : List (Option Addr)} {W : XW} {σ : List Sl} {σV : L2.St} {ρ : List Addr} {H : Hp} {R : RH}
theorem RT.tupM {v : V} {ds : List D} (h : RT F A al ρ H v (.tup ds)) : RM F A al ρ H v (.tup ds) := by
  rcases h with h | ⟨a, _, _, h⟩
  · exact h
  · exact h.elim
theorem SqT.toK {K K' : PySem.W.Frag} (e : K = K') {H : Hp} {a : Addr} {vs : List V} (h : SqT K H a vs) : SqT K' H a vs := e ▸ h
theorem SqL.toK {K K' : PySem.W.Frag} (e : K = K') {H : Hp} {a : Addr} {vs : List V} (h : SqL K H a vs) : SqL K' H a vs := e ▸ h
end

/-! ### binary operators -/
def opB : Bop → Operator
  | .add => .Add
  | .sub => .Sub
  | .mul => .Mult
  | .fdiv => .FloorDiv
  | .mod => .Mod
  | .pow => .Pow
theorem OpR.or2 {X : Cx} {f : Value → Value → Sem Value} {r r' : R2} (h : OpR X f r) (h' : OpR X f r') : OpR X f (fun x y H Q => r x y H Q ∨ r' x y H Q) := h.or h'
def rAddS : R2 := fun x y H Q => ∃ i j, x = .str i ∧ y = .str j ∧ i.length + j.length ≤ sizeLine ∧ Q (.str (i ++ j)) H
def rBin (K : PySem.W.Frag) : Bop → R2
  | .add => fun x y H Q => (rI0 fun i j => .int (i + j)) x y H Q ∨ (rAddS x y H Q ∨ (rCatA K x y H Q ∨ rCat x y H Q))
  | .sub => rI0 fun i j => .int (i - j)
  | .mul => fun x y H Q => (rI CMul fun i j => .int (i * j)) x y H Q ∨ (rRep x y H Q ∨ rRepT K x y H Q)
  | .fdiv => rI CDivN fun i j => .int (i.fdiv j)
  | .mod => rI (fun _ j => j ≠ 0) fun i j => .int (i.fmod j)
  | .pow => rI CPow fun i j => .int (i ^ j.toNat)
theorem op_bin {X : Cx} : ∀ o : Bop, OpR X (binaryOp (opB o)) (rBin X.K o)
  | .add => op_add.or (op_add_str.or (op_catA.or op_cat))
  | .sub => op_sub
  | .mul => op_mul.or (op_rep.or op_repT)
  | .fdiv => op_fdivN
  | .mod => op_modN
  | .pow => op_pow
section
variable {F : Fx} {A : Act} {al : List (Option Addr)} {W : XW} {σ : List Sl} {σV : L2.St} {ρ : List Addr} {H : Hp} {R : RH} {K : PySem.W.Frag}
theorem bin_fin (hK : F.K = K) (r : Rel F A ρ al σ R σV H) {o : Bop} {x y d : D} {v u : V} {Q : VK} (q1 : RT F A al ρ H v x) (q2 : RT F A al ρ H u y) (e : binD o x y = some d)
    (p : Post F A al W σ σV ρ H (.ok d R) (RM F A al) Q) : rBin K o v u H Q := by
  unfold binD at e
  split at e
  · cases e
    exact .inl ⟨_, _, q1.int, q2.int, p.here r (RD.int _)⟩
  · split at e
    · rename_i h
      cases e
      exact .inr (.inl ⟨_, _, q1.str, q2.str, h, p.here r (RD.str _)⟩)
    · cases e
  · split at e
    · rename_i xs ys h
      cases e
      obtain ⟨a, vs, rfl, h1, t1⟩ := q1.tup
      obtain ⟨b, ws, rfl, h2, t2⟩ := q2.tup
      refine .inr (.inr (.inl ⟨a, b, vs, ws, rfl, rfl, SqT.toK hK h1, SqT.toK hK h2, by rw [t1.length, t2.length]; exact h, fun z => ?_, fun _ z => ?_, fun _ _ s hs => ?_⟩))
      · subst z
        cases t1
        exact p.here r q2.tupM
      · subst z
        cases t2
        rw [List.append_nil] at p
        exact p.here r q1.tupM
      · exact p.new r hs (RM.tup r hs (t1.append t2))
    · cases e
  · split at e
    · rename_i xs ys h
      cases e
      obtain ⟨a, vs, rfl, h1, t1⟩ := q1.lst
      obtain ⟨b, ws, rfl, h2, t2⟩ := q2.lst
      exact .inr (.inr (.inr ⟨a, b, vs, ws, rfl, rfl, h1, h2, by rw [t1.length, t2.length]; exact h, fun s hs => p.new r hs (RM.lst r hs (t1.append t2))⟩))
    · cases e
  · cases e
    exact ⟨_, _, q1.int, q2.int, p.here r (RD.int _)⟩
  · split at e
    · rename_i h
      cases e
      exact .inl ⟨_, _, q1.int, q2.int, of_decide_eq_true h, p.here r (RD.int _)⟩
    · cases e
  · split at e
    · rename_i xs k h
      cases e
      simp only [Bool.and_eq_true, decide_eq_true_eq] at h
      obtain ⟨a, vs, rfl, h1, t1⟩ := q1.lst
      exact .inr (.inl ⟨a, k, vs, rfl, q2.int, h1, h.1.1, h.1.2, by rw [t1.length]; exact h.2, fun s hs => p.new r hs (RM.lst r hs (RDs.rep t1 _))⟩)
    · cases e
  · split at e
    · rename_i xs k h
      cases e
      simp only [Bool.and_eq_true, decide_eq_true_eq, Bool.not_eq_true'] at h
      obtain ⟨a, vs, rfl, h1, t1⟩ := q1.tup
      exact .inr (.inr ⟨a, k, vs, rfl, q2.int, SqT.toK hK h1, fun z => (by subst z; cases t1; simp at h), h.2.1, h.2.2.1, by rw [t1.length]; exact h.2.2.2, fun s hs => p.new r hs (RM.tup r hs (RDs.rep t1 _))⟩)
    · cases e
  · split at e
    · rename_i h
      cases e
      exact ⟨_, _, q1.int, q2.int, of_decide_eq_true h, p.here r (RD.int _)⟩
    · cases e
  · split at e
    · cases e
    · rename_i h
      cases e
      exact ⟨_, _, q1.int, q2.int, h, p.here r (RD.int _)⟩
  · split at e
    · rename_i h
      cases e
      exact ⟨_, _, q1.int, q2.int, of_decide_eq_true h, p.here r (RD.int _)⟩
    · cases e
  · cases e
end
section
variable {F : Fx} {A : Act} {W : XW} {ck : Nat → List D → RH → Res D} {X : Cx} {a b c : Expr} {xa xb xc : Ex} {pos : Pos}
theorem snd_bin (hK : F.K = X.K) (o : Bop) (ha : PE X a (tB F W ck xa)) (hb : PE X b (tB F W ck xb)) : PE X (.BinOp a (opB o) b pos) (tS F W ck (.bin o xa xb)) :=
  PE.by (pe_op (op_bin o) ha hb) fun σV H Q ⟨A, ρ, al, σ, R, r, p⟩ => ⟨A, ρ, al, σ, R, r, Post.bind (Q1 := fun v H1 => tB F W ck xb σV H1 fun u H2 => rBin X.K o v u H2 Q) (show Post F A al W σ σV ρ H ((ev ck xa σ R).bind fun x R => (ev ck xb σ R).bind fun y R => .of (binD o x y) R) (RM F A al) Q from p)
    fun d R1 v H1 ρ1 r1 e1 q1 p1 => ⟨A, ρ1, al, σ, R1, r1, p1.bind fun d2 R2 u H2 ρ2 r2 e2 q2 p2 => by
      obtain ⟨d3, e3, p3⟩ := p2.of
      exact bin_fin hK r2 (RT.ext q1 e2) q2 e3 p3⟩⟩
theorem snd_neg (ha : PE X a (tB F W ck xa)) : PE X (.UnaryOp .USub a pos) (tS F W ck (.neg xa)) :=
  PE.by (pe_un un_neg ha) fun σV H Q ⟨A, ρ, al, σ, R, r, p⟩ => ⟨A, ρ, al, σ, R, r, Post.bind (show Post F A al W σ σV ρ H ((ev ck xa σ R).bind fun x R => .of (negD x) R) (RM F A al) Q from p) fun d R1 v H1 ρ1 r1 e1 q1 p1 => by
      obtain ⟨d', e', p2⟩ := p1.of
      cases d <;> first | (cases e'; done) | skip
      cases e'
      exact ⟨_, q1.int, p2.here r1 (RD.int _)⟩⟩
end

/-! ### comparisons -/
def opC : Cop → CmpOp
  | .eq => .Eq
  | .ne => .NotEq
  | .lt => .Lt
  | .le => .LtE
  | .gt => .Gt
  | .ge => .GtE
  | .is => .Is
  | .isn => .IsNot
  | .in_ => .In
  | .nin => .NotIn
def rLtD (F : Fx) : R2 := fun x y H Q => ∃ ρ Hm d e, (∀ a o, Hm a = some o → H a = some o) ∧ RD F ρ Hm x d ∧ RD F ρ Hm y e ∧ flt d = true ∧ flt e = true ∧ cmpb d e = true ∧ Q (.bl (dlt d e)) H
theorem op_ltD {X : Cx} {F : Fx} (hK : F.K = X.K) (hu : X.A.units + 70 < cLine) : OpR X (compareOp .Lt) (rLtD F) := by
  intro pins s σ H x y v u Q I rx ry h
  obtain ⟨ρ, Hm, d, e, k, h1, h2, f1, f2, c, q⟩ := h
  have z := rc_lt I hK k (dep d) d e x y v u X.A (Nat.le_refl _) h1 h2 rx ry (flt_plain f1) (flt_plain f2) c (by have := flt_dep f1; omega)
  exact z X.prog X.w X.xe (EP X pins σ Q) ⟨.bl _, H, I, rfl, q⟩
def rInT (K : PySem.W.Frag) (neg : Bool) : R2 := fun x y H Q => ∃ d ds, Dp K H x d ∧ Dp K H y (.tuple ds) ∧ SeqAt.shaped d = true ∧ PyData.canLayAll0 ds = true ∧ Q (.bl (if neg = true then !ds.any fun z => PyData.eqv z d else ds.any fun z => PyData.eqv z d)) H
def rInL (K : PySem.W.Frag) (neg : Bool) : R2 := fun x y H Q => ∃ d ds, Dp K H x d ∧ Dp K H y (.list ds) ∧ SeqAt.shaped d = true ∧ PyData.canLayAll0 ds = true ∧ Q (.bl (if neg = true then !ds.any fun z => PyData.eqv z d else ds.any fun z => PyData.eqv z d)) H
theorem op_inT {X : Cx} (hu : X.A.units + 70 < cLine) : OpR X (compareOp .In) (rInT X.K false) := by
  intro pins s σ H x y v u Q I rx ry h
  obtain ⟨d, ds, hd, he, sd, se, q⟩ := h
  obtain ⟨as, r1⟩ := Dp.reads I d x v hd rx
  obtain ⟨bs, r2⟩ := Dp.reads I (.tuple ds) y u he ry
  exact SeqAt.in_tuple_reads r2 r1 se (SeqAt.canLay_of_shaped sd) (room_in_shaped sd (by omega)) ⟨.bl _, H, I, rfl, q⟩
theorem op_ninT {X : Cx} (hu : X.A.units + 70 < cLine) : OpR X (compareOp .NotIn) (rInT X.K true) := by
  intro pins s σ H x y v u Q I rx ry h
  obtain ⟨d, ds, hd, he, sd, se, q⟩ := h
  obtain ⟨as, r1⟩ := Dp.reads I d x v hd rx
  obtain ⟨bs, r2⟩ := Dp.reads I (.tuple ds) y u he ry
  exact SeqAt.notIn_tuple_reads r2 r1 se (SeqAt.canLay_of_shaped sd) (room_in_shaped sd (by omega)) ⟨.bl _, H, I, rfl, q⟩
theorem op_inL {X : Cx} (hu : X.A.units + 70 < cLine) : OpR X (compareOp .In) (rInL X.K false) := by
  intro pins s σ H x y v u Q I rx ry h
  obtain ⟨d, ds, hd, he, sd, se, q⟩ := h
  obtain ⟨as, r1⟩ := Dp.reads I d x v hd rx
  obtain ⟨bs, r2⟩ := Dp.reads I (.list ds) y u he ry
  exact SeqAt.in_list_reads r2 r1 se (SeqAt.canLay_of_shaped sd) (room_in_shaped sd (by omega)) ⟨.bl _, H, I, rfl, q⟩
theorem op_ninL {X : Cx} (hu : X.A.units + 70 < cLine) : OpR X (compareOp .NotIn) (rInL X.K true) := by
  intro pins s σ H x y v u Q I rx ry h
  obtain ⟨d, ds, hd, he, sd, se, q⟩ := h
  obtain ⟨as, r1⟩ := Dp.reads I d x v hd rx
  obtain ⟨bs, r2⟩ := Dp.reads I (.list ds) y u he ry
  exact SeqAt.notIn_list_reads r2 r1 se (SeqAt.canLay_of_shaped sd) (room_in_shaped sd (by omega)) ⟨.bl _, H, I, rfl, q⟩
def rIsNon : R2 := fun x y H Q => y = .non ∧ Q (.bl (decide (x = .non))) H
def rIsnNon : R2 := fun x y H Q => y = .non ∧ Q (.bl (!decide (x = .non))) H
def rCmp (F : Fx) (K : PySem.W.Frag) : Cop → R2
  | .eq => rEqD K
  | .ne => rNeD K
  | .lt => rLtD F
  | .le => rI0 fun i j => .bl (decide (i ≤ j))
  | .gt => rI0 fun i j => .bl (decide (j < i))
  | .ge => rI0 fun i j => .bl (decide (j ≤ i))
  | .is => fun x y H Q => rIsNon x y H Q ∨ rIsB x y H Q
  | .isn => fun x y H Q => rIsnNon x y H Q ∨ rNotB x y H Q
  | .in_ => fun x y H Q => rInL K false x y H Q ∨ rInT K false x y H Q
  | .nin => fun x y H Q => rInL K true x y H Q ∨ rInT K true x y H Q
theorem op_cmp {X : Cx} {F : Fx} (hK : F.K = X.K) (hu : X.A.units + 70 < cLine) : ∀ o : Cop, OpR X (compareOp (opC o)) (rCmp F X.K o)
  | .eq => op_eqD (by omega)
  | .ne => op_neD (by omega)
  | .lt => op_ltD hK hu
  | .le => op_le
  | .gt => op_gt
  | .ge => op_ge
  | .is => op_isN.or op_isBl
  | .isn => op_notN.or op_notBl
  | .in_ => (op_inL hu).or (op_inT hu)
  | .nin => (op_ninL hu).or (op_ninT hu)
theorem any_eqv (x : D) (hx : plain x = true) : ∀ ys : List D, ys.all flt = true → (toPys ys).any (fun z => PyData.eqv z (toPy x)) = ys.any fun y => deq y x
  | [], _ => rfl
  | y :: ys, h => by
    simp only [List.all_cons, Bool.and_eq_true] at h
    simp only [toPys, List.any_cons]
    rw [deq_of y x (flt_plain h.1) hx, any_eqv x hx ys h.2]
theorem plains_of : ∀ {ys : List D}, ys.all flt = true → plains ys = true
  | [], _ => rfl
  | y :: ys, h => by
    simp only [List.all_cons, Bool.and_eq_true] at h
    simp only [plains, Bool.and_eq_true]
    exact ⟨flt_plain h.1, plains_of h.2⟩
section
variable {F : Fx} {A : Act} {al : List (Option Addr)} {W : XW} {σ : List Sl} {σV : L2.St} {ρ : List Addr} {H : Hp} {R : RH} {K : PySem.W.Frag}
theorem RT.to_rd {v : V} {x y : D} {u : V} (h : RT F A al ρ H v x) (h2 : RT F A al ρ H u y) (c : cmpb x y = true) : RD F ρ (mask H (OO A ρ al)) v x ∧ RD F ρ (mask H (OO A ρ al)) u y := by
  refine ⟨?_, ?_⟩
  · rcases h with h | ⟨a, _, _, h⟩
    · exact h
    · cases x <;> first | exact False.elim h | (simp [cmpb] at c; done)
  · rcases h2 with h | ⟨a, _, _, h⟩
    · exact h
    · cases y <;> first | exact False.elim h | (cases x <;> simp [cmpb] at c; done)
theorem RT.decNon {v : V} {x : D} (h : RT F A al ρ H v x) : decide (v = .non) = isNon x := by
  rcases h with h | ⟨a, rfl, _, h⟩
  · cases h <;> simp [isNon]
  · cases x <;> first | exact False.elim h | simp [isNon]
theorem cmp_fin (hK : F.K = K) (r : Rel F A ρ al σ R σV H) {o : Cop} {x y : D} {k : Bool} {v u : V} {Q : VK} (q1 : RT F A al ρ H v x) (q2 : RT F A al ρ H u y) (e : cmpD o x y = some k)
    (p : Q (.bl k) H) : rCmp F K o v u H Q := by
  subst hK
  unfold cmpD at e
  split at e
  · split at e
    · rename_i h
      cases e
      obtain ⟨f1, f2⟩ := Bool.and_eq_true_iff.mp h
      exact ⟨_, _, q1.dp (flt_plain f1), q2.dp (flt_plain f2), shaped_of f1, shaped_of f2, by rw [deq_of _ _ (flt_plain f1) (flt_plain f2)]; exact p⟩
    · cases e
  · split at e
    · rename_i h
      cases e
      obtain ⟨f1, f2⟩ := Bool.and_eq_true_iff.mp h
      exact ⟨_, _, q1.dp (flt_plain f1), q2.dp (flt_plain f2), shaped_of f1, shaped_of f2, by rw [deq_of _ _ (flt_plain f1) (flt_plain f2)]; exact p⟩
    · cases e
  · split at e
    · rename_i h
      cases e
      obtain ⟨f12, c⟩ := Bool.and_eq_true_iff.mp h
      obtain ⟨f1, f2⟩ := Bool.and_eq_true_iff.mp f12
      obtain ⟨h1, h2⟩ := RT.to_rd q1 q2 c
      exact ⟨ρ, _, _, _, fun _ _ z => (mask_some z).1, h1, h2, f1, f2, c, p⟩
    · cases e
  · cases e
    exact ⟨_, _, q1.int, q2.int, p⟩
  · cases e
    exact ⟨_, _, q1.int, q2.int, p⟩
  · cases e
    exact ⟨_, _, q1.int, q2.int, p⟩
  · cases e
    exact .inl ⟨q2.non, by rw [q1.decNon]; exact p⟩
  · cases e
    exact .inl ⟨q2.non, by rw [q1.decNon]; exact p⟩
  · cases e
    exact .inr ⟨_, _, q1.bl, q2.bl, p⟩
  · cases e
    exact .inr ⟨_, _, q1.bl, q2.bl, p⟩
  · split at e
    · rename_i h
      cases e
      obtain ⟨f1, f2⟩ := Bool.and_eq_true_iff.mp h
      have pl := plains_of f2
      exact .inl ⟨_, _, q1.dp (flt_plain f1), q2.dp (by simpa [plain] using pl), shaped_of f1, canLays_of _ pl, by rw [any_eqv _ (flt_plain f1) _ f2]; exact p⟩
    · cases e
  · split at e
    · rename_i h
      cases e
      obtain ⟨f1, f2⟩ := Bool.and_eq_true_iff.mp h
      have pl := plains_of f2
      exact .inl ⟨_, _, q1.dp (flt_plain f1), q2.dp (by simpa [plain] using pl), shaped_of f1, canLays_of _ pl, by rw [any_eqv _ (flt_plain f1) _ f2]; exact p⟩
    · cases e
  · split at e
    · rename_i h
      cases e
      obtain ⟨f1, f2⟩ := Bool.and_eq_true_iff.mp h
      have pl := plains_of f2
      exact .inr ⟨_, _, q1.dp (flt_plain f1), q2.dp (by simpa [plain] using pl), shaped_of f1, canLays_of _ pl, by rw [any_eqv _ (flt_plain f1) _ f2]; exact p⟩
    · cases e
  · split at e
    · rename_i h
      cases e
      obtain ⟨f1, f2⟩ := Bool.and_eq_true_iff.mp h
      have pl := plains_of f2
      exact .inr ⟨_, _, q1.dp (flt_plain f1), q2.dp (by simpa [plain] using pl), shaped_of f1, canLays_of _ pl, by rw [any_eqv _ (flt_plain f1) _ f2]; exact p⟩
    · cases e
  · cases e
end
end Cw

end
section
/-! CwG: comparisons, tests, calls. -/
namespace Cw
open PySem L2 PyProof.Rows
section
variable {F : Fx} {A : Act} {W : XW} {ck : Nat → List D → RH → Res D} {X : Cx} {a b c : Expr} {xa xb xc : Ex} {pos : Pos}
theorem cmp_step {o : Cop} (hK : F.K = X.K) (σV : L2.St) (H : Hp) (Q : VK) (h : tS F W ck (.cmp o xa xb) σV H Q) : tOp (rCmp F X.K o) (tB F W ck xa) (tB F W ck xb) σV H Q := by
  obtain ⟨A, ρ, al, σ, R, r, p⟩ := h
  exact ⟨A, ρ, al, σ, R, r, Post.bind (Q1 := fun v H1 => tB F W ck xb σV H1 fun u H2 => rCmp F X.K o v u H2 Q) (show Post F A al W σ σV ρ H ((ev ck xa σ R).bind fun x R => (ev ck xb σ R).bind fun y R => .of ((cmpD o x y).map .bl) R) (RM F A al) Q from p)
    fun d R1 v H1 ρ1 r1 e1 q1 p1 => ⟨A, ρ1, al, σ, R1, r1, p1.bind fun d2 R2 u H2 ρ2 r2 e2 q2 p2 => by
      obtain ⟨d3, e3, p3⟩ := p2.of
      cases e4 : cmpD o d d2 with
      | none => rw [e4] at e3; cases e3
      | some k =>
        rw [e4] at e3
        cases e3
        exact cmp_fin hK r2 (RT.ext q1 e2) q2 e4 (p3.here r2 (RD.bl k))⟩⟩
/-- a test by a reading -/
def tQ (t : TE) : TT := fun σ H Q => t σ H fun x H' => ∃ k, x = .bl k ∧ Q k H'
theorem nomark' {b : Expr} {o : CmpOp} (h : (match b with | .Set .. => true | _ => false) = false) : behindInMarks o b = false := by
  cases b <;> first | rfl | cases h
def notSet (b : Expr) : Bool := match b with | .Set .. => false | _ => true
theorem nomarkS {b : Expr} {o : CmpOp} (h : notSet b = true) : behindInMarks o b = false := by
  cases b <;> first | rfl | cases h
theorem snd_cmp {o : Cop} (hK : F.K = X.K) (hu : X.A.units + 70 < cLine) (hm : notSet b = true) (ha : PE X a (tB F W ck xa)) (hb : PE X b (tB F W ck xb)) : PE X (.Compare a [opC o] [b] pos) (tS F W ck (.cmp o xa xb)) :=
  PE.by (pe_cmpR (op_cmp hK hu o) ha hb (nomarkS hm)) fun σV H Q h => cmp_step hK σV H Q h
theorem snd_cmpT {o : Cop} (hK : F.K = X.K) (hu : X.A.units + 70 < cLine) (hm : notSet b = true) (ha : PE X a (tB F W ck xa)) (hb : PE X b (tB F W ck xb)) : PT X (.Compare a [opC o] [b] pos) (tQ (tS F W ck (.cmp o xa xb))) :=
  PT.by (pt_cmpR (op_cmp hK hu o) ha hb (nomarkS hm)) fun σV H Q h => cmp_step hK σV H _ h
/-- least <= x <= most -/
theorem ch_step {o o2 : Cop} (hK : F.K = X.K) (σV : L2.St) (H : Hp) (Q : VK) (h : tS F W ck (.ch2 o o2 xa xb xc) σV H Q) : tChain (rCmp F X.K o) (rCmp F X.K o2) (tB F W ck xa) (tB F W ck xb) (tB F W ck xc) σV H Q := by
  obtain ⟨A, ρ, al, σ, R, r, p⟩ := h
  refine ⟨A, ρ, al, σ, R, r, Post.bind (Rl := RT F A al) (show Post F A al W σ σV ρ H ((ev ck xa σ R).bind fun x R => (ev ck xb σ R).bind fun y R => match cmpD o x y with
    | some true => (ev ck xc σ R).bind fun z R => .of ((cmpD o2 y z).map .bl) R
    | some false => .ok (.bl false) R
    | none => .bad) (RM F A al) Q from p)
    fun d R1 v H1 ρ1 r1 e1 q1 p1 => ⟨A, ρ1, al, σ, R1, r1, p1.bind fun d2 R2 u H2 ρ2 r2 e2 q2 p2 => ?_⟩⟩
  cases e4 : cmpD o d d2 with
  | none => simp only [e4] at p2; exact p2.elim
  | some k =>
    refine cmp_fin hK r2 (RT.ext q1 e2) q2 e4 ⟨k, rfl, ?_⟩
    cases k with
    | false => simp only [e4] at p2; exact p2.here r2 (RD.bl _)
    | true =>
      simp only [e4] at p2
      refine ⟨A, ρ2, al, σ, R2, r2, p2.bind fun d3 R3 w H3 ρ3 r3 e3 q3 p3 => ?_⟩
      obtain ⟨d4, e5, p4⟩ := p3.of
      cases e6 : cmpD o2 d2 d3 with
      | none => rw [e6] at e5; cases e5
      | some k =>
        rw [e6] at e5
        cases e5
        exact cmp_fin hK r3 (RT.ext q2 e3) q3 e6 (p4.here r3 (RD.bl k))
theorem snd_ch {o o2 : Cop} (hK : F.K = X.K) (hu : X.A.units + 70 < cLine) (hm : notSet c = true) (ha : PE X a (tB F W ck xa)) (hb : PE X b (tB F W ck xb)) (hc : PE X c (tB F W ck xc)) :
    PE X (.Compare a [opC o, opC o2] [b, c] pos) (tS F W ck (.ch2 o o2 xa xb xc)) := PE.by (pe_chain (op_cmp hK hu o) (op_cmp hK hu o2) ha hb hc (nomarkS hm)) fun σV H Q h => ch_step hK σV H Q h
theorem snd_chT {o o2 : Cop} (hK : F.K = X.K) (hu : X.A.units + 70 < cLine) (hm : notSet c = true) (ha : PE X a (tB F W ck xa)) (hb : PE X b (tB F W ck xb)) (hc : PE X c (tB F W ck xc)) :
    PT X (.Compare a [opC o, opC o2] [b, c] pos) (tQ (tS F W ck (.ch2 o o2 xa xb xc))) := PT.by (pt_chain (op_cmp hK hu o) (op_cmp hK hu o2) ha hb hc (nomarkS hm)) fun σV H Q h => ch_step hK σV H _ h

/-! ### tests -/
/-- how a test is taken, of an expression that is no comparison, no and, or, not -/
def plainT (e : Expr) : Bool := match e with
  | .Name .. | .Call .. | .Constant .. | .Subscript .. => true
  | _ => false
theorem snd_val {x : Ex} {e : Expr} (hp : plainT e = true) (h : PE X e (tS F W ck x)) : PT X e (tQ (tS F W ck x)) := by
  refine PT.by (pt_val h ?_) fun σV H Q h => h
  cases e <;> first | (intro _; rfl) | cases hp
/-- a test's reading, of what follows it -/
theorem Post.test {al : List (Option Addr)} {σ : List Sl} {σV : L2.St} {ρ : List Addr} {H : Hp} {R : RH} {x : Ex} {γ δ : Type} {f : D → RH → Res γ} {Rl2 : List Addr → Hp → δ → γ → Prop} {Q : δ → Hp → Prop} {Q1 : VK} (r : Rel F A ρ al σ R σV H)
    (p : Post F A al W σ σV ρ H ((ev ck x σ R).bind f) Rl2 Q) (hf : ∀ d R1, (∀ b, d ≠ .bl b) → f d R1 = .bad)
    (h : ∀ b R1 H1 ρ1, Rel F A ρ1 al σ R1 σV H1 → Ext ρ H ρ1 H1 → Post F A al W σ σV ρ1 H1 (f (.bl b) R1) Rl2 Q → Q1 (.bl b) H1) : Post F A al W σ σV ρ H (stx x σ (ev ck x σ R)) (RM F A al) Q1 := by
  have e : stx x σ (ev ck x σ R) = ev ck x σ R ∨ ∃ i d, x = .var i ∧ gS σ i = .ow d := by
    cases x <;> first | exact .inl rfl | skip
    rename_i i
    cases q : gS σ i with
    | no => left; unfold stx; simp [q, isOw]
    | lm => left; unfold stx; simp [q, isOw]
    | er c => left; unfold stx; simp [q, isOw]
    | sh d => left; unfold stx; simp [q, isOw]
    | ow d => right; exact ⟨i, d, rfl, q⟩
  cases q : ev ck x σ R with
  | exc c R1 =>
    rw [q] at p e
    rcases e with e | ⟨i, d, rfl, g⟩
    · rw [e]; exact p
    · simp [ev, g, Sl.val, Res.of] at q
  | bad => rw [q] at p; exact p.elim
  | ok d R1 =>
    rw [q] at p e
    by_cases hb : ∃ b, d = .bl b
    · obtain ⟨b, rfl⟩ := hb
      rcases e with e | ⟨i, d, rfl, g⟩
      · rw [e]
        intro v H1 ρ1 r1 e1 q1
        have q1 : RD F ρ1 (mask H1 (OO A ρ1 al)) v (.bl b) := q1
        cases q1
        exact h b R1 H1 ρ1 r1 e1 (Post.ext p e1)
      · simp only [ev, g, Sl.val, Res.of, Res.ok.injEq] at q
        obtain ⟨rfl, rfl⟩ := q
        obtain ⟨a, _, _, _, _, z⟩ := r.ow g
        exact z.elim
    · have z := hf d R1 fun b e => hb ⟨b, e⟩
      simp only [Res.bind] at p
      rw [z] at p
      exact p.elim
theorem snd_not (ha : PE X a (tB F W ck xa)) : PE X (.UnaryOp .Not a pos) (tS F W ck (.not xa)) :=
  PE.by (pe_not ha) fun σV H Q ⟨A, ρ, al, σ, R, r, p⟩ => ⟨A, ρ, al, σ, R, r, Post.bind (show Post F A al W σ σV ρ H ((ev ck xa σ R).bind fun x R => .of (notD x) R) (RM F A al) Q from p) fun d R1 v H1 ρ1 r1 e1 q1 p1 => by
    obtain ⟨d', e', p2⟩ := p1.of
    cases d <;> first | (cases e'; done) | skip
    cases e'
    exact ⟨_, q1.bl, p2.here r1 (RD.bl _)⟩⟩
theorem notD_bad : ∀ d : D, (∀ b, d ≠ .bl b) → notD d = none := fun d h => by
  cases d <;> first | rfl | exact absurd rfl (h _)
theorem snd_notT (ha : PT X a (tQ (tS F W ck xa))) : PT X (.UnaryOp .Not a pos) (tQ (tS F W ck (.not xa))) :=
  PT.by (pt_not ha) fun σV H Q ⟨A, ρ, al, σ, R, r, p⟩ => ⟨A, ρ, al, σ, R, r, Post.test r (show Post F A al W σ σV ρ H ((ev ck xa σ R).bind fun x R => .of (notD x) R) (RM F A al) _ from p) (fun d R1 h => by rw [notD_bad d h]; rfl) fun b R1 H1 ρ1 r1 e1 p1 => by
    obtain ⟨k, e, q⟩ := Post.here (v := V.bl (!b)) p1 r1 (RD.bl _)
    cases e
    exact ⟨b, rfl, q⟩⟩
/-! and, or -/
def tEA (F : Fx) (W : XW) (ck : Nat → List D → RH → Res D) (xs : Exs) : TE := fun σV H Q => ∃ A ρ al σ R, Rel F A ρ al σ R σV H ∧ Post F A al W σ σV ρ H (evAnd ck xs σ R) (RM F A al) Q
def tEO (F : Fx) (W : XW) (ck : Nat → List D → RH → Res D) (xs : Exs) : TE := fun σV H Q => ∃ A ρ al σ R, Rel F A ρ al σ R σV H ∧ Post F A al W σ σV ρ H (evOr ck xs σ R) (RM F A al) Q
variable {es : List Expr} {xs : Exs}
theorem snd_and1 (ha : PE X a (tS F W ck xa)) : PE X (.BoolOp .And [a] pos) (tEA F W ck (.cons xa .nil)) := PE.by (pe_one ha) fun σV H Q ⟨A, ρ, al, σ, R, r, p⟩ => ⟨A, ρ, al, σ, R, r, p⟩
theorem snd_or1 (ha : PE X a (tS F W ck xa)) : PE X (.BoolOp .Or [a] pos) (tEO F W ck (.cons xa .nil)) := PE.by (pe_one ha) fun σV H Q ⟨A, ρ, al, σ, R, r, p⟩ => ⟨A, ρ, al, σ, R, r, p⟩
theorem snd_and1T (ha : PT X a (tQ (tS F W ck xa))) : PW X (.BoolOp .And [a] pos) (tQ (tEA F W ck (.cons xa .nil))) := PW.by (pw_and1 ha) fun σV H Q ⟨A, ρ, al, σ, R, r, p⟩ => ⟨A, ρ, al, σ, R, r, p⟩
theorem snd_or1T (ha : PT X a (tQ (tS F W ck xa))) : PW X (.BoolOp .Or [a] pos) (tQ (tEO F W ck (.cons xa .nil))) := PW.by (pw_or1 ha) fun σV H Q ⟨A, ρ, al, σ, R, r, p⟩ => ⟨A, ρ, al, σ, R, r, p⟩
def andK (ck : Nat → List D → RH → Res D) (xs : Exs) (σ : List Sl) : D → RH → Res D := fun x R => match x with
    | .bl true => evAnd ck xs σ R
    | .bl false => .ok (.bl false) R
    | _ => .bad
def orK (ck : Nat → List D → RH → Res D) (xs : Exs) (σ : List Sl) : D → RH → Res D := fun x R => match x with
    | .bl false => evOr ck xs σ R
    | .bl true => .ok (.bl true) R
    | _ => .bad
theorem andK_bad {σ : List Sl} : ∀ (d : D) (R : RH), (∀ b, d ≠ .bl b) → andK ck xs σ d R = .bad := fun d R h => by
  cases d <;> first | rfl | exact absurd rfl (h _)
theorem orK_bad {σ : List Sl} : ∀ (d : D) (R : RH), (∀ b, d ≠ .bl b) → orK ck xs σ d R = .bad := fun d R h => by
  cases d <;> first | rfl | exact absurd rfl (h _)
theorem and_valK {σV : L2.St} {H : Hp} {Q : VK} {ρ : List Addr} {al : List (Option Addr)} {σ : List Sl} {R : RH} (r : Rel F A ρ al σ R σV H) (p : Post F A al W σ σV ρ H ((ev ck xa σ R).bind (andK ck xs σ)) (RM F A al) Q) :
    tAndV (tB F W ck xa) (tEA F W ck xs) σV H Q := ⟨A, ρ, al, σ, R, r, p.bind fun d R1 v H1 ρ1 r1 e1 q1 p1 => by
  by_cases hb : ∃ b, d = .bl b
  · obtain ⟨b, rfl⟩ := hb
    refine ⟨b, q1.bl, ?_⟩
    cases b with
    | true => exact iteT ⟨A, ρ1, al, σ, R1, r1, p1⟩
    | false => exact iteF (Post.here (d := D.bl false) p1 r1 (RD.bl _))
  · rw [andK_bad d R1 fun b e => hb ⟨b, e⟩] at p1
    exact p1.elim⟩
theorem or_valK {σV : L2.St} {H : Hp} {Q : VK} {ρ : List Addr} {al : List (Option Addr)} {σ : List Sl} {R : RH} (r : Rel F A ρ al σ R σV H) (p : Post F A al W σ σV ρ H ((ev ck xa σ R).bind (orK ck xs σ)) (RM F A al) Q) :
    tOrV (tB F W ck xa) (tEO F W ck xs) σV H Q := ⟨A, ρ, al, σ, R, r, p.bind fun d R1 v H1 ρ1 r1 e1 q1 p1 => by
  by_cases hb : ∃ b, d = .bl b
  · obtain ⟨b, rfl⟩ := hb
    refine ⟨b, q1.bl, ?_⟩
    cases b with
    | true => exact iteT (Post.here (d := D.bl true) p1 r1 (RD.bl _))
    | false => exact iteF ⟨A, ρ1, al, σ, R1, r1, p1⟩
  · rw [orK_bad d R1 fun b e => hb ⟨b, e⟩] at p1
    exact p1.elim⟩
theorem and_testK {σV : L2.St} {H : Hp} {Q : Bool → Hp → Prop} {ρ : List Addr} {al : List (Option Addr)} {σ : List Sl} {R : RH} (r : Rel F A ρ al σ R σV H) (p : Post F A al W σ σV ρ H ((ev ck xa σ R).bind (andK ck xs σ)) (RM F A al) fun v H' => ∃ k, v = .bl k ∧ Q k H') :
    tAnd (tQ (tS F W ck xa)) (tQ (tEA F W ck xs)) σV H Q := ⟨A, ρ, al, σ, R, r, p.test r andK_bad fun b R1 H1 ρ1 r1 e1 p1 => by
  refine ⟨b, rfl, ?_⟩
  cases b with
  | true => exact iteT ⟨A, ρ1, al, σ, R1, r1, p1⟩
  | false =>
    obtain ⟨k, e, q⟩ := Post.here (d := D.bl false) (v := V.bl false) p1 r1 (RD.bl _)
    cases e
    exact iteF q⟩
theorem or_testK {σV : L2.St} {H : Hp} {Q : Bool → Hp → Prop} {ρ : List Addr} {al : List (Option Addr)} {σ : List Sl} {R : RH} (r : Rel F A ρ al σ R σV H) (p : Post F A al W σ σV ρ H ((ev ck xa σ R).bind (orK ck xs σ)) (RM F A al) fun v H' => ∃ k, v = .bl k ∧ Q k H') :
    tOr (tQ (tS F W ck xa)) (tQ (tEO F W ck xs)) σV H Q := ⟨A, ρ, al, σ, R, r, p.test r orK_bad fun b R1 H1 ρ1 r1 e1 p1 => by
  refine ⟨b, rfl, ?_⟩
  cases b with
  | true =>
    obtain ⟨k, e, q⟩ := Post.here (d := D.bl true) (v := V.bl true) p1 r1 (RD.bl _)
    cases e
    exact iteT q
  | false => exact iteF ⟨A, ρ1, al, σ, R1, r1, p1⟩⟩
theorem snd_andc (ha : PE X a (tB F W ck xa)) (hb : PE X (.BoolOp .And (b :: es) pos) (tEA F W ck (.cons xb xs))) : PE X (.BoolOp .And (a :: b :: es) pos) (tEA F W ck (.cons xa (.cons xb xs))) :=
  PE.by (pe_and ha hb) fun σV H Q ⟨A, ρ, al, σ, R, r, p⟩ => and_valK r p
theorem snd_orc (ha : PE X a (tB F W ck xa)) (hb : PE X (.BoolOp .Or (b :: es) pos) (tEO F W ck (.cons xb xs))) : PE X (.BoolOp .Or (a :: b :: es) pos) (tEO F W ck (.cons xa (.cons xb xs))) :=
  PE.by (pe_or ha hb) fun σV H Q ⟨A, ρ, al, σ, R, r, p⟩ => or_valK r p
theorem snd_and (ha : PE X a (tB F W ck xa)) (hb : PE X (.BoolOp .And (b :: es) pos) (tEA F W ck xs)) : PE X (.BoolOp .And (a :: b :: es) pos) (tS F W ck (.and xa xs)) :=
  PE.by (pe_and ha hb) fun σV H Q ⟨A, ρ, al, σ, R, r, p⟩ => and_valK r p
theorem snd_or (ha : PE X a (tB F W ck xa)) (hb : PE X (.BoolOp .Or (b :: es) pos) (tEO F W ck xs)) : PE X (.BoolOp .Or (a :: b :: es) pos) (tS F W ck (.or xa xs)) :=
  PE.by (pe_or ha hb) fun σV H Q ⟨A, ρ, al, σ, R, r, p⟩ => or_valK r p
theorem snd_andcT (ha : PT X a (tQ (tS F W ck xa))) (hb : PW X (.BoolOp .And (b :: es) pos) (tQ (tEA F W ck (.cons xb xs)))) : PW X (.BoolOp .And (a :: b :: es) pos) (tQ (tEA F W ck (.cons xa (.cons xb xs)))) :=
  PW.by (pw_and ha hb) fun σV H Q ⟨A, ρ, al, σ, R, r, p⟩ => and_testK r p
theorem snd_orcT (ha : PT X a (tQ (tS F W ck xa))) (hb : PW X (.BoolOp .Or (b :: es) pos) (tQ (tEO F W ck (.cons xb xs)))) : PW X (.BoolOp .Or (a :: b :: es) pos) (tQ (tEO F W ck (.cons xa (.cons xb xs)))) :=
  PW.by (pw_or ha hb) fun σV H Q ⟨A, ρ, al, σ, R, r, p⟩ => or_testK r p
theorem snd_andT (ha : PT X a (tQ (tS F W ck xa))) (hb : PW X (.BoolOp .And (b :: es) pos) (tQ (tEA F W ck xs))) : PT X (.BoolOp .And (a :: b :: es) pos) (tQ (tS F W ck (.and xa xs))) :=
  (PW.by (pw_and ha hb) fun σV H Q ⟨A, ρ, al, σ, R, r, p⟩ => and_testK r p).pt
theorem snd_orT (ha : PT X a (tQ (tS F W ck xa))) (hb : PW X (.BoolOp .Or (b :: es) pos) (tQ (tEO F W ck xs))) : PT X (.BoolOp .Or (a :: b :: es) pos) (tQ (tS F W ck (.or xa xs))) :=
  (PW.by (pw_or ha hb) fun σV H Q ⟨A, ρ, al, σ, R, r, p⟩ => or_testK r p).pt
/-! a if c else b -/
def iteK (ck : Nat → List D → RH → Res D) (xa xb : Ex) (σ : List Sl) : D → RH → Res D := fun x R => match x with
    | .bl true => stx xa σ (ev ck xa σ R)
    | .bl false => stx xb σ (ev ck xb σ R)
    | _ => .bad
theorem snd_ite (hc : PT X c (tQ (tS F W ck xc))) (ha : PE X a (tS F W ck xa)) (hb : PE X b (tS F W ck xb)) : PE X (.IfExp c a b pos) (tS F W ck (.ite xc xa xb)) :=
  PE.by (pe_ifExp hc ha hb) fun σV H Q ⟨A, ρ, al, σ, R, r, p⟩ => ⟨A, ρ, al, σ, R, r, Post.test (f := iteK ck xa xb σ) r p (fun d R h => by cases d <;> first | rfl | exact absurd rfl (h _)) fun b R1 H1 ρ1 r1 e1 p1 => ⟨b, rfl, by
    cases b with
    | true => exact iteT ⟨A, ρ1, al, σ, R1, r1, p1⟩
    | false => exact iteF ⟨A, ρ1, al, σ, R1, r1, p1⟩⟩⟩
end
end Cw

end
section
/-! CwH: calls of defs and built-ins, places, slices. -/
namespace Cw
open PySem L2 PyProof.Rows

/-! ### a def's promise -/
def Refs (F : Fx) (ρ : List Addr) (R : RH) (Hm H : Hp) : Prop := ρ.length = R.length ∧ (∀ (i : Nat) (a : Addr) (ds : List D), ρ[i]? = some a → R[i]? = some ds → ∃ vs, H a = some (.lst vs) ∧ RDs F ρ Hm vs ds) ∧ LamX.Tabs F.T H
def spI (F : Fx) (cal : List D → RH → Res D) (np : Nat) : Sp := fun vs H Q E => ∃ O0 ρ R ds, ρ.Nodup ∧ (∀ a ∈ O0, a ∉ ρ ∧ H a ≠ none) ∧ Refs F ρ R (mask H (O0 ++ ρ)) H ∧ RDs F ρ (mask H (O0 ++ ρ)) vs ds ∧ vs.length = np ∧
  match cal ds R with
  | .ok d R' => ∀ v H' ρ', Ext ρ H ρ' H' → ρ'.Nodup → Refs F ρ' R' (mask H' (O0 ++ ρ')) H' → RD F ρ' (mask H' (O0 ++ ρ')) v d → Q v H'
  | .exc c R' => ∀ H' ρ' C, Ext ρ H ρ' H' → ρ'.Nodup → Refs F ρ' R' (mask H' (O0 ++ ρ')) H' → F.ca c = some C → E (.ref C) none H'
  | .bad => False
section
variable {F : Fx} {A : Act} {al : List (Option Addr)} {W : XW} {σ : List Sl} {σV : L2.St} {ρ : List Addr} {H : Hp} {R : RH}
theorem mask_oo (A : Act) (al : List (Option Addr)) (H : Hp) (ρ : List Addr) : mask H ((A.O0 ++ owns al) ++ ρ) = mask H (OO A ρ al) := mask_congr fun a => by
  unfold OO
  simp only [List.mem_append]
  constructor
  · rintro ((h | h) | h)
    · exact .inl (.inl h)
    · exact .inr h
    · exact .inl (.inr h)
  · rintro ((h | h) | h)
    · exact .inl (.inl h)
    · exact .inr h
    · exact .inl (.inr h)
/-- from a caller's state to the callee's promise, and back -/
theorem call_fin (r : Rel F A ρ al σ R σV H) {cal : List D → RH → Res D} {np : Nat} {vs : List V} {ds : List D} {Q : VK} (q : RMs F A al ρ H vs ds) (hn : ds.length = np) (p : Post F A al W σ σV ρ H (cal ds R) (RM F A al) Q) :
    spI F cal np vs H Q (WE (XW.wx F W) σV) := by
  refine ⟨A.O0 ++ owns al, ρ, R, ds, (List.nodup_append.mp r.nd).1, fun a h => ?_, ⟨r.rl, ?_, r.tb⟩, ?_, by rw [q.length]; exact hn, ?_⟩
  · rcases List.mem_append.mp h with h | h
    · exact ⟨(r.o0 a h).2.1, r.ltB h⟩
    · exact ⟨fun m => (List.nodup_append.mp r.nd).2.2 a m a h rfl, r.ltO h⟩
  · rw [mask_oo]; exact r.rf
  · rw [mask_oo]; exact q
  · have back : ∀ {H' : Hp} {ρ' : List Addr} {R' : RH}, Ext ρ H ρ' H' → ρ'.Nodup → Refs F ρ' R' (mask H' ((A.O0 ++ owns al) ++ ρ')) H' → Rel F A ρ' al σ R' σV H' := fun {H' ρ' R'} e nd rf => by
      rw [mask_oo] at rf
      exact r.step e nd rf.1 rf.2.1 rf.2.2
    cases z : cal ds R with
    | ok d R' =>
      rw [z] at p
      intro v H' ρ' e nd rf rd
      rw [mask_oo] at rd
      exact p v H' ρ' (back e nd rf) e rd
    | exc c R' =>
      rw [z] at p
      intro H' ρ' C e nd rf hc
      exact ⟨c, C, rfl, hc, rfl, p H' ρ' (back e nd rf) e⟩
    | bad => rw [z] at p; exact p
end
/-! ### a call that borrows own lists -/
mutual
theorem RD.rho0 {F : Fx} {ρ : List Addr} {H : Hp} : ∀ {v : V} {d : D}, RD F ρ H v d → noR d = true → RD F [] H v d
  | _, _, .non, _ => .non
  | _, _, .bl b, _ => .bl b
  | _, _, .int i, _ => .int i
  | _, _, .str x, _ => .str x
  | _, _, .tup h t, n => .tup h (RDs.rho0 t (by simpa [noR] using n))
  | _, _, .lst h t, n => .lst h (RDs.rho0 t (by simpa [noR] using n))
  | _, _, .frz h t, n => .frz h (RDs.rho0 t (by simpa [noR] using n))
  | _, _, .dK _ _, n => by simp [noR] at n
  | _, _, .dT _ _, n => by simp [noR] at n
  | _, _, .ref _, n => by simp [noR] at n
  | _, _, .fn h, _ => .fn h
theorem RDs.rho0 {F : Fx} {ρ : List Addr} {H : Hp} : ∀ {v : List V} {d : List D}, RDs F ρ H v d → noRs d = true → RDs F [] H v d
  | _, _, .nil, _ => .nil
  | _, _, .cons h t, n => by
    simp only [noRs, Bool.and_eq_true] at n
    exact .cons (RD.rho0 h n.1) (RDs.rho0 t n.2)
end
/-- what is no list, no dict -/
def Flat (o : HO) : Prop := (∀ l, o ≠ .lst l) ∧ (∀ l, o ≠ .dK l) ∧ ∀ l, o ≠ .dT l
mutual
theorem RD.flat {F : Fx} {ρ : List Addr} {H H' : Hp} (k : ∀ a o, H a = some o → Flat o → H' a = some o) : ∀ {v : V} {d : D}, RD F [] H v d → noL d = true → RD F ρ H' v d
  | _, _, .non, _ => .non
  | _, _, .bl b, _ => .bl b
  | _, _, .int i, _ => .int i
  | _, _, .str x, _ => .str x
  | _, _, .tup h t, n => by
    refine .tup ?_ (RDs.flat k t (by simpa [noL] using n))
    rcases h with (h | ⟨o, h⟩) | h
    · exact .inl (.inl (k _ _ h ⟨fun _ z => (by cases z), fun _ z => (by cases z), fun _ z => (by cases z)⟩))
    · exact .inl (.inr ⟨o, k _ _ h ⟨fun _ z => (by cases z), fun _ z => (by cases z), fun _ z => (by cases z)⟩⟩)
    · exact .inr h
  | _, _, .lst _ _, n => by simp [noL] at n
  | _, _, .frz _ _, n => by simp [noL] at n
  | _, _, .dK _ _, n => by simp [noL] at n
  | _, _, .dT _ _, n => by simp [noL] at n
  | _, _, .ref _, n => by simp [noL] at n
  | _, _, .fn h, _ => .fn h
theorem RDs.flat {F : Fx} {ρ : List Addr} {H H' : Hp} (k : ∀ a o, H a = some o → Flat o → H' a = some o) : ∀ {v : List V} {d : List D}, RDs F [] H v d → noLs d = true → RDs F ρ H' v d
  | _, _, .nil, _ => .nil
  | _, _, .cons h t, n => by
    simp only [noLs, Bool.and_eq_true] at n
    exact .cons (RD.flat k h n.1) (RDs.flat k t n.2)
end
/-- lent: an own list among the arguments -/
def Lent (H : Hp) (vs : List V) (a : Addr) : Prop := V.ref a ∈ vs ∧ ∃ o, H a = some o ∧ ¬ Flat o
theorem callb_fin {F : Fx} {A : Act} {al : List (Option Addr)} {W : XW} {σ : List Sl} {σV : L2.St} {ρ : List Addr} {H : Hp} {R : RH} (r : Rel F A ρ al σ R σV H) {cal : List D → RH → Res D} {np : Nat} {vs : List V} {ds : List D} {Q : VK} (q : RTs F A al ρ H vs ds) (hn : ds.length = np) (nr : noRs ds = true) (p : Post F A al W σ σV ρ H (unb R (cal ds [])) (RM F A al) Q) :
    spI F cal np vs H Q (WE (XW.wx F W) σV) := by
  classical
  let O0 : List Addr := (OO A ρ al).filter fun a => decide (¬ Lent H vs a)
  have hO : ∀ a, a ∈ O0 ++ [] ↔ a ∈ OO A ρ al ∧ ¬ Lent H vs a := fun a => by
    rw [List.append_nil]
    show a ∈ List.filter _ _ ↔ _
    rw [List.mem_filter, decide_eq_true_eq]
  have km : ∀ a o, mask H (OO A ρ al) a = some o → mask H (O0 ++ []) a = some o := fun a o h => by
    obtain ⟨h1, h2⟩ := mask_some h
    exact mask_mk (fun z => h2 ((hO a).mp z).1) h1 (mask_nt h)
  have len : ∀ {us : List V} {es : List D}, All2 (RT F A al ρ H) us es → us.length = es.length := by
    intro us es h
    induction h with
    | nil => rfl
    | cons _ _ ih => exact congrArg (· + 1) ih
  have args : ∀ {us : List V} {es : List D}, All2 (RT F A al ρ H) us es → (∀ v ∈ us, v ∈ vs) → noRs es = true → RDs F [] (mask H (O0 ++ [])) us es := by
    intro us es h
    induction h with
    | nil => exact fun _ _ => .nil
    | @cons v d us es a _ ih =>
      intro hm hr
      simp only [noRs, Bool.and_eq_true] at hr
      refine .cons ?_ (ih (fun v hv => hm v (List.mem_cons_of_mem _ hv)) hr.2)
      rcases a with a | ⟨c, rfl, _, a⟩
      · exact RD.rho0 (RD.mono (ρ' := ρ) ⟨[], by simp⟩ km a) hr.1
      · cases d <;> first | exact False.elim a | (have := hr.1; simp [noR] at this; done) | skip
        obtain ⟨ws, h1, h2⟩ := a
        refine .lst (mask_mk (fun z => ((hO c).mp z).2 ⟨hm _ List.mem_cons_self, _, h1, fun f => f.1 _ rfl⟩) h1 (fun _ z => by cases z)) (RDs.rho0 (RDs.mono (ρ' := ρ) ⟨[], by simp⟩ km h2) ?_)
        simpa [noR] using hr.1
  refine ⟨O0, [], [], ds, List.nodup_nil, fun a h => ⟨by simp, ?_⟩, ⟨rfl, (fun i a ds h => by simp at h), r.tb⟩, args q (fun _ h => h) nr, by rw [len q]; exact hn, ?_⟩
  · have h := ((hO a).mp (by rw [List.append_nil]; exact h)).1
    rcases mem_OO.mp h with h | h | h
    · exact r.ltB h
    · obtain ⟨vs, e⟩ := r.ltR h
      rw [e]
      simp
    · exact r.ltO h
  · have ex : ∀ {H' : Hp}, Ext [] H [] H' → Ext ρ H ρ H' := fun {H'} e => ⟨⟨[], by simp⟩, fun a h n => absurd h n, fun a o h _ t => e.keep a o h (by simp) t, e.there⟩
    have back : ∀ {H' : Hp}, Ext [] H [] H' → LamX.Tabs F.T H' → Rel F A ρ al σ R σV H' := fun {H'} e tb => by
      refine r.step (ex e) (List.nodup_append.mp r.nd).1 r.rl (fun i a ds h1 h2 => ?_) tb
      obtain ⟨ws, g1, g2⟩ := r.rf i a ds h1 h2
      exact ⟨ws, e.keep _ _ g1 (by simp) (fun _ z => by cases z), g2.mono ⟨[], by simp⟩ (ex e).mask⟩
    cases z : cal ds [] with
    | bad => rw [z] at p; exact p
    | exc c R' =>
      rw [z] at p
      cases R' with
      | cons _ _ => exact p.elim
      | nil =>
        intro H' ρ' C e nd rf hc
        have h0 : ρ' = [] := List.length_eq_zero_iff.mp rf.1
        subst h0
        exact ⟨c, C, rfl, hc, rfl, p H' ρ (back e rf.2.2) (ex e)⟩
    | ok d R' =>
      rw [z] at p
      cases R' with
      | cons _ _ => exact p.elim
      | nil =>
        by_cases hd : noL d = true
        · have p : Post F A al W σ σV ρ H (if noL d = true then .ok d R else .bad) (RM F A al) Q := p
          rw [if_pos hd] at p
          intro v H' ρ' e nd rf rd
          have h0 : ρ' = [] := List.length_eq_zero_iff.mp rf.1
          subst h0
          refine p v H' ρ (back e rf.2.2) (ex e) (RD.flat (fun a o h f => ?_) rd hd)
          obtain ⟨h1, h2⟩ := mask_some h
          refine mask_mk (fun z => ?_) h1 (mask_nt h)
          by_cases hl : Lent H vs a
          · obtain ⟨_, u, g1, g2⟩ := hl
            by_cases hN : Nt u
            · have := e.keep a u g1 (by simp) hN
              rw [h1] at this
              cases this
              exact g2 f
            · refine g2 ⟨fun l z => hN (z ▸ fun _ z => by cases z), fun l z => hN (z ▸ fun _ z => by cases z), fun l z => hN (z ▸ fun _ z => by cases z)⟩
          · exact h2 ((hO a).mpr ⟨z, hl⟩)
        · have p : Post F A al W σ σV ρ H (if noL d = true then .ok d R else .bad) (RM F A al) Q := p
          rw [if_neg hd] at p
          exact p.elim
def noStar (es : List Expr) : Bool := es.all fun e => !isStar e
theorem plain_of {env : Env} {pos : Pos} : ∀ {es : List Expr}, noStar es = true → (backTo pos (starEach es env)).any (·.1) = false
  | [], _ => rfl
  | e :: es, h => by
    simp only [noStar, List.all_cons, Bool.and_eq_true, Bool.not_eq_true'] at h
    rw [star_cons h.1]
    show (backTo pos ((false, eval e env) :: starEach es env)).any (·.1) = false
    simp only [backTo, List.map_cons, List.any_cons, Bool.false_or]
    exact plain_of (env := env) (pos := pos) (es := es) (by simpa [noStar] using h.2)
theorem star_of {env : Env} {e : Expr} {es : List Expr} (h : noStar (e :: es) = true) : starEach (e :: es) env = (false, eval e env) :: starEach es env := by
  simp only [noStar, List.all_cons, Bool.and_eq_true, Bool.not_eq_true'] at h
  exact star_cons h.1
theorem noStar_tail {e : Expr} {es : List Expr} (h : noStar (e :: es) = true) : noStar es = true := by
  simp only [noStar, List.all_cons, Bool.and_eq_true] at h
  exact h.2
section
variable {F : Fx} {A : Act} {W : XW} {ck : Nat → List D → RH → Res D} {X : Cx} {e : Expr} {es : List Expr} {xs : Exs} {x : Str} {p pos : Pos} {k f : Nat} {fa : Addr} {fd : FuncData} {ps : List Str}
/-- what a call of the def number f at level k may lean on -/
structure FnAt (F : Fx) (ck : Nat → List D → RH → Res D) (X : Cx) (k : Nat) (x : Str) (f np : Nat) : Prop where
  at_ : ∃ (fa : Addr) (fd : FuncData) (ps : List Str), X.mg x = some (.ref fa) ∧ FnOk X.prog X.w X.K X.mg X.base (L2.CX X.prog X.w) k fa fd ps (spI F (ck f) np) ∧ PySem.W.keepIn X.K (.ref fa) = true ∧ Binds X.K fd ps []
theorem snd_call (G : FnAt F ck X k x f (lenX xs)) (hr : Room k X.A) (hg : Gl X x) (tk : Takes X (XW.wx F W)) (hd : (x == ("__debug__" : Str)) = false) (hs : noStar (e :: es) = true) (ha : PA X (e :: es) (tAs F W ck xs)) :
    PE X (.Call (.Name x p) (e :: es) [] pos) (tS F W ck (.call f xs)) := by
  obtain ⟨fa, fd, ps, hm, hf, hk, hb⟩ := G.at_
  refine PE.by (pe_callS hf hr hg hm hk hb (fun σ => passAt tk σ) ha hd (star_of hs) (plain_of (noStar_tail hs))) fun σV H Q ⟨A, ρ, al, σ, R, r, p⟩ => ⟨A, ρ, al, σ, R, r, ?_⟩
  have p : Post F A al W σ σV ρ H ((evs ck xs σ R).bind fun ds R => ck f ds R) (RM F A al) Q := p
  cases q : evs ck xs σ R with
  | ok ds R1 =>
    rw [q] at p
    exact fun vs H1 ρ1 r1 e1 q1 => call_fin r1 q1 (evs_len q) (Post.ext p e1)
  | exc c R1 => rw [q] at p; exact p
  | bad => rw [q] at p; exact p
theorem evb_len {ck : Nat → List D → RH → Res D} : ∀ {xs : Exs} {σ : List Sl} {R R' : RH} {ds : List D}, evb ck xs σ R = .ok ds R' → ds.length = lenX xs
  | .nil, σ, R, R', ds, h => by
    simp only [evb] at h
    cases h
    rfl
  | .cons x xs, σ, R, R', ds, h => by
    simp only [evb] at h
    cases q : ev ck x σ R with
    | ok d R1 =>
      rw [q] at h
      simp only [Res.bind] at h
      cases q2 : evb ck xs σ R1 with
      | ok l R2 =>
        rw [q2] at h
        cases h
        exact congrArg (· + 1) (evb_len q2)
      | exc c R2 => rw [q2] at h; cases h
      | bad => rw [q2] at h; cases h
    | exc c R2 => rw [q] at h; cases h
    | bad => rw [q] at h; cases h
theorem snd_callb (G : FnAt F ck X k x f (lenX xs)) (hr : Room k X.A) (hg : Gl X x) (tk : Takes X (XW.wx F W)) (hd : (x == ("__debug__" : Str)) = false) (hs : noStar (e :: es) = true) (ha : PA X (e :: es) (tAb F W ck xs)) :
    PE X (.Call (.Name x p) (e :: es) [] pos) (tS F W ck (.callb f xs)) := by
  obtain ⟨fa, fd, ps, hm, hf, hk, hb⟩ := G.at_
  refine PE.by (pe_callS hf hr hg hm hk hb (fun σ => passAt tk σ) ha hd (star_of hs) (plain_of (noStar_tail hs))) fun σV H Q ⟨A, ρ, al, σ, R, r, p⟩ => ⟨A, ρ, al, σ, R, r, ?_⟩
  have p : Post F A al W σ σV ρ H ((evb ck xs σ R).bind fun ds R1 => if noRs ds = true then unb R1 (ck f ds []) else .bad) (RM F A al) Q := p
  cases q : evb ck xs σ R with
  | ok ds R1 =>
    rw [q] at p
    intro vs H1 ρ1 r1 e1 q1
    by_cases nr : noRs ds = true
    · have p : Post F A al W σ σV ρ H (if noRs ds = true then unb R1 (ck f ds []) else .bad) (RM F A al) Q := p
      rw [if_pos nr] at p
      exact callb_fin r1 q1 (evb_len q) nr (Post.ext p e1)
    · have p : Post F A al W σ σV ρ H (if noRs ds = true then unb R1 (ck f ds []) else .bad) (RM F A al) Q := p
      rw [if_neg nr] at p
      exact p.elim
  | exc c R1 => rw [q] at p; exact p
  | bad => rw [q] at p; exact p
/-- f() -/
theorem snd_call0 (G : FnAt F ck X k x f 0) (hr : Room k X.A) (hg : Gl X x) (tk : Takes X (XW.wx F W)) (hd : (x == ("__debug__" : Str)) = false) :
    PE X (.Call (.Name x p) [] [] pos) (tS F W ck (.call f .nil)) := by
  obtain ⟨fa, fd, ps, hm, hf, hk, hb⟩ := G.at_
  refine ⟨fun pins s σV H Q I ⟨A, ρ, al, σ, R, r, p⟩ => ?_⟩
  refine wpAny_Call_Name_kw (ld_glob I hg hm ?_ hd)
  have p : Post F A al W σ σV ρ H (ck f [] R) (RM F A al) Q := p
  exact PySem.W.callWith_K0 I.kIn hk (run_fnS (E := WE (XW.wx F W)) (us := []) hf hr hb (passAt tk σV) I .nil (call_fin r (vs := []) (ds := []) RDs.nil rfl p))
end

/-! ### built-ins -/
theorem insI_perm (x : Int) : ∀ l, (insI x l).Perm (x :: l)
  | [] => List.Perm.refl _
  | y :: l => by
    unfold insI
    split
    · exact List.Perm.refl _
    · exact ((insI_perm x l).cons y).trans (List.Perm.swap x y l)
theorem insI_sorted (x : Int) : ∀ l : List Int, l.Pairwise (· ≤ ·) → (insI x l).Pairwise (· ≤ ·)
  | [], _ => List.pairwise_singleton _ _
  | y :: l, h => by
    obtain ⟨h1, h2⟩ := List.pairwise_cons.mp h
    unfold insI
    split
    · rename_i q
      refine List.pairwise_cons.mpr ⟨fun z hz => ?_, h⟩
      rcases List.mem_cons.mp hz with rfl | hz
      · omega
      · have := h1 z hz; omega
    · rename_i q
      refine List.pairwise_cons.mpr ⟨fun z hz => ?_, insI_sorted x l h2⟩
      rcases List.mem_cons.mp ((insI_perm x l).mem_iff.mp hz) with rfl | hz
      · omega
      · exact h1 z hz
theorem foldI (l : List Int) : ∀ acc : List Int, (l.foldl (fun acc x => insI x acc) acc).Perm (l ++ acc) ∧ (acc.Pairwise (· ≤ ·) → (l.foldl (fun acc x => insI x acc) acc).Pairwise (· ≤ ·)) := by
  induction l with
  | nil => exact fun acc => ⟨List.Perm.refl _, id⟩
  | cons x l ih =>
    intro acc
    obtain ⟨h1, h2⟩ := ih (insI x acc)
    refine ⟨h1.trans ?_, fun h => h2 (insI_sorted x acc h)⟩
    exact ((insI_perm x acc).append_left l).trans List.perm_middle
theorem sortI_perm (l : List Int) : (sortI l).Perm l := by have := (foldI l []).1; rwa [List.append_nil] at this
theorem sortI_sorted (l : List Int) : (sortI l).Pairwise (· ≤ ·) := (foldI l []).2 List.Pairwise.nil
theorem sorted_one {l m : List Int} (p : l.Perm m) (h : l.Pairwise (· ≤ ·)) : l = sortI m :=
  List.Perm.eq_of_pairwise (fun a b _ _ h1 h2 => Int.le_antisymm h1 h2) h (sortI_sorted m) (p.trans (sortI_perm m).symm)
theorem maxI_spec : ∀ (l : List Int) (m : Int), maxI m l ∈ m :: l ∧ ∀ y ∈ m :: l, y ≤ maxI m l
  | [], m => ⟨List.mem_singleton.mpr rfl, fun y h => by rw [List.mem_singleton.mp h]; exact Int.le_refl _⟩
  | x :: l, m => by
    obtain ⟨h1, h2⟩ := maxI_spec l (if m < x then x else m)
    unfold maxI
    refine ⟨?_, fun y h => ?_⟩
    · rcases List.mem_cons.mp h1 with e | h
      · rw [e]
        split
        · exact List.mem_cons_of_mem _ List.mem_cons_self
        · exact List.mem_cons_self
      · exact List.mem_cons_of_mem _ (List.mem_cons_of_mem _ h)
    · have h3 := h2 _ List.mem_cons_self
      have h4 := fun y (h : y ∈ l) => h2 y (List.mem_cons_of_mem _ h)
      generalize maxI (if m < x then x else m) l = M at h3 h4 ⊢
      rcases List.mem_cons.mp h with e | h
      · subst e; split at h3 <;> omega
      · rcases List.mem_cons.mp h with e | h
        · subst e; split at h3 <;> omega
        · exact h4 y h
theorem minI_spec : ∀ (l : List Int) (m : Int), minI m l ∈ m :: l ∧ ∀ y ∈ m :: l, minI m l ≤ y
  | [], m => ⟨List.mem_singleton.mpr rfl, fun y h => by rw [List.mem_singleton.mp h]; exact Int.le_refl _⟩
  | x :: l, m => by
    obtain ⟨h1, h2⟩ := minI_spec l (if x < m then x else m)
    unfold minI
    refine ⟨?_, fun y h => ?_⟩
    · rcases List.mem_cons.mp h1 with e | h
      · rw [e]
        split
        · exact List.mem_cons_of_mem _ List.mem_cons_self
        · exact List.mem_cons_self
      · exact List.mem_cons_of_mem _ (List.mem_cons_of_mem _ h)
    · have h3 := h2 _ List.mem_cons_self
      have h4 := fun y (h : y ∈ l) => h2 y (List.mem_cons_of_mem _ h)
      generalize minI (if x < m then x else m) l = M at h3 h4 ⊢
      rcases List.mem_cons.mp h with e | h
      · subst e; split at h3 <;> omega
      · rcases List.mem_cons.mp h with e | h
        · subst e; split at h3 <;> omega
        · exact h4 y h
theorem rngI_get : ∀ (n : Nat) (lo : Int) (i : Nat), i < n → (rngI lo n)[i]? = some (.int (lo + i))
  | n + 1, lo, 0, _ => by simp [rngI]
  | n + 1, lo, i + 1, h => by
    simp only [rngI, List.getElem?_cons_succ]
    rw [rngI_get n (lo + 1) i (by omega)]
    have : lo + 1 + (i : Int) = lo + ((i + 1 : Nat) : Int) := by omega
    rw [this]
theorem rngI_length : ∀ (n : Nat) (lo : Int), (rngI lo n).length = n
  | 0, _ => rfl
  | n + 1, lo => congrArg (· + 1) (rngI_length n (lo + 1))
theorem rngI_eq (n : Nat) (lo : Int) : rngI lo n = (List.range n).map fun i => D.int (lo + (i : Nat)) := by
  refine List.ext_getElem? fun i => ?_
  by_cases h : i < n
  · rw [rngI_get n lo i h, List.getElem?_map, List.getElem?_range h]
    rfl
  · rw [List.getElem?_eq_none (by rw [rngI_length]; omega), List.getElem?_eq_none (by rw [List.length_map, List.length_range]; omega)]
theorem rgV_rd {F : Fx} {ρ : List Addr} {H : Hp} (a b : Int) : RDs F ρ H (rgV a b) (rngI a (b - a).toNat) := by
  rw [rngI_eq]
  unfold rgV
  generalize List.range (b - a).toNat = l
  induction l with
  | nil => exact .nil
  | cons i l ih => exact .cons (.int _) ih

/-- by their values -/
def rBlt (F : Fx) (K : PySem.W.Frag) : Blt → List V → Hp → VK → Prop
  | .len => fun xs H Q => (∃ x n, xs = [x] ∧ LenV K x H n ∧ Q (.int n) H) ∨ ∃ d kvs, xs = [V.ref d] ∧ H d = some (.dK kvs) ∧ Q (.int kvs.length) H
  | .abs => fun xs H Q => ∃ i, xs = [.int i] ∧ Q (.int (if i < 0 then -i else i)) H
  | .int => fun xs H Q => (∃ i, xs = [.int i] ∧ Q (.int i) H) ∨ ∃ k, xs = [.bl k] ∧ Q (.int (if k then 1 else 0)) H
  | .min => fun xs H Q => (∃ i j, xs = [.int i, .int j] ∧ Q (.int (if j < i then j else i)) H) ∨ rMin K xs H Q ∨ rMinT K xs H Q ∨ rMnD true F K xs H Q
  | .max => fun xs H Q => (∃ i j, xs = [.int i, .int j] ∧ Q (.int (if j > i then j else i)) H) ∨ rMax K xs H Q ∨ rMaxT K xs H Q ∨ rMnD false F K xs H Q
  | .sum => fun xs H Q => rSum K xs H Q ∨ rSumT K xs H Q
  | .all => rAll K
  | .any => rAny K
  | .sorted => fun xs H Q => rSortedI K xs H Q ∨ rSortedT K xs H Q ∨ rSortD F K xs H Q
  | .list => fun xs H Q => ∃ p ys, xs = [.ref p] ∧ (SqL K H p ys ∨ SqT K H p ys) ∧ ∀ l, H l = none → Q (.ref l) (upd H l (.lst ys))
  | .tuple => fun xs H Q => ∃ p ys, xs = [.ref p] ∧ ((SqL K H p ys ∧ ∀ l, H l = none → Q (.ref l) (upd H l (.tup ys))) ∨ (SqT K H p ys ∧ Q (.ref p) H))
  | .lrange => fun _ _ _ => False
  | .repr => rRepr
  | .str => fun xs H Q => ∃ i, xs = [.int i] ∧ i.natAbs.log2 < 1920 ∧ Q (.str (toString i)) H
def bltV : Blt → Value
  | .len => .builtin "len"
  | .abs => .builtin "abs"
  | .int => .type "int"
  | .min => .builtin "min"
  | .max => .builtin "max"
  | .sum => .builtin "sum"
  | .all => .builtin "all"
  | .any => .builtin "any"
  | .sorted => .builtin "sorted"
  | .list => .type "list"
  | .tuple => .type "tuple"
  | .lrange => .none
  | .repr => .builtin "repr"
  | .str => .type "str"
def bltN : Blt → Str
  | .len => "len"
  | .abs => "abs"
  | .int => "int"
  | .min => "min"
  | .max => "max"
  | .sum => "sum"
  | .all => "all"
  | .any => "any"
  | .sorted => "sorted"
  | .list => "list"
  | .tuple => "tuple"
  | .lrange => "list"
  | .repr => "repr"
  | .str => "str"
theorem cr_blt {F : Fx} {X : Cx} (hK : F.K = X.K) (hc : X.calm = true) (hu : X.A.units + 70 < cLine) : ∀ f : Blt, f ≠ .lrange → CallR X (bltV f) (rBlt F X.K f)
  | .len, _ => call_len.or call_lenD
  | .abs, _ => call_abs
  | .int, _ => call_int1
  | .min, _ => (call_min2 hc).or ((cr_min hc).or ((cr_minT hc hu).or (cr_mnD true hK hc hu)))
  | .max, _ => (call_max2 hc).or ((cr_max hc).or ((cr_maxT hc hu).or (cr_mnD false hK hc hu)))
  | .sum, _ => (cr_sum hc).or (cr_sumT hc)
  | .all, _ => cr_all hc
  | .any, _ => cr_any hc
  | .sorted, _ => cr_sortedI.or (cr_sortedT.or (cr_sortD hK hu))
  | .list, _ => call_list_of
  | .tuple, _ => call_tuple_of
  | .lrange, h => absurd rfl h
  | .repr, _ => cr_repr
  | .str, _ => call_str_int
end Cw

end
section
/-! CwI: built-ins by own values, isinstance, places, slices. -/
namespace Cw
open PySem L2 PyProof.Rows
section
variable {F : Fx} {A : Act} {al : List (Option Addr)} {W : XW} {σ : List Sl} {σV : L2.St} {ρ : List Addr} {H : Hp} {R : RH} {K : PySem.W.Frag}
theorem RTs.one {vs : List V} {d : D} (h : RTs F A al ρ H vs [d]) : ∃ v, vs = [v] ∧ RT F A al ρ H v d := by
  cases h with
  | cons h t => cases t; exact ⟨_, rfl, h⟩
theorem RTs.two {vs : List V} {d e : D} (h : RTs F A al ρ H vs [d, e]) : ∃ v u, vs = [v, u] ∧ RT F A al ρ H v d ∧ RT F A al ρ H u e := by
  cases h with
  | cons h t => cases t with
    | cons h2 t => cases t; exact ⟨_, _, rfl, h, h2⟩
theorem RDp.length {F : Fx} {ρ : List Addr} {H : Hp} : ∀ {a : List (Key × V)} {b : List (Key × D)}, RDp F ρ H a b → a.length = b.length
  | _, _, .nil => rfl
  | _, _, .cons _ t => congrArg (· + 1) (RDp.length t)
theorem RDt.length {F : Fx} {ρ : List Addr} {H : Hp} : ∀ {a : List (List Key × V)} {b : List (List Key × D)}, RDt F ρ H a b → a.length = b.length
  | _, _, .nil => rfl
  | _, _, .cons _ t => congrArg (· + 1) (RDt.length t)
def lenA (f : Blt) (R : RH) (ds : List D) : List D := match f with
  | .len => ds.map (lenR R)
  | _ => ds
theorem len_fin (hK : F.K = K) (r : Rel F A ρ al σ R σV H) {x d : D} {v : V} {Q : VK} (q : RT F A al ρ H v x) (e : bltD .len [lenR R x] = some d) (p : Post F A al W σ σV ρ H (.ok d R) (RM F A al) Q) : rBlt F K .len [v] H Q := by
  subst hK
  cases x with
  | lst xs =>
    cases e
    obtain ⟨a, vs, rfl, h, t⟩ := q.lst
    exact .inl ⟨_, xs.length, rfl, .inl ⟨vs, .of h, t.length.symm⟩, p.here r (RD.int _)⟩
  | frz xs =>
    cases e
    obtain ⟨a, vs, rfl, h, t⟩ := q.frz
    exact .inl ⟨_, xs.length, rfl, .inl ⟨vs, h, t.length.symm⟩, p.here r (RD.int _)⟩
  | tup xs =>
    cases e
    obtain ⟨a, vs, rfl, h, t⟩ := q.tup
    exact .inl ⟨_, xs.length, rfl, .inr ⟨vs, h, t.length.symm⟩, p.here r (RD.int _)⟩
  | str z =>
    simp only [lenR, bltD] at e
    split at e
    · rename_i hz
      cases e
      have := q.str
      subst this
      exact .inl ⟨_, z.length, rfl, ⟨hz, rfl⟩, p.here r (RD.int _)⟩
    · cases e
  | dK kvs =>
    cases e
    obtain ⟨a, vs, rfl, h, t⟩ := q.dK
    exact .inr ⟨a, vs, rfl, h, by rw [t.length]; exact p.here r (RD.int _)⟩
  | ref i =>
    obtain ⟨a, rfl, h⟩ := q.ref
    simp only [lenR] at e
    cases z : R[i]? with
    | none => rw [z] at e; simp [bltD] at e
    | some xs =>
      rw [z] at e
      cases e
      obtain ⟨vs, h1, t⟩ := r.rf i a xs h z
      exact .inl ⟨_, xs.length, rfl, .inl ⟨vs, .of h1, t.length.symm⟩, p.here r (RD.int _)⟩
  | non => simp [lenR, bltD] at e
  | bl b => simp [lenR, bltD] at e
  | int b => simp [lenR, bltD] at e
  | dT b => simp [lenR, bltD] at e
  | fn b => simp [lenR, bltD] at e
theorem ofIn (ns : List Int) {ρ : List Addr} {Hm : Hp} : RDs F ρ Hm (ns.map V.int) (ns.map D.int) := RDs.ofInts ns
theorem blt_fin (hK : F.K = K) (r : Rel F A ρ al σ R σV H) {f : Blt} (hf : f ≠ .lrange) {ds : List D} {d : D} {vs : List V} {Q : VK} (q : RTs F A al ρ H vs ds) (e : bltD f (lenA f R ds) = some d) (p : Post F A al W σ σV ρ H (.ok d R) (RM F A al) Q) : rBlt F K f vs H Q := by
  by_cases hlen : f = .len
  · subst hlen
    cases q with
    | nil => simp [lenA, bltD] at e
    | cons q t =>
      cases t with
      | nil => exact len_fin hK r q e p
      | cons q2 t => simp [lenA, bltD] at e
  replace e : bltD f ds = some d := by
    cases f <;> first | exact e | exact absurd rfl hlen
  subst hK
  unfold bltD at e
  split at e
  any_goals (exact absurd rfl hlen)
  any_goals (exact absurd rfl hf)
  · cases e
    obtain ⟨v, rfl, q1⟩ := q.one
    exact ⟨_, by rw [q1.int], p.here r (RD.int _)⟩
  · cases e
    obtain ⟨v, rfl, q1⟩ := q.one
    exact .inl ⟨_, by rw [q1.int], p.here r (RD.int _)⟩
  · cases e
    obtain ⟨v, rfl, q1⟩ := q.one
    exact .inr ⟨_, by rw [q1.bl], p.here r (RD.int _)⟩
  · cases e
    obtain ⟨v, u, rfl, q1, q2⟩ := q.two
    exact .inl ⟨_, _, by rw [q1.int, q2.int], p.here r (RD.int _)⟩
  · cases e
    obtain ⟨v, u, rfl, q1, q2⟩ := q.two
    exact .inl ⟨_, _, by rw [q1.int, q2.int], p.here r (RD.int _)⟩
  · rename_i i l
    obtain ⟨v, rfl, q1⟩ := q.one
    obtain ⟨a, vs, rfl, h, t⟩ := q1.lst
    cases z : intsD l with
    | none => rw [z] at e; cases e
    | some ns =>
      rw [z] at e
      cases e
      have t' := RDs.int (ns := i :: ns) t (by simp [intsD, z])
      subst t'
      obtain ⟨m1, m2⟩ := maxI_spec ns i
      exact .inr (.inl ⟨a, i :: ns, rfl, .of h, by simp, fun m h1 h2 => by
        have : m = maxI i ns := Int.le_antisymm (m2 m h1) (h2 _ m1)
        rw [this]
        exact p.here r (RD.int _)⟩)
  · rename_i i l
    obtain ⟨v, rfl, q1⟩ := q.one
    obtain ⟨a, vs, rfl, h, t⟩ := q1.lst
    cases z : intsD l with
    | none => rw [z] at e; cases e
    | some ns =>
      rw [z] at e
      cases e
      have t' := RDs.int (ns := i :: ns) t (by simp [intsD, z])
      subst t'
      obtain ⟨m1, m2⟩ := minI_spec ns i
      exact .inr (.inl ⟨a, i :: ns, rfl, .of h, by simp, fun m h1 h2 => by
        have : m = minI i ns := Int.le_antisymm (h2 _ m1) (m2 m h1)
        rw [this]
        exact p.here r (RD.int _)⟩)
  · rename_i l
    obtain ⟨v, rfl, q1⟩ := q.one
    obtain ⟨a, vs, rfl, h, t⟩ := q1.lst
    cases z : intsD l with
    | none => rw [z] at e; cases e
    | some ns =>
      rw [z] at e
      cases e
      have t' := RDs.int t z
      subst t'
      exact .inl ⟨a, ns, rfl, .of h, p.here r (RD.int _)⟩
  · rename_i l
    obtain ⟨v, rfl, q1⟩ := q.one
    obtain ⟨a, vs, rfl, h, t⟩ := q1.lst
    cases z : blsD l with
    | none => rw [z] at e; cases e
    | some ns =>
      rw [z] at e
      cases e
      have t' := RDs.bool t z
      subst t'
      exact ⟨a, ns, rfl, .of h, p.here r (RD.bl _)⟩
  · rename_i l
    obtain ⟨v, rfl, q1⟩ := q.one
    obtain ⟨a, vs, rfl, h, t⟩ := q1.lst
    cases z : blsD l with
    | none => rw [z] at e; cases e
    | some ns =>
      rw [z] at e
      cases e
      have t' := RDs.bool t z
      subst t'
      exact ⟨a, ns, rfl, .of h, p.here r (RD.bl _)⟩
  · rename_i l
    obtain ⟨v, rfl, q1⟩ := q.one
    obtain ⟨a, vs, rfl, h, t⟩ := q1.lst
    cases z : intsD l with
    | none =>
      rw [z] at e
      simp only at e
      split at e
      · rename_i ok
        cases e
        exact .inr (.inr ⟨a, vs, ρ, _, l, rfl, .inl (.of h), fun b o e => (mask_some e).1, t, ok, fun b zs hz hb => p.new r hb (RM.lst r hb hz)⟩)
      · cases e
    | some ns =>
      rw [z] at e
      cases e
      have t' := RDs.int t z
      subst t'
      refine .inl ⟨a, ns, rfl, .of h, fun ns' b h1 h2 hb => ?_⟩
      rw [sorted_one h1 h2]
      exact p.new r hb (RM.lst r hb (ofIn _))
  · cases e
    obtain ⟨v, rfl, q1⟩ := q.one
    obtain ⟨a, vs, rfl, h, t⟩ := q1.lst
    exact ⟨a, vs, rfl, .inl (.of h), fun b hb => p.new r hb (RM.lst r hb t)⟩
  · cases e
    obtain ⟨v, rfl, q1⟩ := q.one
    obtain ⟨a, vs, rfl, h, t⟩ := q1.frz
    exact ⟨a, vs, rfl, .inl h, fun b hb => p.new r hb (RM.lst r hb t)⟩
  · cases e
    obtain ⟨v, rfl, q1⟩ := q.one
    obtain ⟨a, vs, rfl, h, t⟩ := q1.tup
    exact ⟨a, vs, rfl, .inr h, fun b hb => p.new r hb (RM.lst r hb t)⟩
  · cases e
    obtain ⟨v, rfl, q1⟩ := q.one
    obtain ⟨a, vs, rfl, h, t⟩ := q1.lst
    exact ⟨a, vs, rfl, .inl ⟨.of h, fun b hb => p.new r hb (RM.tup r hb t)⟩⟩
  · cases e
    obtain ⟨v, rfl, q1⟩ := q.one
    obtain ⟨a, vs, rfl, h, t⟩ := q1.frz
    exact ⟨a, vs, rfl, .inl ⟨h, fun b hb => p.new r hb (RM.tup r hb t)⟩⟩
  · cases e
    obtain ⟨v, rfl, q1⟩ := q.one
    obtain ⟨a, vs, rfl, h, t⟩ := q1.tup
    exact ⟨a, vs, rfl, .inr ⟨h, p.here r q1.tupM⟩⟩
  · rename_i i l
    obtain ⟨v, rfl, q1⟩ := q.one
    obtain ⟨a, vs, rfl, h, t⟩ := q1.tup
    cases z : intsD l with
    | none => rw [z] at e; cases e
    | some ns =>
      rw [z] at e
      cases e
      have t' := RDs.int (ns := i :: ns) t (by simp [intsD, z])
      subst t'
      obtain ⟨m1, m2⟩ := maxI_spec ns i
      exact .inr (.inr (.inl ⟨a, i :: ns, rfl, h, by simp, fun m h1 h2 => by
        have : m = maxI i ns := Int.le_antisymm (m2 m h1) (h2 _ m1)
        rw [this]
        exact p.here r (RD.int _)⟩))
  · rename_i i l
    obtain ⟨v, rfl, q1⟩ := q.one
    obtain ⟨a, vs, rfl, h, t⟩ := q1.tup
    cases z : intsD l with
    | none => rw [z] at e; cases e
    | some ns =>
      rw [z] at e
      cases e
      have t' := RDs.int (ns := i :: ns) t (by simp [intsD, z])
      subst t'
      obtain ⟨m1, m2⟩ := minI_spec ns i
      exact .inr (.inr (.inl ⟨a, i :: ns, rfl, h, by simp, fun m h1 h2 => by
        have : m = minI i ns := Int.le_antisymm (h2 _ m1) (m2 m h1)
        rw [this]
        exact p.here r (RD.int _)⟩))
  · rename_i l
    obtain ⟨v, rfl, q1⟩ := q.one
    obtain ⟨a, vs, rfl, h, t⟩ := q1.tup
    cases z : intsD l with
    | none => rw [z] at e; cases e
    | some ns =>
      rw [z] at e
      cases e
      have t' := RDs.int t z
      subst t'
      exact .inr ⟨a, ns, rfl, h, p.here r (RD.int _)⟩
  · rename_i l
    obtain ⟨v, rfl, q1⟩ := q.one
    obtain ⟨a, vs, rfl, h, t⟩ := q1.tup
    cases z : intsD l with
    | none =>
      rw [z] at e
      simp only at e
      split at e
      · rename_i ok
        cases e
        exact .inr (.inr ⟨a, vs, ρ, _, l, rfl, .inr h, fun b o e => (mask_some e).1, t, ok, fun b zs hz hb => p.new r hb (RM.lst r hb hz)⟩)
      · cases e
    | some ns =>
      rw [z] at e
      cases e
      have t' := RDs.int t z
      subst t'
      refine .inr (.inl ⟨a, ns, rfl, h, fun ns' b h1 h2 hb => ?_⟩)
      rw [sorted_one h1 h2]
      exact p.new r hb (RM.lst r hb (ofIn _))
  · split at e
    · rename_i ok
      cases e
      obtain ⟨v, rfl, q1⟩ := q.one
      obtain ⟨a, vs, rfl, h, t⟩ := q1.lst
      exact .inr (.inr (.inr ⟨a, vs, ρ, _, _, _, rfl, .of h, fun b o e => (mask_some e).1, t, ok, fun v hv => p.here r hv⟩))
    · cases e
  · split at e
    · rename_i ok
      cases e
      obtain ⟨v, rfl, q1⟩ := q.one
      obtain ⟨a, vs, rfl, h, t⟩ := q1.lst
      exact .inr (.inr (.inr ⟨a, vs, ρ, _, _, _, rfl, .of h, fun b o e => (mask_some e).1, t, ok, fun v hv => p.here r hv⟩))
    · cases e
  · cases e
    obtain ⟨v, rfl, q1⟩ := q.one
    exact .inl ⟨_, by rw [q1.bl], p.here r (RD.str _)⟩
  · split at e
    · rename_i hz
      cases e
      obtain ⟨v, rfl, q1⟩ := q.one
      exact .inr (.inl ⟨_, by rw [q1.int], hz, p.here r (RD.str _)⟩)
    · cases e
  · cases e
    obtain ⟨v, rfl, q1⟩ := q.one
    exact .inr (.inr ⟨by rw [q1.non], p.here r (RD.str _)⟩)
  · split at e
    · rename_i hz
      cases e
      obtain ⟨v, rfl, q1⟩ := q.one
      exact ⟨_, by rw [q1.int], hz, p.here r (RD.str _)⟩
    · cases e
  · cases e
end
section
variable {F : Fx} {A : Act} {W : XW} {ck : Nat → List D → RH → Res D} {X : Cx} {e a b : Expr} {xa xb : Ex} {es : List Expr} {xs : Exs} {p pos : Pos}
theorem bltN_ok : ∀ f : Blt, f ≠ .lrange → bootBuiltins (bltN f) = some (bltV f) ∧ bltN f ≠ "__name__" ∧ (bltN f == ("__debug__" : Str)) = false := by
  intro f hf
  cases f <;> first | exact absurd rfl hf | exact ⟨by decide +kernel, by decide +kernel, by decide +kernel⟩
theorem snd_blt (hK : F.K = X.K) (hc : X.calm = true) (hu : X.A.units + 70 < cLine) {f : Blt} (hf : f ≠ .lrange) (hg : Gl X (bltN f)) (hm : X.mg (bltN f) = none) (hs : noStar (e :: es) = true) (ha : PA X (e :: es) (tAb F W ck xs)) :
    PE X (.Call (.Name (bltN f) p) (e :: es) [] pos) (tS F W ck (.blt f xs)) := by
  obtain ⟨h1, h2, h3⟩ := bltN_ok f hf
  have main : PE X (.Call (.Name (bltN f) p) (e :: es) [] pos) (tCB (rBlt F X.K f) (tAb F W ck xs)) := by
    have cr := cr_blt (X := X) hK hc hu f hf
    cases f with
    | int => exact pe_callTy cr hg hm h1 ha h2 h3 (star_of hs) (plain_of (noStar_tail hs))
    | list => exact pe_callTy cr hg hm h1 ha h2 h3 (star_of hs) (plain_of (noStar_tail hs))
    | tuple => exact pe_callTy cr hg hm h1 ha h2 h3 (star_of hs) (plain_of (noStar_tail hs))
    | str => exact pe_callTy cr hg hm h1 ha h2 h3 (star_of hs) (plain_of (noStar_tail hs))
    | lrange => exact absurd rfl hf
    | _ => exact pe_callB cr hg hm h1 ha h2 h3 (star_of hs) (plain_of (noStar_tail hs))
  refine PE.by main fun σV H Q ⟨A, ρ, al, σ, R, r, p⟩ => ⟨A, ρ, al, σ, R, r, Post.bind (f := fun ds R => Res.of (bltD f (lenA f R ds)) R) (Rl := RTs F A al) (show Post F A al W σ σV ρ H ((evb ck xs σ R).bind fun ds R => .of (bltD f (lenA f R ds)) R) (RM F A al) Q from p) fun d R1 v H1 ρ1 r1 e1 q1 p1 => ?_⟩
  obtain ⟨d', e', p2⟩ := p1.of
  exact blt_fin hK r1 hf q1 e' p2
/-- list(range(..)) -/
theorem snd_lrange1 (hc : X.calm = true) (hg : Gl X "list") (hm : X.mg "list" = none) (hg2 : Gl X "range") (hm2 : X.mg "range" = none) (hs : noStar [a] = true) (ha : PE X a (tB F W ck xa)) {p2 pos2 : Pos} :
    PE X (.Call (.Name "list" p) [.Call (.Name "range" p2) [a] [] pos2] [] pos) (tS F W ck (.blt .lrange (.cons xa .nil))) := by
  refine PE.by (pe_listRg hc hg hm (prg_1 hg2 hm2 ha (star_of hs))) fun σV H Q ⟨A, ρ, al, σ, R, r, p⟩ => ⟨A, ρ, al, σ, R, r, ?_⟩
  have p : Post F A al W σ σV ρ H (((ev ck xa σ R).bind fun x R => (Res.ok [] R).bind fun xs R => .ok (x :: xs) R).bind fun ds R => .of (bltD .lrange ds) R) (RM F A al) Q := p
  cases q : ev ck xa σ R with
  | ok d R1 =>
    rw [q] at p
    intro v H1 ρ1 r1 e1 q1
    obtain ⟨d', e', p2⟩ := (Post.ext p e1).of
    cases d <;> simp only [bltD] at e' <;> first | (cases e'; done) | skip
    rename_i n
    split at e'
    · rename_i h
      cases e'
      simp only [Bool.and_eq_true, decide_eq_true_eq] at h
      have hz : (sizeLine : Int) = 16777216 := by decide
      refine ⟨n, q1.int, ⟨by omega, by omega, by omega, by omega, by omega⟩, fun b hb => p2.new r1 hb (RM.lst r1 hb ?_)⟩
      have := rgV_rd (F := F) (ρ := ρ1) (H := mask H1 (OO A ρ1 al)) 0 n
      rw [Int.sub_zero] at this
      exact this
    · cases e'
  | exc c R1 => rw [q] at p; exact p
  | bad => rw [q] at p; exact p
theorem snd_lrange2 (hc : X.calm = true) (hg : Gl X "list") (hm : X.mg "list" = none) (hg2 : Gl X "range") (hm2 : X.mg "range" = none) (hs : noStar [a, b] = true) (ha : PE X a (tB F W ck xa)) (hb : PE X b (tB F W ck xb)) {p2 pos2 : Pos} :
    PE X (.Call (.Name "list" p) [.Call (.Name "range" p2) [a, b] [] pos2] [] pos) (tS F W ck (.blt .lrange (.cons xa (.cons xb .nil)))) := by
  refine PE.by (pe_listRg hc hg hm (prg_2 hg2 hm2 ha hb (star_of hs) (star_of (noStar_tail hs)) (plain_of (noStar_tail hs)))) fun σV H Q ⟨A, ρ, al, σ, R, r, p⟩ => ⟨A, ρ, al, σ, R, r, ?_⟩
  have p : Post F A al W σ σV ρ H ((ev ck xa σ R).bind fun x R => ((ev ck xb σ R).bind fun y R => Res.ok [y] R).bind fun xs R => .of (bltD .lrange (x :: xs)) R) (RM F A al) Q := by
    have p : Post F A al W σ σV ρ H (((ev ck xa σ R).bind fun x R => ((ev ck xb σ R).bind fun y R => (Res.ok [] R).bind fun xs R => Res.ok (y :: xs) R).bind fun xs R => .ok (x :: xs) R).bind fun ds R => .of (bltD .lrange ds) R) (RM F A al) Q := p
    cases q : ev ck xa σ R with
    | ok d R1 =>
      rw [q] at p
      simp only [Res.bind] at p ⊢
      cases q2 : ev ck xb σ R1 with
      | ok d2 R2 => rw [q2] at p; simp only [Res.bind] at p ⊢; exact p
      | exc c R1 => rw [q2] at p; exact p
      | bad => rw [q2] at p; exact p
    | exc c R1 => rw [q] at p; exact p
    | bad => rw [q] at p; exact p
  refine p.bind fun d R1 v H1 ρ1 r1 e1 q1 p1 => ⟨A, ρ1, al, σ, R1, r1, ?_⟩
  cases q2 : ev ck xb σ R1 with
  | ok d2 R2 =>
    rw [q2] at p1
    intro u H2 ρ2 r2 e2 q3
    obtain ⟨d', e', p2⟩ := (Post.ext p1 e2).of
    cases d <;> cases d2 <;> simp only [bltD] at e' <;> first | (cases e'; done) | skip
    rename_i n m
    split at e'
    · rename_i h
      cases e'
      simp only [Bool.and_eq_true, decide_eq_true_eq] at h
      have hz : (sizeLine : Int) = 16777216 := by decide
      exact ⟨n, m, q1.int, q3.int, ⟨by omega, by omega, by omega, by omega, by omega⟩, fun b hb => p2.new r2 hb (RM.lst r2 hb (rgV_rd (F := F) n m))⟩
    · cases e'
  | exc c R1 => rw [q2] at p1; exact p1
  | bad => rw [q2] at p1; exact p1
end
end Cw

end
section
/-! CwJ: isinstance, places, slices. -/
namespace Cw
open PySem L2 PyProof.Rows
def kdS : Kd → String
  | .int => "int"
  | .bool => "bool"
  | .str => "str"
  | .tuple => "tuple"
  | .list => "list"
  | .dict => "dict"
def kdN : Kd → Str
  | .int => "int"
  | .bool => "bool"
  | .str => "str"
  | .tuple => "tuple"
  | .list => "list"
  | .dict => "dict"
def tyS : D → String
  | .non => "NoneType"
  | .bl _ => "bool"
  | .int _ => "int"
  | .str _ => "str"
  | .tup _ => "tuple"
  | .lst _ | .ref _ | .frz _ => "list"
  | .dK _ | .dT _ => "dict"
  | .fn _ => "function"
theorem kit_ks : ∀ (k : Kd) (d : D) (b : Bool), isK k d = some b → kitB (tyS d) (kdS k) = some b
  | k, .non, b, h => by cases k <;> (cases h; simp only [tyS, kdS]; decide +kernel)
  | k, .bl _, b, h => by cases k <;> (cases h; simp only [tyS, kdS]; decide +kernel)
  | k, .int _, b, h => by cases k <;> (cases h; simp only [tyS, kdS]; decide +kernel)
  | k, .str _, b, h => by cases k <;> (cases h; simp only [tyS, kdS]; decide +kernel)
  | k, .tup _, b, h => by cases k <;> (cases h; simp only [tyS, kdS]; decide +kernel)
  | k, .lst _, b, h => by cases k <;> (cases h; simp only [tyS, kdS]; decide +kernel)
  | k, .ref _, b, h => by cases k <;> (cases h; simp only [tyS, kdS]; decide +kernel)
  | k, .frz _, b, h => by cases k <;> (cases h; simp only [tyS, kdS]; decide +kernel)
  | k, .dK _, b, h => by cases k <;> (cases h; simp only [tyS, kdS]; decide +kernel)
  | k, .dT _, b, h => by cases k <;> (cases h; simp only [tyS, kdS]; decide +kernel)
  | k, .fn _, b, h => by cases k <;> cases h
section
variable {F : Fx} {A : Act} {al : List (Option Addr)} {W : XW} {σ : List Sl} {σV : L2.St} {ρ : List Addr} {H : Hp} {R : RH} {K : PySem.W.Frag}
theorem ty_sqT {a : Addr} {vs : List V} (h : SqT K H a vs) : TyX K H (.ref a) (.type "tuple") := by
  rcases h with (h | ⟨o, h⟩) | ⟨o, its, n, h, c, _⟩
  · exact .base (.tup h)
  · exact .fTuple h
  · exact .kTuple h c
theorem ty_sqL {a : Addr} {vs : List V} (h : SqL K H a vs) : TyX K H (.ref a) (.type "list") := by
  rcases h with (h | ⟨o, h⟩) | ⟨o, its, n, h, c, _⟩
  · exact .base (.lst h)
  · exact .base (.frz h)
  · exact .kList h c
theorem RT.ty (hK : F.K = K) (r : Rel F A ρ al σ R σV H) {v : V} {d : D} (q : RT F A al ρ H v d) (hd : ∀ i, d ≠ .fn i) : TyX K H v (.type (tyS d)) := by
  subst hK
  cases d with
  | non => rw [q.non]; exact .base .non
  | bl b => rw [q.bl]; exact .base (.bl b)
  | int b => rw [q.int]; exact .base (.int b)
  | str b => rw [q.str]; exact .base (.str b)
  | tup xs => obtain ⟨a, vs, rfl, h, _⟩ := q.tup; exact ty_sqT h
  | lst xs => obtain ⟨a, vs, rfl, h, _⟩ := q.lst; exact .base (.lst h)
  | frz xs => obtain ⟨a, vs, rfl, h, _⟩ := q.frz; exact ty_sqL h
  | dK xs => obtain ⟨a, vs, rfl, h, _⟩ := q.dK; exact .base (.dK h)
  | dT xs =>
    rcases q with h | ⟨a, rfl, _, kvs, h, _⟩
    · cases h with
      | dT h t => exact .base (.dT (mask_some h).1)
    · exact .base (.dT h)
  | ref i =>
    obtain ⟨a, rfl, h⟩ := q.ref
    obtain ⟨vs, h⟩ := r.ltR (List.mem_of_getElem? h)
    exact .base (.lst h)
  | fn i => exact absurd rfl (hd i)
theorem isKs_fn {ks : List Kd} {d : D} {b : Bool} (h : isKs ks d = some b) (hk : ks ≠ []) : ∀ i, d ≠ .fn i := by
  intro i e
  subst e
  cases ks with
  | nil => exact hk rfl
  | cons k ks => simp [isKs, isK] at h
theorem kit_all : ∀ {ks : List Kd} {d : D} {b : Bool}, isKs ks d = some b → PySem.W.kitAny K (.type (tyS d)) (ks.map fun k => Value.type (kdS k)) = some b
  | [], d, b, h => by cases h; rfl
  | k :: ks, d, b, h => by
    simp only [isKs] at h
    cases z : isK k d with
    | none => rw [z] at h; cases h
    | some c =>
      cases z2 : isKs ks d with
      | none => rw [z, z2] at h; cases h
      | some e =>
        rw [z, z2] at h
        cases h
        have h1 := kit_ty (K := K) (kit_ks k d c z)
        have h2 := kit_all (ks := ks) z2
        simp only [List.map_cons, PySem.W.kitAny, h1]
        cases c with
        | true => rfl
        | false => simpa using h2
end
section
variable {F : Fx} {A : Act} {W : XW} {ck : Nat → List D → RH → Res D} {X : Cx} {a b : Expr} {xa xb : Ex} {p pos : Pos}
theorem kd_boot : ∀ k : Kd, bootBuiltins (kdN k) = some (.type (kdS k)) ∧ kdN k ≠ "__name__" ∧ (kdN k == ("__debug__" : Str)) = false := by
  intro k
  cases k <;> exact ⟨by decide +kernel, by decide +kernel, by decide +kernel⟩
theorem pe_kd (k : Kd) {p : Pos} (hg : Gl X (kdN k)) (hm : X.mg (kdN k) = none) : PE X (.Name (kdN k) p) (tC (.ty (kdS k))) := by
  obtain ⟨h1, h2, h3⟩ := kd_boot k
  exact pe_bltn hg hm h1 rfl h2 h3
theorem snd_isi1 (hK : F.K = X.K) (k : Kd) (hg : Gl X "isinstance") (hm : X.mg "isinstance" = none) (hg2 : Gl X (kdN k)) (hm2 : X.mg (kdN k) = none) (hs : isStar a = false) (ha : PE X a (tB F W ck xa)) {p2 : Pos} :
    PE X (.Call (.Name "isinstance" p) [a, .Name (kdN k) p2] [] pos) (tS F W ck (.isi [k] xa)) :=
  PE.by (pe_callB call_isi hg hm (by decide +kernel) (pa_cons ha (pa_cons (pe_kd k hg2 hm2) pa_nil) (star_cons hs)) (by decide) (by decide) (star_cons hs) rfl) fun σV H Q ⟨A, ρ, al, σ, R, r, p⟩ => ⟨A, ρ, al, σ, R, r, Post.bind (show Post F A al W σ σV ρ H ((ev ck xa σ R).bind fun x R => .of ((isKs [k] x).map .bl) R) (RM F A al) Q from p) fun d R1 v H1 ρ1 r1 e1 q1 p1 => by
    obtain ⟨d', e', p2⟩ := p1.of
    cases z : isKs [k] d with
    | none => rw [z] at e'; cases e'
    | some c =>
      rw [z] at e'
      cases e'
      have z1 := kit_all (K := X.K) z
      have z2 : PySem.W.kitOne X.K (.type (tyS d)) (.type (kdS k)) = some c := by
        simp only [List.map_cons, List.map_nil, PySem.W.kitAny] at z1
        cases w : PySem.W.kitOne X.K (.type (tyS d)) (.type (kdS k)) with
        | none => rw [w] at z1; cases z1
        | some b => rw [w] at z1; cases b <;> exact z1
      exact ⟨v, .ty (kdS k), _, _, c, rfl, .ty _, RT.ty hK r1 q1 (isKs_fn z (by simp)), z2, p2.here r1 (RD.bl _)⟩⟩
/-- the names of the kinds -/
def kdsE : List Kd → List Expr → Bool
  | [], [] => true
  | k :: ks, .Name n _ :: es => decide (n = kdN k) && kdsE ks es
  | _, _ => false
theorem kds_noStar : ∀ {ks : List Kd} {es : List Expr}, kdsE ks es = true → noStar es = true
  | [], [], _ => rfl
  | k :: ks, .Name n _ :: es, h => by
    simp only [kdsE, Bool.and_eq_true] at h
    have := kds_noStar h.2
    simp only [noStar, List.all_cons, Bool.and_eq_true]
    exact ⟨rfl, this⟩
theorem pa_kds : ∀ {ks : List Kd} {es : List Expr}, (∀ k ∈ ks, X.mg (kdN k) = none) → kdsE ks es = true → (∀ k ∈ ks, Gl X (kdN k)) → PA X es (fun _ H Q => Q (ks.map fun k => V.ty (kdS k)) H)
  | [], [], _, _, _ => pa_nil
  | k :: ks, .Name n p :: es, hg, h, g => by
    simp only [kdsE, Bool.and_eq_true, decide_eq_true_eq] at h
    obtain ⟨rfl, h2⟩ := h
    exact PA.by (pa_cons (pe_kd k (g k List.mem_cons_self) (hg k List.mem_cons_self)) (pa_kds (fun k hk => hg k (List.mem_cons_of_mem _ hk)) h2 fun k hk => g k (List.mem_cons_of_mem _ hk)) (star_cons rfl)) fun σ H Q h => h
theorem cls_all : ∀ ks : List Kd, Paired ClsV (ks.map fun k => V.ty (kdS k)) (ks.map fun k => Value.type (kdS k))
  | [] => .nil
  | k :: ks => .cons (.ty _) (cls_all ks)
theorem snd_isiT (hK : F.K = X.K) {ks : List Kd} {es : List Expr} (hk : kdsE ks es = true) (hl : ks.length ≤ 10) (hn : ks ≠ []) (hg : Gl X "isinstance") (hm : X.mg "isinstance" = none) (hg2 : ∀ k ∈ ks, Gl X (kdN k)) (hm2 : ∀ k ∈ ks, X.mg (kdN k) = none) (hs : isStar a = false) (ha : PE X a (tB F W ck xa)) {p2 : Pos} {x1} :
    PE X (.Call (.Name "isinstance" p) [a, .Tuple es x1 p2] [] pos) (tS F W ck (.isi ks xa)) :=
  PE.by (pe_callB call_isiT hg hm (by decide +kernel) (pa_cons ha (pa_cons (pe_tup (pa_kds hm2 hk hg2)) pa_nil) (star_cons hs)) (by decide) (by decide) (star_cons hs) rfl) fun σV H Q ⟨A, ρ, al, σ, R, r, p⟩ => ⟨A, ρ, al, σ, R, r, Post.bind (show Post F A al W σ σV ρ H ((ev ck xa σ R).bind fun x R => .of ((isKs ks x).map .bl) R) (RM F A al) Q from p) fun d R1 v H1 ρ1 r1 e1 q1 p1 => by
    obtain ⟨d', e', p2⟩ := p1.of
    cases z : isKs ks d with
    | none => rw [z] at e'; cases e'
    | some c =>
      rw [z] at e'
      cases e'
      refine ⟨by rw [List.length_map]; exact Nat.le_trans hl (by decide), fun b hb => ?_⟩
      refine ⟨v, b, _, _, _, c, rfl, upd_same, cls_all ks, RT.ty hK (r1.grow (upd_keep hb)) (RT.ext q1 (ext_grow (upd_keep hb))) (isKs_fn z hn), kit_all z, p2.new r1 hb (RD.bl _)⟩⟩

/-! ### places -/
def plainI (b : Expr) : Bool := match b with
  | .Slice .. => false
  | _ => true
theorem plainIx {b : Expr} (h : plainI b = true) : PlainIx b := by
  cases b <;> first | (intro o i; rfl) | cases h
end
end Cw

end
section
/-! CwK: enumerate and zip over lists and tuples in any mixture. -/
namespace Cw
open PySem L2 PyProof.Rows PySem.W
/-- a list or a tuple at an address -/
inductive Src where | L (a : Addr) | T (a : Addr)
def Src.ad : Src → Addr
  | .L a => a
  | .T a => a
def Src.has (K : PySem.W.Frag) (H : Hp) : Src → List V → Prop
  | .L a, xs => SqL K H a xs
  | .T a, xs => SqT K H a xs
def Src.iter (h : Heap) (it : Addr) (i : Nat) : Src → Prop
  | .L a => h.IsListIter it a i
  | .T a => h.IsTupleIter it a i
def Src.is (h : Heap) (its : Array Value) : Src → Prop
  | .L a => h.IsList a its
  | .T a => h.IsTuple a its
def Src.itO : Src → Obj
  | .L a => { cls := .type "list_iterator", data := .fields #[.ref a, .int 0 0] }
  | .T a => { cls := .type "tuple_iterator", data := .fields #[.ref a, .int 0 0] }
theorem Src.itO_fin (S : Src) : S.itO.data ≠ .freed := by cases S <;> (intro z; cases z)
theorem Src.iter_obj {S : Src} {h : Heap} {it : Addr} {i : Nat} (x : S.iter h it i) : ∃ o, h.get? it = some o ∧ ∀ v, o.data ≠ .cell v := by
  cases S with
  | L a => obtain ⟨o, e, c, d⟩ := x; exact ⟨o, e, fun v z => by rw [d] at z; cases z⟩
  | T a => obtain ⟨o, e, c, d⟩ := x; exact ⟨o, e, fun v z => by rw [d] at z; cases z⟩
theorem Src.iter_at {S : Src} {h h' : Heap} {it : Addr} {i : Nat} (x : S.iter h it i) (k : ∀ o, h.get? it = some o → h'.get? it = some o) : S.iter h' it i := by
  cases S with
  | L a => exact Heap.IsListIter.at x k
  | T a => exact Heap.IsTupleIter.at x k
theorem Src.is_lt {S : Src} {h : Heap} {its : Array Value} (x : S.is h its) : S.ad < h.objs.size := by
  cases S with
  | L a => obtain ⟨o, e, _⟩ := x; exact Heap.lt_size e
  | T a => obtain ⟨o, e, _⟩ := x; exact Heap.lt_size e
theorem Src.draws {prog : Program} {w : World} {A : Around} (hh : A.handled = none) (it : Addr) (S : Src) (hne : S.ad ≠ it) (its : Array Value) :
    Draws prog w A it [it, S.ad] its.size (fun i v => its[i]? = some v) (fun i h => S.iter h it i ∧ S.is h its) := by
  cases S with
  | L a => exact Draws.list hh it a hne its
  | T a => exact Draws.tuple hh it a hne its
section
variable {X : Cx} {pins : List (Addr × Obj)} {σ : L2.St} {H : Hp} {s : Shared}
theorem src_is (I : Inv X pins σ H s) {S : Src} {xs : List V} (h : S.has X.K H xs) : ∃ its : List Value, Vals xs its ∧ S.is s.heap its.toArray ∧ xs.length ≤ sizeLine := by
  cases S with
  | L a => obtain ⟨its, r, p, z⟩ := I.list h; exact ⟨its, r, p.isList, z⟩
  | T a => obtain ⟨its, r, p, z⟩ := I.tuple h; exact ⟨its, r, p, z⟩
theorem src_inj (I : Inv X pins σ H s) {S : Src} {xs ys : List V} (h : S.has X.K H xs) (h' : S.has X.K H ys) : xs = ys := by
  cases S with
  | L a => exact I.list_inj h h'
  | T a => exact I.tuple_inj h h'
end
/-! ### enumerate -/
def IteS (K : PySem.W.Frag) (S : Src) : It :=
  ⟨fun i H => ∃ (xs : List V) (x : V), S.has K H xs ∧ xs[i]? = some x, fun i H v H' => ∃ T x, v = .ref T ∧ H T = none ∧ H' = upd H T (.tup [.int (i : Nat), x]) ∧ ∀ xs, S.has K H xs → xs[i]? = some x, fun i H => ∃ xs : List V, S.has K H xs ∧ xs.length = i⟩
theorem turn_enumS {P : Program} {w : World} {K : PySem.W.Frag} {elts : List Expr} {kk : Nat} {tpos : Pos} (S : Src) (e it : Addr) (hS : S.ad ≠ e ∧ S.ad ≠ it) :
    Turn P w K (.Tuple elts kk tpos) (IteS K S) [e, it] e (fun i h => (∃ old, IsEnum h e it ((i : Nat) : Int) old) ∧ S.iter h it i ∧ e ≠ it) where
  mem := by simp
  obj := fun i h st b hb => by
    obtain ⟨⟨old, he⟩, hi, _⟩ := st
    have e' : b = e ∨ b = it := by simpa using hb
    rcases e' with z | z
    · rw [z]; exact ⟨_, he, fun v q => nomatch q⟩
    · rw [z]; exact Src.iter_obj hi
  keep := fun i h h' st k => let ⟨⟨old, he⟩, hi, hne⟩ := st; ⟨⟨old, k e (by simp) _ he⟩, Src.iter_at (S := S) hi fun o q => k it (by simp) o q, hne⟩
  item := by
    intro X hP hw hK hc i pins s σ H E I hf st hg
    subst hP hw hK
    obtain ⟨⟨old, he⟩, hit, hne⟩ := st
    obtain ⟨xs, x, hq, hx⟩ := hg
    obtain ⟨its, rv, p, hz⟩ := src_is I hq
    obtain ⟨u, hu, ru⟩ := rv.get hx
    have hel : e < s.heap.objs.size := Heap.lt_size he
    have hil : it < s.heap.objs.size := by obtain ⟨_, q, _⟩ := Src.iter_obj hit; exact Heap.lt_size q
    have hlt : i < its.toArray.size := by
      have := (List.getElem?_eq_some_iff.mp hu).1
      simpa using this
    refine wpAny_pyNext_enum_itemD (S.draws (A := X.A.in1) (I.ok.hd hc) it hS.2 its.toArray) he ⟨hit, p⟩ hlt hne (fun m => by
      have : e = it ∨ e = S.ad := by simpa using m
      rcases this with z | z
      · exact hne z
      · exact hS.1 z.symm) fun u' h' tk hu' ho hit' hT hsz hk => ?_
    have eu : u' = u := by
      have h1 : its.toArray[i]? = some u := by simpa using hu
      exact Option.some.inj (hu'.symm.trans h1)
    subst eu
    refine ⟨_, rfl, wpAny_letOwnedTupleGo_enum (s := { s with heap := h', toks := tk + 1 }) ho fun h'' he' sb => ?_⟩
    have hT2 : h''.get? s.heap.objs.size = some { cls := .type "tuple", data := .seq #[.int i tk, u'] } := (sb.2 _ (Nat.ne_of_gt hel)).trans hT
    have new : ObjOk X.prog X.w (upd H s.heap.objs.size (.tup [.int (i : Nat), x])) h'' s.heap.objs.size (.tup [.int (i : Nat), x]) :=
      ⟨by show 2 ≤ sizeLine; decide, [.int i tk, u'], .cons ⟨_, rfl⟩ (.cons ru .nil), ⟨_, hT2, rfl, _, rfl⟩⟩
    have I1 : Inv X pins σ (upd H s.heap.objs.size (.tup [.int (i : Nat), x])) { s with heap := h'', toks := tk + 1 } :=
      I.turnedNew (ch := [e, it]) (fun b ob hb q => (sb.2 b (fun z => hb (by simp [z]))).trans (hk b ob (fun z => hb (by simp [z])) (fun z => hb (by simp [z])) q)) hf (Nat.le_refl _) new
    refine ⟨.ref s.heap.objs.size, _, I1, rfl, ⟨_, x, rfl, I.hok.fresh (Nat.le_refl _), rfl, fun ys hy => by rw [src_inj I hy hq]; exact hx⟩, ⟨⟨u', ?_⟩, Src.iter_at (S := S) hit'.1 fun o q => (sb.2 it (Ne.symm hne)).trans q, hne⟩, fun b hb => ?_⟩
    · have e1 : ((i + 1 : Nat) : Int) = (i : Int) + 1 := by omega
      rw [e1]; exact he'
    · have hb' : b < s.heap.objs.size := by
        have e' : b = e ∨ b = it := by simpa using hb
        rcases e' with z | z
        · rw [z]; exact hel
        · rw [z]; exact hil
      rw [upd_ne (Nat.ne_of_lt hb')]
      exact (hf b hb).1
  done := by
    intro X hP hw hK hc i pins s σ H E I hf st hg
    subst hP hw hK
    obtain ⟨⟨old, he⟩, hit, hne⟩ := st
    obtain ⟨xs, hq, hx⟩ := hg
    obtain ⟨its, rv, p, hz⟩ := src_is I hq
    obtain ⟨f0, f1, f2, f3, f4, f5⟩ := hf it (by simp)
    have hl := rv.length
    have hn : i = its.toArray.size := by simp; omega
    subst hn
    exact wpAny_pyNext_enum_endD (S.draws (A := X.A.in1) (I.ok.hd hc) it hS.2 its.toArray) he ⟨hit, p⟩ fun h' eb => ⟨rfl, I.turned (t' := s.toks) (fun b o hb q => eb b o hb q) f0 f1 f3 f4 f5⟩
  self := fun A i s Q E st h => let ⟨⟨_, he⟩, _⟩ := st; wpAny_pyIter_enum he h

theorem meets_enumerate_newT (l : Addr) (items : Array Value) :
    Meets (Builtin.«enumerate.__new__» ⟨[.type "enumerate", .ref l], []⟩) (fun _ R s => s.heap.IsTuple l items ∧
      R (.ok (.ret (.ref (s.heap.push { cls := .type "tuple_iterator", data := .fields #[.ref l, .int 0 0] }).objs.size)))
        { s with heap := (s.heap.push { cls := .type "tuple_iterator", data := .fields #[.ref l, .int 0 0] }).push { cls := .type "enumerate", data := .fields #[.none, .bool false, .ref s.heap.objs.size, rawInt 0, .none, .none] } }) :=
  .of_wp fun prog w A R s h => by
    obtain ⟨hp, g, d, tk, os⟩ := s; obtain ⟨hL, h⟩ := h
    have hsub := sub_enumerate
    have hL : Heap.IsTuple (Shared.heap ⟨hp, g, d, tk, os⟩) l items := hL
    wp_walk
    refine wpAny_stack_any fun st => wpAny_pure ?_
    split
    · rename_i c _ _ _ _ _
      cases (c == Value.type "enumerate")
      · wp_walk using wpAny_pyIter_tuple hL
        exact ⟨_, rfl, h⟩
      · wp_walk using wpAny_pyIter_tuple hL
        exact ⟨_, rfl, h⟩
    · wp_walk using wpAny_pyIter_tuple hL
      exact ⟨_, rfl, h⟩
section
variable {prog : Program} {w : World} {A : Around} {E : Value → Shared → Prop} {s : Shared}
theorem call_enumerate_tup {l : Addr} {items : Array Value} {Q : Value → Shared → Prop} (hL : s.heap.IsTuple l items)
    (h : ∀ h', IsEnum h' (s.heap.objs.size + 1) s.heap.objs.size 0 .none → h'.IsTupleIter s.heap.objs.size l 0 → h'.objs.size = s.heap.objs.size + 2 →
      (∀ b o, s.heap.get? b = some o → h'.get? b = some o) → Q (.ref (s.heap.objs.size + 1)) { s with heap := h' }) :
    wpAny (model prog w) A (call (.type "enumerate") [.ref l]) Q E s := by
  refine callType_new F.called_enumerate (by decide) (F.typeCall_enumerate_1 _) (F.newCall_enumerate_1 _) (fun obj => F.args_object_init_2 obj _) F.entry_enumerate_new
    (meets_enumerate_newT l items) ⟨hL, ?_⟩
  have hz : (s.heap.push { cls := .type "tuple_iterator", data := .fields #[.ref l, .int 0 0] }).objs.size = s.heap.objs.size + 1 := Heap.size_push ..
  show _ ∧ _
  rw [hz]
  have he : IsEnum ((s.heap.push { cls := .type "tuple_iterator", data := .fields #[.ref l, .int 0 0] }).push
      { cls := .type "enumerate", data := .fields #[.none, .bool false, .ref s.heap.objs.size, rawInt 0, .none, .none] }) (s.heap.objs.size + 1) s.heap.objs.size 0 .none := by
    have := Heap.get?_push_size (s.heap.push { cls := .type "tuple_iterator", data := .fields #[.ref l, .int 0 0] })
      (o := { cls := .type "enumerate", data := .fields #[.none, .bool false, .ref s.heap.objs.size, rawInt 0, .none, .none] }) rfl
    rw [hz] at this; exact this
  refine ⟨⟨_, he, rfl⟩, h _ he ⟨_, Heap.get?_push_of_some _ (Heap.get?_push_size _ rfl), rfl, rfl⟩ (by rw [Heap.size_push, hz]) fun b o x => Heap.get?_push_of_some _ (Heap.get?_push_of_some _ x)⟩
theorem call_enumerate_src (S : Src) {items : Array Value} {Q : Value → Shared → Prop} (hL : S.is s.heap items)
    (h : ∀ h', IsEnum h' (s.heap.objs.size + 1) s.heap.objs.size 0 .none → S.iter h' s.heap.objs.size 0 → h'.objs.size = s.heap.objs.size + 2 →
      (∀ b o, s.heap.get? b = some o → h'.get? b = some o) → Q (.ref (s.heap.objs.size + 1)) { s with heap := h' }) :
    wpAny (model prog w) A (call (.type "enumerate") [.ref S.ad]) Q E s := by
  cases S with
  | L a => exact call_enumerate_list hL h
  | T a => exact call_enumerate_tup hL h
end
def iEnumS (K : PySem.W.Frag) (ta : TA) : TI := fun σ H R => ta σ H fun vs H1 => ∃ S xs, vs = [.ref (Src.ad S)] ∧ S.has K H1 xs ∧ R (IteS K S) H1
theorem pi_enumS {X : Cx} {e : Expr} {ta : TA} {p pos tpos : Pos} {elts : List Expr} {kk : Nat} (hg : Gl X "enumerate") (hm : X.mg "enumerate" = none) (ha : PA X [e] ta) (hs : isStar e = false) :
    PI X (.Tuple elts kk tpos) (.Call (.Name "enumerate" p) [e] [] pos) (iEnumS X.K ta) := by
  refine ⟨fun pins s σ H R I h => ?_⟩
  refine Call_ (ld_blt I hg hm boot_enumerate (PyProof.Rows.callWith_type1 (thn (ha.run pos pins s σ H _ I h) fun us s1 ⟨vs, H1, I1, r1, q1⟩ => ?_) (star_cons hs) rfl))
  obtain ⟨S, xs, ex, hq, q⟩ := q1
  subst ex
  cases r1 with
  | cons r rr =>
    cases rr
    cases r
    obtain ⟨its, rv, p', hz⟩ := src_is I1 hq
    have la := Src.is_lt p'
    refine call_enumerate_src S p' fun h' he hit hsz hk => wpAny_pyIter_enum he ?_
    have I2 : Inv X pins σ H1 { s1 with heap := h' } := I1.kept (t' := s1.toks) hk
    refine ⟨s1.heap.objs.size + 1, [s1.heap.objs.size + 1, s1.heap.objs.size], _, _, H1, rfl, I2, turn_enumS S (s1.heap.objs.size + 1) s1.heap.objs.size ⟨Nat.ne_of_lt (Nat.lt_succ_of_lt la), Nat.ne_of_lt la⟩, ⟨⟨.none, he⟩, hit, Nat.succ_ne_self _⟩, fun b hb => ?_, q⟩
    have e' : b = s1.heap.objs.size + 1 ∨ b = s1.heap.objs.size := by simpa using hb
    have hle : s1.heap.objs.size ≤ b := by
      rcases e' with z | z
      · rw [z]; exact Nat.le_add_right _ _
      · rw [z]; exact Nat.le_refl _
    exact I1.fpOk hle (I1.hok.fresh hle)

/-! ### zip -/
abbrev zH1 (h : Heap) (S1 : Src) : Heap := h.push S1.itO
abbrev zH2 (h : Heap) (S1 S2 : Src) : Heap := (zH1 h S1).push S2.itO
abbrev zH3 (h : Heap) (S1 S2 : Src) : Heap := (zH2 h S1 S2).push { cls := .type "tuple", data := .seq #[.ref h.objs.size, .ref (zH1 h S1).objs.size] }
abbrev zH4 (h : Heap) (S1 S2 : Src) : Heap := (zH3 h S1 S2).push { cls := .type "tuple", data := .seq #[.none, .none] }
abbrev zH5 (h : Heap) (S1 S2 : Src) : Heap := (zH4 h S1 S2).push { cls := .type "zip", data := .fields #[.none, .bool false, .bool false, .ref (zH2 h S1 S2).objs.size, .ref (zH3 h S1 S2).objs.size] }
theorem src_push {S : Src} {h : Heap} {its : Array Value} {o : Obj} (x : S.is h its) : S.is (h.push o) its := by
  cases S with
  | L a => obtain ⟨o', e, c⟩ := x; exact ⟨o', Heap.get?_push_of_some _ e, c⟩
  | T a => obtain ⟨o', e, c⟩ := x; exact ⟨o', Heap.get?_push_of_some _ e, c⟩
theorem meets_zipLL (l1 l2 : Addr) (xs ys : Array Value) :
    Meets (Builtin.«zip.__new__» ⟨[.type "zip", .ref l1, .ref l2], []⟩) (fun _ R s => s.heap.IsList l1 xs ∧ s.heap.IsList l2 ys ∧
      R (.ok (.ret (.ref (zH4 s.heap (.L l1) (.L l2)).objs.size))) { s with heap := zH5 s.heap (.L l1) (.L l2) }) :=
  meets_zip_new l1 l2 xs ys
theorem meets_zipLT (l1 l2 : Addr) (xs ys : Array Value) :
    Meets (Builtin.«zip.__new__» ⟨[.type "zip", .ref l1, .ref l2], []⟩) (fun _ R s => s.heap.IsList l1 xs ∧ s.heap.IsTuple l2 ys ∧
      R (.ok (.ret (.ref (zH4 s.heap (.L l1) (.T l2)).objs.size))) { s with heap := zH5 s.heap (.L l1) (.T l2) }) :=
  .of_wp fun prog w A R s h => by
    obtain ⟨hp, g, d, tk, os⟩ := s; obtain ⟨hl1, hl2, h⟩ := h
    have hsub := sub_zip
    have hL1 : Heap.IsList (Shared.heap ⟨hp, g, d, tk, os⟩) l1 xs := hl1
    have hL2 : Heap.IsTuple (Shared.heap ⟨hp.push { cls := .type "list_iterator", data := .fields #[.ref l1, .int 0 0] }, g, d, tk, os⟩) l2 ys := src_push (S := .T l2) hl2
    wp_walk using wpAny_pyIter_list hL1, wpAny_pyIter_tuple hL2
    exact ⟨_, rfl, h⟩
theorem meets_zipTL (l1 l2 : Addr) (xs ys : Array Value) :
    Meets (Builtin.«zip.__new__» ⟨[.type "zip", .ref l1, .ref l2], []⟩) (fun _ R s => s.heap.IsTuple l1 xs ∧ s.heap.IsList l2 ys ∧
      R (.ok (.ret (.ref (zH4 s.heap (.T l1) (.L l2)).objs.size))) { s with heap := zH5 s.heap (.T l1) (.L l2) }) :=
  .of_wp fun prog w A R s h => by
    obtain ⟨hp, g, d, tk, os⟩ := s; obtain ⟨hl1, hl2, h⟩ := h
    have hsub := sub_zip
    have hL1 : Heap.IsTuple (Shared.heap ⟨hp, g, d, tk, os⟩) l1 xs := hl1
    have hL2 : Heap.IsList (Shared.heap ⟨hp.push { cls := .type "tuple_iterator", data := .fields #[.ref l1, .int 0 0] }, g, d, tk, os⟩) l2 ys := src_push (S := .L l2) hl2
    wp_walk using wpAny_pyIter_tuple hL1, wpAny_pyIter_list hL2
    exact ⟨_, rfl, h⟩
theorem meets_zipTT (l1 l2 : Addr) (xs ys : Array Value) :
    Meets (Builtin.«zip.__new__» ⟨[.type "zip", .ref l1, .ref l2], []⟩) (fun _ R s => s.heap.IsTuple l1 xs ∧ s.heap.IsTuple l2 ys ∧
      R (.ok (.ret (.ref (zH4 s.heap (.T l1) (.T l2)).objs.size))) { s with heap := zH5 s.heap (.T l1) (.T l2) }) :=
  RZ.meets_zipT_new l1 l2 xs ys
theorem meets_zipS_new (S1 S2 : Src) (xs ys : Array Value) :
    Meets (Builtin.«zip.__new__» ⟨[.type "zip", .ref S1.ad, .ref S2.ad], []⟩) (fun _ R s => S1.is s.heap xs ∧ S2.is s.heap ys ∧
      R (.ok (.ret (.ref (zH4 s.heap S1 S2).objs.size))) { s with heap := zH5 s.heap S1 S2 }) := by
  cases S1 <;> cases S2
  · exact meets_zipLL _ _ xs ys
  · exact meets_zipLT _ _ xs ys
  · exact meets_zipTL _ _ xs ys
  · exact meets_zipTT _ _ xs ys
theorem iter_new {S : Src} {h : Heap} {it : Addr} (e : h.get? it = some S.itO) : S.iter h it 0 := by
  cases S with
  | L a => exact ⟨_, e, rfl, rfl⟩
  | T a => exact ⟨_, e, rfl, rfl⟩
section
variable {prog : Program} {w : World} {A : Around} {E : Value → Shared → Prop} {s : Shared}
theorem call_zipS (S1 S2 : Src) {xs ys : Array Value} {Q : Value → Shared → Prop} (hl1 : S1.is s.heap xs) (hl2 : S2.is s.heap ys)
    (h : ∀ h', IsZip h' (s.heap.objs.size + 4) (s.heap.objs.size + 2) (s.heap.objs.size + 3) .none → IsTupOf2 h' (s.heap.objs.size + 2) (.ref s.heap.objs.size) (.ref (s.heap.objs.size + 1)) →
      IsTupOf2 h' (s.heap.objs.size + 3) .none .none → S1.iter h' s.heap.objs.size 0 → S2.iter h' (s.heap.objs.size + 1) 0 → h'.objs.size = s.heap.objs.size + 5 →
      (∀ c o, s.heap.get? c = some o → h'.get? c = some o) → Q (.ref (s.heap.objs.size + 4)) { s with heap := h' }) :
    wpAny (model prog w) A (call (.type "zip") [.ref S1.ad, .ref S2.ad]) Q E s := by
  refine callType_new F.called_zip (by decide) (F.typeCall_zip_2 _ _) (F.newCall_zip_2 _ _) (fun obj => F.args_object_init_3 obj _ _) F.entry_zip_new
    (meets_zipS_new S1 S2 xs ys) ⟨hl1, hl2, ?_⟩
  have z1 : (zH1 s.heap S1).objs.size = s.heap.objs.size + 1 := Heap.size_push ..
  have z2 : (zH2 s.heap S1 S2).objs.size = s.heap.objs.size + 2 := by rw [Heap.size_push, z1]
  have z3 : (zH3 s.heap S1 S2).objs.size = s.heap.objs.size + 3 := by rw [Heap.size_push, z2]
  have z4 : (zH4 s.heap S1 S2).objs.size = s.heap.objs.size + 4 := by rw [Heap.size_push, z3]
  have z5 : (zH5 s.heap S1 S2).objs.size = s.heap.objs.size + 5 := by rw [Heap.size_push, z4]
  have nf : ∀ S : Src, ∀ h : Heap, (h.push S.itO).get? h.objs.size = some S.itO := fun S h => by cases S <;> exact Heap.get?_push_size _ rfl
  have g5 : (zH5 s.heap S1 S2).get? (zH4 s.heap S1 S2).objs.size = some _ := Heap.get?_push_size _ rfl
  have g4 : (zH5 s.heap S1 S2).get? (zH3 s.heap S1 S2).objs.size = some _ := Heap.get?_push_of_some _ (Heap.get?_push_size _ rfl)
  have g3 : (zH5 s.heap S1 S2).get? (zH2 s.heap S1 S2).objs.size = some _ := Heap.get?_push_of_some _ (Heap.get?_push_of_some _ (Heap.get?_push_size _ rfl))
  have g2 : (zH5 s.heap S1 S2).get? (zH1 s.heap S1).objs.size = some S2.itO := Heap.get?_push_of_some _ (Heap.get?_push_of_some _ (Heap.get?_push_of_some _ (nf S2 _)))
  have g1 : (zH5 s.heap S1 S2).get? s.heap.objs.size = some S1.itO := Heap.get?_push_of_some _ (Heap.get?_push_of_some _ (Heap.get?_push_of_some _ (Heap.get?_push_of_some _ (nf S1 _))))
  show _ ∧ _
  rw [z2, z3, z4] at g5
  rw [z1, z2] at g3
  rw [z3] at g4
  rw [z1] at g2
  rw [z4]
  exact ⟨⟨_, g5, rfl⟩, h _ g5 g3 g4 (iter_new g1) (iter_new g2) z5 fun c o x =>
    Heap.get?_push_of_some _ (Heap.get?_push_of_some _ (Heap.get?_push_of_some _ (Heap.get?_push_of_some _ (Heap.get?_push_of_some _ x))))⟩
end
def ItzS (K : PySem.W.Frag) (S1 S2 : Src) : It :=
  ⟨fun i H => ∃ (xs ys : List V) (x y : V), S1.has K H xs ∧ S2.has K H ys ∧ xs[i]? = some x ∧ ys[i]? = some y,
    fun i H v H' => ∃ T x y, v = .ref T ∧ H T = none ∧ H' = upd H T (.tup [x, y]) ∧ (∀ xs, S1.has K H xs → xs[i]? = some x) ∧ ∀ ys, S2.has K H ys → ys[i]? = some y,
    fun i H => ∃ xs ys : List V, S1.has K H xs ∧ S2.has K H ys ∧ i ≤ xs.length ∧ i ≤ ys.length ∧ (xs.length = i ∨ ys.length = i)⟩
theorem small5 {c n m : Nat} (h : c = n + 4 ∨ c = n + 2 ∨ c = n + 3 ∨ c = n ∨ c = n + 1) (k : n + 4 < m) : c < m := by omega
theorem nne {a b : Nat} (h : a < b ∨ b < a) : a ≠ b := by omega
theorem nm2 {c a b : Nat} (h1 : c < a ∨ a < c) (h2 : c < b ∨ b < c) : c ∉ [a, b] := by
  intro m
  have : c = a ∨ c = b := by simpa using m
  omega
theorem sep2 {n a b : Nat} (la : a < n) (lb : b < n) : ZipSep2 (n + 4) (n + 2) (n + 3) n (n + 1) [n, a] [n + 1, b] :=
  ⟨nne (by omega), nne (by omega), nne (by omega), nne (by omega), by simp, nm2 (by omega) (by omega), nm2 (by omega) (by omega), nne (by omega), by simp, nm2 (by omega) (by omega), nm2 (by omega) (by omega), nm2 (by omega) (by omega), nm2 (by omega) (by omega)⟩
theorem turn_zipS {P : Program} {w : World} {K : PySem.W.Frag} {elts : List Expr} {kk : Nat} {tpos : Pos} (S1 S2 : Src) {n : Nat} (l1 : S1.ad < n) (l2 : S2.ad < n) :
    Turn P w K (.Tuple elts kk tpos) (ItzS K S1 S2) [n + 4, n + 2, n + 3, n, n + 1] (n + 4) (fun i h => IsZip h (n + 4) (n + 2) (n + 3) .none ∧ IsTupOf2 h (n + 2) (.ref n) (.ref (n + 1)) ∧ (∃ x y, IsTupOf2 h (n + 3) x y) ∧ S1.iter h n i ∧ S2.iter h (n + 1) i) where
  mem := by simp
  obj := fun i h st c hc => by
    obtain ⟨hz, hTI, ⟨x, y, hTO⟩, h1, h2⟩ := st
    have e' : c = n + 4 ∨ c = n + 2 ∨ c = n + 3 ∨ c = n ∨ c = n + 1 := by simpa using hc
    rcases e' with q | q | q | q | q
    · rw [q]; exact ⟨_, hz, fun v q => nomatch q⟩
    · rw [q]; exact ⟨_, hTI, fun v q => nomatch q⟩
    · rw [q]; exact ⟨_, hTO, fun v q => nomatch q⟩
    · rw [q]; exact Src.iter_obj h1
    · rw [q]; exact Src.iter_obj h2
  keep := fun i h h' st k => by
    obtain ⟨hz, hTI, ⟨x, y, hTO⟩, h1, h2⟩ := st
    exact ⟨k _ (by simp) _ hz, k _ (by simp) _ hTI, ⟨x, y, k _ (by simp) _ hTO⟩, Src.iter_at (S := S1) h1 fun o q => k _ (by simp) o q, Src.iter_at (S := S2) h2 fun o q => k _ (by simp) o q⟩
  item := by
    intro X hP hw hK hc i pins s σ H E I hf st hg
    subst hP hw hK
    obtain ⟨hz, hTI, ⟨x0, y0, hTO⟩, h1, h2⟩ := st
    obtain ⟨xs, ys, x, y, hqx, hqy, hx, hy⟩ := hg
    obtain ⟨its, rv, p, _⟩ := src_is I hqx
    obtain ⟨its2, rv2, p2, _⟩ := src_is I hqy
    obtain ⟨u, hu, ru⟩ := rv.get hx
    obtain ⟨u2, hu2, ru2⟩ := rv2.get hy
    have hzl : n + 4 < s.heap.objs.size := Heap.lt_size hz
    have lt1 : i < its.toArray.size := by have := (List.getElem?_eq_some_iff.mp hu).1; simpa using this
    have lt2 : i < its2.toArray.size := by have := (List.getElem?_eq_some_iff.mp hu2).1; simpa using this
    refine wpAny_pyNext_zipD2_item (sep2 l1 l2) (S1.draws (A := X.A.in1) (I.ok.hd hc) n (Nat.ne_of_lt l1) its.toArray) (S2.draws (A := X.A.in1) (I.ok.hd hc) (n + 1) (Nat.ne_of_lt (Nat.lt_succ_of_lt l2)) its2.toArray) hz hTI hTO ⟨h1, p⟩ ⟨h2, p2⟩ lt1 lt2
      fun v1 v2 h' tk e1 e2 z' TO' h1' h2' hT hsz hk => ?_
    have ev1 : v1 = u := Option.some.inj (e1.symm.trans (by simpa using hu))
    have ev2 : v2 = u2 := Option.some.inj (e2.symm.trans (by simpa using hu2))
    subst ev1 ev2
    refine ⟨_, rfl, wpAny_letOwnedTupleGo_zip (s := { s with heap := h', toks := tk }) z' fun h'' z'' sb => ?_⟩
    have hT2 : h''.get? s.heap.objs.size = some { cls := .type "tuple", data := .seq #[v1, v2] } := (sb.2 _ (Nat.ne_of_gt hzl)).trans hT
    have new : ObjOk X.prog X.w (upd H s.heap.objs.size (.tup [x, y])) h'' s.heap.objs.size (.tup [x, y]) :=
      ⟨by show 2 ≤ sizeLine; decide, [v1, v2], .cons ru (.cons ru2 .nil), ⟨_, hT2, rfl, _, rfl⟩⟩
    have I1 : Inv X pins σ (upd H s.heap.objs.size (.tup [x, y])) { s with heap := h'', toks := tk } :=
      I.turnedNew (ch := [n + 4, n + 2, n + 3, n, n + 1]) (fun c o hb q => (sb.2 c (fun q' => hb (by simp [q']))).trans (hk c o (fun q' => hb (by simp [q'])) (fun q' => hb (by simp [q'])) (fun q' => hb (by simp [q'])) (fun q' => hb (by simp [q'])) q)) hf (Nat.le_refl _) new
    have ne2 : n + 2 ≠ n + 4 := nne (by omega)
    have ne3 : n + 3 ≠ n + 4 := nne (by omega)
    have ne0 : n ≠ n + 4 := nne (by omega)
    have ne1 : n + 1 ≠ n + 4 := nne (by omega)
    refine ⟨.ref s.heap.objs.size, _, I1, rfl, ⟨_, x, y, rfl, I.hok.fresh (Nat.le_refl _), rfl, fun l hl => by rw [src_inj I hl hqx]; exact hx, fun l hl => by rw [src_inj I hl hqy]; exact hy⟩, ⟨z'', ?_, ⟨v1, v2, ?_⟩, ?_, ?_⟩, fun c hcm => ?_⟩
    · exact (sb.2 _ ne2).trans (hk _ _ ne2 (nne (by omega)) (nne (by omega)) (nne (by omega)) hTI)
    · exact (sb.2 _ ne3).trans TO'
    · exact Src.iter_at (S := S1) h1'.1 fun o q => (sb.2 _ ne0).trans q
    · exact Src.iter_at (S := S2) h2'.1 fun o q => (sb.2 _ ne1).trans q
    · have hlt : c < s.heap.objs.size := by
        have e' : c = n + 4 ∨ c = n + 2 ∨ c = n + 3 ∨ c = n ∨ c = n + 1 := by simpa using hcm
        exact small5 e' hzl
      rw [upd_ne (Nat.ne_of_lt hlt)]
      exact (hf c hcm).1
  done := by
    intro X hP hw hK hc i pins s σ H E I hf st hg
    subst hP hw hK
    obtain ⟨hz, hTI, ⟨x0, y0, hTO⟩, h1, h2⟩ := st
    obtain ⟨xs, ys, hqx, hqy, le1, le2, hend⟩ := hg
    obtain ⟨its, rv, p, _⟩ := src_is I hqx
    obtain ⟨its2, rv2, p2, _⟩ := src_is I hqy
    have m1 := rv.length
    have m2 := rv2.length
    exact wpAny_pyNext_zipD2_end (sep2 l1 l2) (S1.draws (A := X.A.in1) (I.ok.hd hc) n (Nat.ne_of_lt l1) its.toArray) (S2.draws (A := X.A.in1) (I.ok.hd hc) (n + 1) (Nat.ne_of_lt (Nat.lt_succ_of_lt l2)) its2.toArray) hz hTI hTO ⟨h1, p⟩ ⟨h2, p2⟩
      (by simp; omega) (by simp; omega) (by simp; omega) fun h' tk hk => ⟨rfl, I.turnedL (ch := [n + 4, n + 2, n + 3, n, n + 1]) (fun c o hb q =>
      hk c o (fun q' => hb (by simp [q'])) (fun q' => hb (by simp [q'])) (fun q' => hb (by simp [q'])) (fun q' => hb (by simp [q'])) q) hf⟩
  self := fun A i s Q E st h => wpAny_pyIter_zip st.1 h
def iZipS (K : PySem.W.Frag) (ta : TA) : TI := fun σ H R => ta σ H fun vs H1 => ∃ S1 S2 xs ys, vs = [.ref (Src.ad S1), .ref (Src.ad S2)] ∧ S1.has K H1 xs ∧ S2.has K H1 ys ∧ R (ItzS K S1 S2) H1
theorem pi_zipS {X : Cx} {e e2 : Expr} {ta : TA} {p pos tpos : Pos} {elts : List Expr} {kk : Nat} (hg : Gl X "zip") (hm : X.mg "zip" = none) (ha : PA X [e, e2] ta) (hs : noStar [e, e2] = true) :
    PI X (.Tuple elts kk tpos) (.Call (.Name "zip" p) [e, e2] [] pos) (iZipS X.K ta) := by
  refine ⟨fun pins s σ H R I h => ?_⟩
  refine Call_ (ld_blt I hg hm PyProof.Rows.boot_zip (PyProof.Rows.callWith_type1 (thn (ha.run pos pins s σ H _ I h) fun us s1 ⟨vs, H1, I1, r1, q1⟩ => ?_) (star_of hs) (plain_of (noStar_tail hs))))
  obtain ⟨S1, S2, xs, ys, ex, hqx, hqy, q⟩ := q1
  subst ex
  cases r1 with
  | cons r rr =>
    cases rr with
    | cons r' rr =>
      cases rr
      cases r
      cases r'
      obtain ⟨its, rv, p1, _⟩ := src_is I1 hqx
      obtain ⟨its2, rv2, p2, _⟩ := src_is I1 hqy
      have la := Src.is_lt p1
      have lb := Src.is_lt p2
      refine call_zipS S1 S2 p1 p2 fun h' hz hTI hTO h1 h2 hsz hk => wpAny_pyIter_zip hz ?_
      have I2 : Inv X pins σ H1 { s1 with heap := h' } := I1.kept (t' := s1.toks) hk
      refine ⟨s1.heap.objs.size + 4, [s1.heap.objs.size + 4, s1.heap.objs.size + 2, s1.heap.objs.size + 3, s1.heap.objs.size, s1.heap.objs.size + 1], _, _, H1, rfl, I2, turn_zipS S1 S2 la lb, ⟨hz, hTI, ⟨_, _, hTO⟩, h1, h2⟩, fun c hcm => ?_, q⟩
      have e' : c = s1.heap.objs.size + 4 ∨ c = s1.heap.objs.size + 2 ∨ c = s1.heap.objs.size + 3 ∨ c = s1.heap.objs.size ∨ c = s1.heap.objs.size + 1 := by simpa using hcm
      have hle : s1.heap.objs.size ≤ c := by
        rcases e' with z | z | z | z | z
        · rw [z]; exact Nat.le_add_right _ _
        · rw [z]; exact Nat.le_add_right _ _
        · rw [z]; exact Nat.le_add_right _ _
        · rw [z]; exact Nat.le_refl _
        · rw [z]; exact Nat.le_add_right _ _
      exact I1.fpOk hle (I1.hok.fresh hle)
/-! ### as walks -/
theorem walk_enumS {K : PySem.W.Frag} {S : Src} {xs : List V} : Walk (IteS K S) xs.length (fun H => S.has K H xs) (YPair (fun i => some (.int (i : Nat))) (fun i => xs[i]?)) := by
  refine ⟨fun i _ hi q => ⟨xs, xs[i], q, by simp [hi]⟩, fun _ q => ⟨xs, q, rfl⟩, fun i H v H' _ q y => ?_⟩
  obtain ⟨T, x, h1, h2, h3, h4⟩ := y
  exact ⟨T, .int (i : Nat), x, h1, h2, h3, rfl, h4 xs q⟩
theorem walk_zipS {K : PySem.W.Frag} {S1 S2 : Src} {xs ys : List V} {n : Nat} (hn : n = min xs.length ys.length) : Walk (ItzS K S1 S2) n (fun H => S1.has K H xs ∧ S2.has K H ys) (YPair (fun i => xs[i]?) (fun i => ys[i]?)) := by
  subst hn
  refine ⟨fun i _ hi q => ?_, fun _ q => ⟨xs, ys, q.1, q.2, by omega, by omega, by omega⟩, fun i H v H' _ q y => ?_⟩
  · have h1 : i < xs.length := by omega
    have h2 : i < ys.length := by omega
    exact ⟨xs, ys, xs[i], ys[i], q.1, q.2, by simp [h1], by simp [h2]⟩
  · obtain ⟨T, x, z, h1, h2, h3, h4, h5⟩ := y
    exact ⟨T, x, z, h1, h2, h3, h4 xs q.1, h5 ys q.2⟩
end Cw

end
section
/-! CwL: places, slices, targets, walks, comprehensions. -/
namespace Cw
open PySem L2 PyProof.Rows PySem.W
section
variable {F : Fx} {W : XW} {ck : Nat → List D → RH → Res D} {X : Cx} {a b : Expr} {xa xb : Ex} {pos : Pos}
theorem snd_idx (hK : F.K = X.K) (hs : plainI b = true) (ha : PE X a (tB F W ck xa)) (hb : PE X b (tB F W ck xb)) : PE X (.Subscript a b pos) (tS F W ck (.idx xa xb)) :=
  PE.by (pe_ix ix_seq ha hb (plainIx hs)) fun σV H Q ⟨A, ρ, al, σ, R, r, p⟩ => ⟨A, ρ, al, σ, R, r, Post.bind (Q1 := fun v H1 => tB F W ck xb σV H1 fun u H2 => rIx X.K v u H2 Q) (show Post F A al W σ σV ρ H ((ev ck xa σ R).bind fun x R => (ev ck xb σ R).bind fun y R => .of (idxD R x y) R) (RM F A al) Q from p)
    fun d R1 v H1 ρ1 r1 e1 q1 p1 => ⟨A, ρ1, al, σ, R1, r1, p1.bind fun d2 R2 u H2 ρ2 r2 e2 q2 p2 => by
      obtain ⟨d3, e3, p3⟩ := p2.of
      replace q1 := RT.ext q1 e2
      rw [← hK]
      unfold idxD at e3
      split at e3
      · obtain ⟨c, vs, rfl, h, t⟩ := q1.lst
        obtain ⟨w, e4, q4⟩ := RDs.atI t e3
        exact .inl ⟨c, vs, _, w, rfl, q2.int, .of h, e4, p3.here r2 q4⟩
      · obtain ⟨c, vs, rfl, h, t⟩ := q1.frz
        obtain ⟨w, e4, q4⟩ := RDs.atI t e3
        exact .inl ⟨c, vs, _, w, rfl, q2.int, h, e4, p3.here r2 q4⟩
      · obtain ⟨c, vs, rfl, h, t⟩ := q1.tup
        obtain ⟨w, e4, q4⟩ := RDs.atI t e3
        exact .inr (.inl ⟨c, vs, _, w, rfl, q2.int, h, e4, p3.here r2 q4⟩)
      · rename_i z i
        split at e3
        · rename_i hz
          cases e5 : atI z.cps.toList i with
          | none => rw [e5] at e3; cases e3
          | some c =>
            rw [e5] at e3
            cases e3
            exact .inr (.inr ⟨z, i, c, q1.str, q2.int, hz, e5, p3.here r2 (RD.str _)⟩)
        · cases e3
      · rename_i i j
        obtain ⟨c, rfl, h⟩ := q1.ref
        split at e3
        · rename_i xs e5
          obtain ⟨vs, h1, t⟩ := r2.rf _ _ _ h e5
          obtain ⟨w, e4, q4⟩ := RDs.atI t e3
          exact .inl ⟨c, vs, _, w, rfl, q2.int, .of h1, e4, p3.here r2 q4⟩
        · cases e3
      · cases e3⟩⟩
/-! slices -/
def tO (F : Fx) (W : XW) (ck : Nat → List D → RH → Res D) (x : Exo) : TO := fun σV H Q => ∃ A ρ al σ R, Rel F A ρ al σ R σV H ∧ Post F A al W σ σV ρ H (evo ck x σ R) (fun _ _ (v : Option Int) d => v = d) Q
theorem snd_noPart : PO X none (tO F W ck .no) := ⟨fun pins s σV H Q I ⟨A, ρ, al, σ, R, r, p⟩ => po_none.run pins s σV H Q I (p none H ρ r Ext.refl rfl)⟩
def intK : D → RH → Res (Option Int) := fun x R => match x with
    | .int i => .ok (some i) R
    | _ => .bad
theorem snd_part (ha : PE X a (tB F W ck xa)) : PO X (some a) (tO F W ck (.so xa)) := ⟨fun pins s σV H Q I ⟨A, ρ, al, σ, R, r, p⟩ => (po_some ha).run pins s σV H Q I ⟨A, ρ, al, σ, R, r, Post.bind (show Post F A al W σ σV ρ H ((ev ck xa σ R).bind intK) _ Q from p) fun d R1 v H1 ρ1 r1 e1 q1 p1 => by
  cases d <;> first | exact p1.elim | skip
  exact ⟨_, q1.int, p1 _ H1 ρ1 r1 Ext.refl rfl⟩⟩⟩
theorem cut_whole {α : Type} {xs : List α} {lo hi : Option Int} (h : HT.sIx xs.length 0 lo = 0 ∧ HT.sIx xs.length xs.length hi = xs.length) : cut xs lo hi = xs := by
  unfold cut
  rw [h.1, h.2]
  simp
theorem snd_slc (hK : F.K = X.K) {lo hi : Option Expr} {xl xh : Exo} {p2 : Pos} (ha : PE X a (tB F W ck xa)) (hl : PO X lo (tO F W ck xl)) (hh : PO X hi (tO F W ck xh)) : PE X (.Subscript a (.Slice lo hi none p2) pos) (tS F W ck (.slc xa xl xh)) :=
  PE.by (pe_slice (sl_list.or (sl_tupA.or sl_str)) ha hl hh) fun σV H Q ⟨A, ρ, al, σ, R, r, p⟩ => ⟨A, ρ, al, σ, R, r, Post.bind (show Post F A al W σ σV ρ H ((ev ck xa σ R).bind fun x R => (evo ck xl σ R).bind fun l R => (evo ck xh σ R).bind fun h R => .of (slcD x l h) R) (RM F A al) Q from p)
    fun d R1 v H1 ρ1 r1 e1 q1 p1 => ⟨A, ρ1, al, σ, R1, r1, p1.bind fun l R2 l' H2 ρ2 r2 e2 q2 p2 => ⟨A, ρ2, al, σ, R2, r2, p2.bind fun h R3 h' H3 ρ3 r3 e3 q3 p3 => by
      obtain ⟨d3, e4, p4⟩ := p3.of
      replace q1 := RT.ext (RT.ext q1 e2) e3
      subst q2 q3
      rw [← hK]
      unfold slcD at e4
      split at e4
      · cases e4
        obtain ⟨c, vs, rfl, h, t⟩ := q1.lst
        exact .inl ⟨c, vs, rfl, .of h, fun s hs => p4.new r3 hs (RM.lst r3 hs (RDs.cut _ _ t))⟩
      · cases e4
        obtain ⟨c, vs, rfl, h, t⟩ := q1.frz
        exact .inl ⟨c, vs, rfl, h, fun s hs => p4.new r3 hs (RM.lst r3 hs (RDs.cut _ _ t))⟩
      · cases e4
        obtain ⟨c, vs, rfl, h, t⟩ := q1.tup
        refine .inr (.inl ⟨c, vs, rfl, h, fun w => ?_, fun _ s hs => p4.new r3 hs (RM.tup r3 hs (RDs.cut _ _ t))⟩)
        rw [RMs.length t] at w
        rw [cut_whole w] at p4
        exact p4.here r3 q1.tupM
      · rename_i z
        split at e4
        · rename_i hz
          cases e4
          exact .inr (.inr ⟨z, q1.str, hz, p4.here r3 (RD.str _)⟩)
        · cases e4
      · cases e4⟩⟩⟩
theorem snd_rev (hK : F.K = X.K) {k : Nat} {p1 p2 p3 : Pos} (ha : PE X a (tB F W ck xa)) : PE X (.Subscript a (.Slice none none (some (.UnaryOp .USub (.Constant (.int 1) k p1) p2)) p3) pos) (tS F W ck (.rev xa)) :=
  PE.by (pe_revL ha) fun σV H Q ⟨A, ρ, al, σ, R, r, p⟩ => ⟨A, ρ, al, σ, R, r, Post.bind (show Post F A al W σ σV ρ H ((ev ck xa σ R).bind fun x R => .of (revD x) R) (RM F A al) Q from p) fun d R1 v H1 ρ1 r1 e1 q1 p1 => by
    obtain ⟨d3, e3, p3⟩ := p1.of
    rw [← hK]
    unfold revD at e3
    split at e3
    · cases e3
      obtain ⟨c, vs, rfl, h, t⟩ := q1.lst
      exact ⟨c, vs, rfl, .of h, fun s hs => p3.new r1 hs (RM.lst r1 hs (RDs.reverse t))⟩
    · cases e3⟩
end

/-! ### targets -/
theorem owns_set_mem {al : List (Option Addr)} {i : Nat} {a : Addr} (h : a ∈ owns (al.set i none)) : a ∈ owns al := by
  obtain ⟨j, hj⟩ := mem_owns.mp h
  refine mem_owns.mpr ⟨j, ?_⟩
  rw [List.getElem?_set] at hj
  split at hj
  · split at hj <;> cases hj
  · exact hj
theorem owns_set_sub : ∀ (al : List (Option Addr)) (i : Nat), (owns (al.set i none)).Sublist (owns al)
  | [], i => by simp [owns]
  | o :: l, 0 => by
    cases o with
    | none => exact List.Sublist.refl _
    | some a => exact List.sublist_cons_self _ _
  | o :: l, i + 1 => by
    have := owns_set_sub l i
    cases o with
    | none => exact this
    | some a => exact this.cons₂ a
theorem set_none_of {al : List (Option Addr)} {i : Nat} (h : al.getD i none = none) : al.set i none = al := by
  refine List.ext_getElem? fun j => ?_
  rw [List.getElem?_set]
  split
  · rename_i e
    subst e
    split
    · rename_i h2
      rw [List.getD_eq_getElem?_getD] at h
      rw [List.getElem?_eq_getElem h2] at h ⊢
      simp at h
      rw [h]
    · rename_i h2
      rw [List.getElem?_eq_none (Nat.le_of_not_lt h2)]
  · rfl
section
variable {F : Fx} {A : Act} {W : XW} {ρ : List Addr} {al al' : List (Option Addr)} {σ : List Sl} {R : RH} {σV : L2.St} {H : Hp}
theorem mask_less (h : ∀ a ∈ owns al', a ∈ owns al) : ∀ a o, mask H (OO A ρ al) a = some o → mask H (OO A ρ al') a = some o := fun a o q => by
  obtain ⟨q1, q2⟩ := mask_some q
  refine mask_mk (fun m => ?_) q1 (mask_nt q)
  rcases mem_OO.mp m with m | m | m
  · exact q2 (mem_OO.mpr (.inl m))
  · exact q2 (mem_OO.mpr (.inr (.inl m)))
  · exact q2 (mem_OO.mpr (.inr (.inr (h a m))))
theorem getD_set {α : Type} (l : List α) (i j : Nat) (x d : α) : (l.set i x).getD j d = if j = i ∧ i < l.length then x else l.getD j d := by
  rw [List.getD_eq_getElem?_getD, List.getD_eq_getElem?_getD, List.getElem?_set]
  by_cases h : i = j
  · subst h
    by_cases h2 : i < l.length
    · simp [h2]
    · simp [h2]
  · rw [if_neg h, if_neg (fun q => h q.1.symm)]
/-- a shared value comes to a slot -/
theorem Rel.setSh (r : Rel F A ρ al σ R σV H) {i : Nat} {v : V} {d : D} (hi : i < σV.length) (q : RM F A al ρ H v d) : Rel F A ρ (al.set i none) (sS σ i (.sh d)) R (σV.set i (some v)) H where
  ls := by rw [sS_length, List.length_set]; exact r.ls
  la := by rw [List.length_set, List.length_set]; exact r.la
  sl := fun j hj => by
    rw [List.length_set] at hj
    have k := mask_less (A := A) (ρ := ρ) (H := H) (fun a h => owns_set_mem (al := al) (i := i) h)
    rw [gS_set, getD_set, getD_set, r.ls, r.la]
    by_cases e : j = i
    · subst e
      rw [if_pos ⟨rfl, hi⟩, if_pos ⟨rfl, hi⟩, if_pos ⟨rfl, hi⟩]
      exact ⟨rfl, v, rfl, RD.mono ⟨[], by simp⟩ k q⟩
    · rw [if_neg fun z => e z.1, if_neg fun z => e z.1, if_neg fun z => e z.1]
      have z := r.sl j hj
      cases w : gS σ j with
      | no => rw [w] at z; exact z
      | lm => rw [w] at z; exact z
      | er c => rw [w] at z; exact z
      | sh d' =>
        rw [w] at z
        obtain ⟨z1, x, z2, z3⟩ := z
        exact ⟨z1, x, z2, z3.mono ⟨[], by simp⟩ k⟩
      | ow d' =>
        rw [w] at z
        obtain ⟨a, z1, z2, z3⟩ := z
        refine ⟨a, z1, z2, ?_⟩
        cases d' <;> first | exact False.elim z3 | (obtain ⟨vs, z4, z5⟩ := z3; exact ⟨vs, z4, z5.mono ⟨[], by simp⟩ k⟩)
  rl := r.rl
  rf := fun j a ds h1 h2 => by
    obtain ⟨vs, h3, h4⟩ := r.rf j a ds h1 h2
    exact ⟨vs, h3, h4.mono ⟨[], by simp⟩ (mask_less fun a h => owns_set_mem h)⟩
  nd := (List.Sublist.append_left (owns_set_sub al i) ρ).nodup r.nd
  pre := r.pre
  newO := fun a h => r.newO a (owns_set_mem h)
  newR := r.newR
  fr := r.fr
  frN := r.frN
  tb := r.tb
  cr := r.cr
  o0 := fun a h => ⟨(r.o0 a h).1, (r.o0 a h).2.1, fun m => (r.o0 a h).2.2 (owns_set_mem m)⟩
/-- a target's reading: what the slots are then -/
def gT (F : Fx) (tg : Tg) : TG := fun v σV H Q => ∃ A ρ al σ R d σ', Rel F A ρ al σ R σV H ∧ RM F A al ρ H v d ∧ setT tg d σ = some σ' ∧
  ∀ σV' al', Rel F A ρ al' σ' R σV' H → (∀ a ∈ owns al', a ∈ owns al) → ((∀ i ∈ tgs tg, al.getD i none = none) → al' = al) → σV'.length = σV.length → (∀ j, j ∉ tgs tg → σV'[j]? = σV[j]?) → Q σV' H
def gTs (F : Fx) (ts : Tgs) : TGs := fun vs σV H Q => ∃ A ρ al σ R ds σ', Rel F A ρ al σ R σV H ∧ RMs F A al ρ H vs ds ∧ setTs ts ds σ = some σ' ∧
  ∀ σV' al', Rel F A ρ al' σ' R σV' H → (∀ a ∈ owns al', a ∈ owns al) → ((∀ i ∈ tgss ts, al.getD i none = none) → al' = al) → σV'.length = σV.length → (∀ j, j ∉ tgss ts → σV'[j]? = σV[j]?) → Q σV' H
end
theorem PG.by {X : Cx} {e : Expr} {t t' : TG} (h : PG X e t) (i : ∀ v σ H Q, t' v σ H Q → t v σ H Q) : PG X e t' := ⟨fun pins s σ H v u Q I r q => h.run pins s σ H v u Q I r (i v σ H Q q)⟩
theorem PGs.by {X : Cx} {e : List Expr} {t t' : TGs} (h : PGs X e t) (i : ∀ v σ H Q, t' v σ H Q → t v σ H Q) : PGs X e t' := ⟨fun pins s σ H v u Q I r q => h.run pins s σ H v u Q I r (i v σ H Q q)⟩
section
variable {F : Fx} {X : Cx} {e : Expr} {es : List Expr} {pos : Pos}
theorem asg_cons {env : Env} {e : Expr} {es : List Expr} (h : isStar e = false) : assignEach (e :: es) env = (false, assign e env) :: assignEach es env := by
  cases e <;> first | rfl | cases h
theorem asg_of {env : Env} : ∀ {es : List Expr}, noStar es = true → (assignEach es env).length = es.length ∧ (assignEach es env).findIdx? (·.1) = none
  | [], _ => ⟨rfl, rfl⟩
  | e :: es, h => by
    simp only [noStar, List.all_cons, Bool.and_eq_true, Bool.not_eq_true'] at h
    obtain ⟨h1, h2⟩ := asg_of (env := env) (es := es) (by simpa [noStar] using h.2)
    rw [asg_cons h.1]
    refine ⟨congrArg (· + 1) h1, ?_⟩
    rw [List.findIdx?_cons]
    simp [h2]
theorem snd_nm {i : Nat} {x : Str} (hN : X.N.Nodup) (hi : X.N[i]? = some x) (hx : Loc X.env.scope x) (hf : X.fn x = true ∨ X.env.scope.names.lookup x = some .local) : PG X (.Name x pos) (gT F (.nm i)) :=
  ⟨fun pins s σV H v u Q I rv ⟨A, ρ, al, σ, R, d, σ', r, q, e, k⟩ => (pg_name (i := i) hN hi hx hf).run pins s σV H v u Q I rv (by
    simp only [setT] at e
    cases e
    have hl : i < σV.length := by rw [I.len]; exact (List.getElem?_eq_some_iff.mp hi).1
    refine k _ _ (r.setSh hl q) (fun a h => owns_set_mem h) (fun h => set_none_of (h i (by simp [tgs]))) (List.length_set ..) fun j hj => ?_
    rw [List.getElem?_set_ne]
    intro z
    exact hj (by simp [tgs, z]))⟩
theorem snd_tgNil : PGs X [] (gTs F .nil) := PGs.by pgs_nil fun vs σV H Q ⟨A, ρ, al, σ, R, ds, σ', r, q, e, k⟩ => by
  cases ds with
  | nil =>
    cases q
    simp only [setTs] at e
    cases e
    exact ⟨rfl, k σV al r (fun _ h => h) (fun _ => rfl) rfl fun _ _ => rfl⟩
  | cons d ds => simp [setTs] at e
theorem snd_tgCons {t : Tg} {ts : Tgs} (hs : isStar e = false) (h1 : PG X e (gT F t)) (h2 : PGs X es (gTs F ts)) : PGs X (e :: es) (gTs F (.cons t ts)) :=
  PGs.by (pgs_cons h1 h2 (by rw [asg_cons hs]; rfl)) fun vs σV H Q ⟨A, ρ, al, σ, R, ds, σ', r, q, e, k⟩ => by
    cases ds with
    | nil => simp [setTs] at e
    | cons d ds =>
      cases q with
      | cons q qs =>
        simp only [setTs] at e
        cases z : setT t d σ with
        | none => rw [z] at e; cases e
        | some σ1 =>
          rw [z] at e
          refine ⟨_, _, rfl, A, ρ, al, σ, R, d, σ1, r, q, z, fun σV1 al1 r1 m1 n1 l1 o1 => ⟨A, ρ, al1, σ1, R, ds, σ', r1, RDs.mono ⟨[], by simp⟩ (mask_less m1) qs, e, fun σV2 al2 r2 m2 n2 l2 o2 => ?_⟩⟩
          refine k σV2 al2 r2 (fun a h => m1 a (m2 a h)) (fun h => ?_) (l2.trans l1) fun j hj => ?_
          · have e1 : al1 = al := n1 fun i hi => h i (by simp only [tgss, List.mem_append]; exact .inl hi)
            rw [← e1]
            exact n2 fun i hi => by rw [e1]; exact h i (by simp only [tgss, List.mem_append]; exact .inr hi)
          · simp only [tgss, List.mem_append, not_or] at hj
            rw [o2 j hj.2, o1 j hj.1]
theorem snd_tp {ts : Tgs} {k : Nat} (hK : F.K = X.K) (hc : X.calm = true) (hs : noStar es = true) (hl : ∀ ds σ σ', setTs ts ds σ = some σ' → ds.length = es.length) (h : PGs X es (gTs F ts)) : PG X (.Tuple es k pos) (gT F (.tp ts)) :=
  PG.by (pg_tup hc h (asg_of hs).1 (asg_of hs).2) fun v σV H Q ⟨A, ρ, al, σ, R, d, σ', r, q, e, k⟩ => by
    cases d <;> first | (simp [setT] at e; done) | skip
    rename_i ds
    simp only [setT] at e
    obtain ⟨a, vs, rfl, h1, t⟩ := RT.tup (RM.rt q)
    exact ⟨a, vs, rfl, SqT.toK hK h1, by rw [RMs.length t]; exact hl _ _ _ e, A, ρ, al, σ, R, ds, σ', r, t, e, k⟩
end
end Cw

end
section
/-! CwM: walks, comprehensions. -/
namespace Cw
open PySem L2 PyProof.Rows PySem.W
/-- what a walk gives at a turn: a value, or a new pair -/
inductive Item where | one (v : V) | two (v u : V)
inductive ItR (F : Fx) (A : Act) (al : List (Option Addr)) (ρ : List Addr) (H : Hp) : Item → D → Prop
  | one {v : V} {d : D} : RM F A al ρ H v d → ItR F A al ρ H (.one v) d
  | two {v u : V} {d e : D} : RM F A al ρ H v d → RM F A al ρ H u e → ItR F A al ρ H (.two v u) (.tup [d, e])
def YI (its : List Item) : Nat → Hp → V → Hp → Prop := fun i H x H' => match its[i]? with
  | some (.one v) => H' = H ∧ x = v
  | some (.two v u) => ∃ T, x = .ref T ∧ H T = none ∧ H' = upd H T (.tup [v, u])
  | none => False
/-- a source stands: kept, or (st false) an own list that nobody changes meanwhile -/
def SrcOk (F : Fx) (A : Act) (al : List (Option Addr)) (st : Bool) (ρ : List Addr) (H : Hp) (S : Src) (vs : List V) : Prop := S.has F.K (mask H (OO A ρ al)) vs ∨ (st = false ∧ ∃ a, S = .L a ∧ a ∉ ρ ∧ H a = some (.lst vs))
def GS (K : PySem.W.Frag) (gs : List (Src × List V)) : Hp → Prop := fun H' => ∀ p ∈ gs, Src.has K H' p.1 p.2
def WD (F : Fx) (A : Act) (al : List (Option Addr)) (st : Bool) : List Addr → Hp → It → List D → Prop := fun ρ H J ds => ∃ its gs, All2 (ItR F A al ρ H) its ds ∧ (∀ p ∈ gs, SrcOk F A al st ρ H p.1 p.2) ∧ its.length ≤ sizeLine ∧
  Walk J its.length (GS F.K gs) (YI its)
theorem All2.length {α β : Type} {P : α → β → Prop} : ∀ {l : List α} {m : List β}, All2 P l m → l.length = m.length
  | _, _, .nil => rfl
  | _, _, .cons _ t => congrArg (· + 1) (All2.length t)
theorem All2.get {α β : Type} {P : α → β → Prop} : ∀ {l : List α} {m : List β} {i : Nat} {a : α}, All2 P l m → l[i]? = some a → ∃ b, m[i]? = some b ∧ P a b
  | _, _, _, _, .nil, h => by simp at h
  | _, _, 0, _, .cons p t, h => by simp at h; subst h; exact ⟨_, rfl, p⟩
  | _, _, i + 1, _, .cons p t, h => by
    obtain ⟨a, h1, h2⟩ := All2.get (i := i) t (by simpa using h)
    exact ⟨a, by simpa using h1, h2⟩
section
variable (ck : Nat → List D → RH → Res D)
def evX (st : Bool) (x : Ex) (σ : List Sl) (R : RH) : Res D := if st = true then stx x σ (ev ck x σ R) else ev ck x σ R
/-- what is walked; st: it is kept meanwhile -/
def evis (st : Bool) : Itr → List Sl → RH → Res (List D)
  | .ex e, σ, R => (evX ck st e σ R).bind fun x R => .of (itmD x) R
  | .rng a, σ, R => (ev ck a σ R).bind fun x R => .of (rngD x) R
  | .rng2 a b, σ, R => (ev ck a σ R).bind fun x R => (ev ck b σ R).bind fun y R => .of (rngD2 x y) R
  | .rng3 a b c, σ, R => (ev ck a σ R).bind fun x R => (ev ck b σ R).bind fun y R => (ev ck c σ R).bind fun z R => .of (rngD3 x y z) R
  | .enu e, σ, R => (evX ck st e σ R).bind fun x R => .of ((itmD x).map (enuL 0)) R
  | .zip a b, σ, R => (evX ck st a σ R).bind fun x R => (evX ck st b σ R).bind fun y R => match itmD x, itmD y with
    | some l, some m => .ok (zipL l m) R
    | _, _ => .bad
theorem evis_false (it : Itr) (σ : List Sl) (R : RH) : evis ck false it σ R = evi ck it σ R := by cases it <;> rfl
end
def RX (st : Bool) (F : Fx) (A : Act) (al : List (Option Addr)) : List Addr → Hp → V → D → Prop := fun ρ H v d => if st = true then RM F A al ρ H v d else RT F A al ρ H v d
def tX (F : Fx) (W : XW) (ck : Nat → List D → RH → Res D) (st : Bool) (x : Ex) : TE := fun σV H Q => ∃ A ρ al σ R, Rel F A ρ al σ R σV H ∧ Post F A al W σ σV ρ H (evX ck st x σ R) (RX st F A al) Q
def tI (F : Fx) (W : XW) (ck : Nat → List D → RH → Res D) (st : Bool) (it : Itr) : TI := fun σV H Rr => ∃ A ρ al σ R, Rel F A ρ al σ R σV H ∧ Post F A al W σ σV ρ H (evis ck st it σ R) (WD F A al st) Rr
theorem PI.by {X : Cx} {tg e : Expr} {t t' : TI} (h : PI X tg e t) (i : ∀ σ H Q, t' σ H Q → t σ H Q) : PI X tg e t' := ⟨fun pins s σ H R I q => h.run pins s σ H R I (i σ H R q)⟩
theorem PI.or {X : Cx} {tg e : Expr} {t t' : TI} (h : PI X tg e t) (h' : PI X tg e t') : PI X tg e (fun σ H R => t σ H R ∨ t' σ H R) := ⟨fun pins s σ H R I q => q.elim (h.run pins s σ H R I) (h'.run pins s σ H R I)⟩
/-- what every state says of lengths -/
def Sz (K : PySem.W.Frag) (H : Hp) : Prop := ∀ (S : Src) (xs : List V), S.has K H xs → xs.length ≤ sizeLine
theorem Inv.sz' {X : Cx} {pins : List (Addr × Obj)} {σ : L2.St} {H : Hp} {s : Shared} (I : L2.Inv X pins σ H s) : Sz X.K H := fun S xs h => let ⟨_, _, _, z⟩ := src_is I h; z
theorem PE.sz {X : Cx} {e : Expr} {t : TE} (h : PE X e t) : PE X e (fun σ H Q => t σ H fun v H' => Sz X.K H' → Q v H') := ⟨fun pins s σ H Q I q => thn (h.run pins s σ H _ I q) fun u s1 ⟨v, H', I', r, z⟩ => ⟨v, H', I', r, z (Inv.sz' I')⟩⟩
theorem PA.sz {X : Cx} {e : List Expr} {t : TA} (h : PA X e t) : PA X e (fun σ H Q => t σ H fun v H' => Sz X.K H' → Q v H') := ⟨fun pos pins s σ H Q I q => thn (h.run pos pins s σ H _ I q) fun u s1 ⟨v, H', I', r, z⟩ => ⟨v, H', I', r, z (Inv.sz' I')⟩⟩
section
variable {F : Fx} {A : Act} {al : List (Option Addr)} {W : XW} {σ : List Sl} {σV : L2.St} {ρ ρ1 : List Addr} {H H1 : Hp} {R : RH} {st : Bool}
theorem RX.ext {v : V} {d : D} (h : RX st F A al ρ H v d) (e : Ext ρ H ρ1 H1) : RX st F A al ρ1 H1 v d := by
  unfold RX at h ⊢
  cases st with
  | true => rw [if_pos rfl] at h ⊢; exact RM.ext h e
  | false => rw [if_neg Bool.false_ne_true] at h ⊢; exact RT.ext h e
theorem all_one {vs : List V} {ds : List D} (h : RMs F A al ρ H vs ds) : All2 (ItR F A al ρ H) (vs.map Item.one) ds := by
  have : ∀ {vs : List V} {ds : List D}, RDs F ρ (mask H (OO A ρ al)) vs ds → All2 (ItR F A al ρ H) (vs.map Item.one) ds := by
    intro vs ds h
    induction ds generalizing vs with
    | nil => cases h; exact .nil
    | cons d ds ih =>
      cases h with
      | cons a t => exact .cons (.one a) (ih t)
  exact this h
theorem all_enu : ∀ {vs : List V} {ds : List D} (k : Nat), RDs F ρ (mask H (OO A ρ al)) vs ds → All2 (ItR F A al ρ H) ((List.range' k vs.length).zipWith (fun i v => Item.two (.int (i : Nat)) v) vs) (enuL k ds)
  | _, _, k, .nil => .nil
  | _, _, k, .cons (vs := vs) h t => by
    rw [List.length_cons, List.range'_succ, List.zipWith_cons_cons]
    exact .cons (.two (RD.int _) h) (all_enu (k + 1) t)
theorem all_zip : ∀ {vs us : List V} {ds es : List D}, RDs F ρ (mask H (OO A ρ al)) vs ds → RDs F ρ (mask H (OO A ρ al)) us es → All2 (ItR F A al ρ H) (vs.zipWith Item.two us) (zipL ds es)
  | _, _, _, _, .nil, _ => .nil
  | _, _, _, _, .cons _ _, .nil => .nil
  | _, _, _, _, .cons a t, .cons b u => .cons (.two a b) (all_zip t u)
theorem walk_one {J : It} {G : Hp → Prop} {vs : List V} (w : Walk J vs.length G (YAt vs)) : Walk J (vs.map Item.one).length G (YI (vs.map Item.one)) := by
  rw [List.length_map]
  refine ⟨w.goes, w.stops, fun i H x H' hi g y => ?_⟩
  obtain ⟨e, z⟩ := w.yields i H x H' hi g y
  unfold YI
  rw [List.getElem?_map, z]
  exact ⟨e, rfl⟩
theorem walk_two {J : It} {n : Nat} {G : Hp → Prop} {f g : Nat → Option V} {its : List Item} (w : Walk J n G (YPair f g)) (hn : its.length = n) (h : ∀ i x y, f i = some x → g i = some y → i < n → its[i]? = some (.two x y)) : Walk J its.length G (YI its) := by
  rw [hn]
  refine ⟨w.goes, w.stops, fun i H x H' hi gg y => ?_⟩
  obtain ⟨T, a, b, h1, h2, h3, h4, h5⟩ := w.yields i H x H' hi gg y
  unfold YI
  rw [h i a b h4 h5 hi]
  exact ⟨T, h1, h2, h3⟩
theorem SrcOk.has {S : Src} {vs : List V} (h : SrcOk F A al st ρ H S vs) : S.has F.K H vs := by
  rcases h with h | ⟨_, a, rfl, _, h⟩
  · cases S with
    | L a => exact sqL_of h
    | T a => exact sqT_of h
  · exact .of h
theorem SrcOk.ext {S : Src} {vs : List V} (h : SrcOk F A al st ρ H S vs) (e : Ext ρ H ρ1 H1) : SrcOk F A al st ρ1 H1 S vs := by
  rcases h with h | ⟨z, a, rfl, n, h⟩
  · refine .inl ?_
    cases S with
    | L a => exact sqL_mono e.mask h
    | T a => exact sqT_mono e.mask h
  · exact .inr ⟨z, a, rfl, fun m => (by have q := e.new a m n; rw [h] at q; exact absurd q (by simp)), e.keep a _ h n (fun _ z => by cases z)⟩
/-- the source's own reading -/
theorem RX.src {v : V} {d : D} {ds : List D} (q : RX st F A al ρ H v d) (e : itmD d = some ds) : ∃ S vs, v = .ref (Src.ad S) ∧ SrcOk F A al st ρ H S vs ∧ RMs F A al ρ H vs ds := by
  unfold RX at q
  cases st with
  | true =>
    rw [if_pos rfl] at q
    cases d <;> first | (cases e; done) | skip
    · cases e
      cases q with
      | tup h t => exact ⟨.T _, _, rfl, .inl h, t⟩
    · cases e
      cases q with
      | lst h t => exact ⟨.L _, _, rfl, .inl (.of h), t⟩
    · cases e
      cases q with
      | frz h t => exact ⟨.L _, _, rfl, .inl h, t⟩
  | false =>
    rw [if_neg Bool.false_ne_true] at q
    cases d <;> first | (cases e; done) | skip
    · cases e
      have q := q.tupM
      cases q with
      | tup h t => exact ⟨.T _, _, rfl, .inl h, t⟩
    · cases e
      rcases q with q | ⟨a, rfl, n, vs, h, t⟩
      · cases q with
        | lst h t => exact ⟨.L _, _, rfl, .inl (.of h), t⟩
      · exact ⟨.L a, vs, rfl, .inr ⟨rfl, a, rfl, n, h⟩, t⟩
    · cases e
      rcases q with q | ⟨a, rfl, n, h⟩
      · cases q with
        | frz h t => exact ⟨.L _, _, rfl, .inl h, t⟩
      · exact h.elim
end

/-! ### an iterated value -/
section
variable {F : Fx} {W : XW} {ck : Nat → List D → RH → Res D} {X : Cx} {tg a b : Expr} {xa xb : Ex} {p pos : Pos} {st : Bool}
theorem tX_of (hB : PE X a (tB F W ck xa)) (hS : PE X a (tS F W ck xa)) : PE X a (tX F W ck st xa) := by
  cases st with
  | true => exact PE.by hS fun σV H Q h => h
  | false => exact PE.by hB fun σV H Q h => h
def iSrc (K : PySem.W.Frag) (tl : TE) : TI := fun σ H R => tl σ H fun x H1 => ∃ S xs, x = .ref (Src.ad S) ∧ S.has K H1 xs ∧ R (match S with | .L a => Itl K a | .T a => Itt K a) H1
theorem pi_src {l : Expr} {tl : TE} (hl : PE X l tl) : PI X tg l (iSrc X.K tl) := by
  refine ⟨fun pins s σ H R I h => ?_⟩
  refine thn (hl.run pins s σ H _ I h) fun v s1 ⟨x, H1, I1, r1, S, xs, e, hS, q⟩ => ?_
  subst e
  cases S with
  | L a =>
    cases r1
    obtain ⟨its, rv, p, hz⟩ := I1.list hS
    refine wpAny_pyIter_list p.isList ?_
    refine ⟨s1.heap.objs.size, [s1.heap.objs.size], _, _, H1, rfl, I1.kept (t' := s1.toks) fun b o e => Heap.get?_push_of_some _ e, turn_list a _, ⟨_, Heap.get?_push_size _ rfl, rfl, rfl⟩, fun b hb => ?_, q⟩
    have e : b = s1.heap.objs.size := by simpa using hb
    subst e
    exact I1.fpOk (Nat.le_refl _) (I1.hok.fresh (Nat.le_refl _))
  | T a =>
    cases r1
    obtain ⟨its, rv, p, hz⟩ := I1.tuple hS
    refine wpAny_pyIter_tuple (show s1.heap.IsTuple a its.toArray from p) ?_
    refine ⟨s1.heap.objs.size, [s1.heap.objs.size], _, _, H1, rfl, I1.kept (t' := s1.toks) fun b o e => Heap.get?_push_of_some _ e, turn_tuple a _, ⟨_, Heap.get?_push_size _ rfl, rfl, rfl⟩, fun b hb => ?_, q⟩
    have e : b = s1.heap.objs.size := by simpa using hb
    subst e
    exact I1.fpOk (Nat.le_refl _) (I1.hok.fresh (Nat.le_refl _))
theorem gs_one {K : PySem.W.Frag} {S : Src} {vs : List V} {H : Hp} : GS K [(S, vs)] H ↔ S.has K H vs := ⟨fun h => h _ (List.mem_singleton.mpr rfl), fun h p hp => by rw [List.mem_singleton.mp hp]; exact h⟩
theorem walk_src {K : PySem.W.Frag} {S : Src} {vs : List V} : Walk (match S with | .L a => Itl K a | .T a => Itt K a) vs.length (GS K [(S, vs)]) (YAt vs) := by
  cases S with
  | L a => exact walk_list.mono (fun H h => gs_one.mp h) fun _ _ _ _ _ _ y => y
  | T a => exact walk_tup.mono (fun H h => gs_one.mp h) fun _ _ _ _ _ _ y => y
theorem snd_itEx (hK : F.K = X.K) (h : PE X a (tX F W ck st xa)) : PI X tg a (tI F W ck st (.ex xa)) :=
  PI.by (pi_src (PE.sz h)) fun σV H Rr ⟨A, ρ, al, σ, R, r, p⟩ => ⟨A, ρ, al, σ, R, r, Post.bind (show Post F A al W σ σV ρ H ((evX ck st xa σ R).bind fun x R => .of (itmD x) R) (WD F A al st) Rr from p) fun d R1 v H1 ρ1 r1 e1 q1 p1 sz => by
    obtain ⟨ds, e2, p2⟩ := p1.of
    obtain ⟨S, vs, rfl, s1, t1⟩ := RX.src q1 e2
    have hs := s1.has
    rw [hK] at hs
    refine ⟨S, vs, rfl, hs, p2.here r1 ⟨vs.map Item.one, [(S, vs)], all_one t1, fun p hp => ?_, ?_, ?_⟩⟩
    · rw [List.mem_singleton.mp hp]; exact s1
    · rw [List.length_map]; exact sz S vs hs
    · rw [hK]; exact walk_one walk_src⟩
theorem all_rng (a : Int) (n : Nat) {A : Act} {al : List (Option Addr)} {ρ : List Addr} {H : Hp} : All2 (ItR F A al ρ H) ((List.range n).map fun i => Item.one (.int (a + (i : Nat)))) (rngI a n) := by
  rw [rngI_eq]
  generalize List.range n = l
  induction l with
  | nil => exact .nil
  | cons i l ih => exact .cons (.one (RD.int _)) ih
theorem walk_rng {a : Int} {n : Nat} {K : PySem.W.Frag} : Walk (L2.Itr a n) ((List.range n).map fun i => Item.one (.int (a + (i : Nat)))).length (GS K []) (YI ((List.range n).map fun i => Item.one (.int (a + (i : Nat))))) := by
  rw [List.length_map, List.length_range]
  refine ⟨fun _ _ hi _ => hi, fun _ _ => Nat.le_refl _, fun i H x H' hi _ y => ?_⟩
  unfold YI
  rw [List.getElem?_map, List.getElem?_range hi]
  exact y
theorem snd_itRng1 (hg : Gl X "range") (hm : X.mg "range" = none) (hs : isStar a = false) (h : PE X a (tB F W ck xa)) : PI X tg (.Call (.Name "range" p) [a] [] pos) (tI F W ck st (.rng xa)) :=
  PI.by (pi_range1 hg hm (pa_cons h pa_nil (star_cons hs)) (star_cons hs)) fun σV H Rr ⟨A, ρ, al, σ, R, r, p⟩ => ⟨A, ρ, al, σ, R, r, Post.bind (show Post F A al W σ σV ρ H ((ev ck xa σ R).bind fun x R => .of (rngD x) R) (WD F A al st) Rr from p) fun d R1 v H1 ρ1 r1 e1 q1 p1 => by
    obtain ⟨l, e2, p2⟩ := p1.of
    have hz : (sizeLine : Int) = 16777216 := by decide
    cases d <;> (try (simp [rngD] at e2; done))
    rename_i n
    simp only [rngD] at e2
    split at e2
    · rename_i h
      simp only [Bool.and_eq_true, decide_eq_true_eq] at h
      cases e2
      refine ⟨n, by rw [q1.int], h.1, by omega, p2.here r1 ⟨_, [], all_rng 0 n.toNat, fun p hp => (nomatch hp), ?_, walk_rng⟩⟩
      rw [List.length_map, List.length_range]
      omega
    · cases e2⟩
theorem snd_itRng2 (hg : Gl X "range") (hm : X.mg "range" = none) (hs : noStar [a, b] = true) (ha : PE X a (tB F W ck xa)) (hb : PE X b (tB F W ck xb)) : PI X tg (.Call (.Name "range" p) [a, b] [] pos) (tI F W ck st (.rng2 xa xb)) :=
  PI.by (pi_range2 hg hm (pa_cons ha (pa_cons hb pa_nil (star_of (noStar_tail hs))) (star_of hs)) ((star_of hs).trans (by rw [star_of (noStar_tail hs)]; rfl)) (star_of (noStar_tail hs))) fun σV H Rr ⟨A, ρ, al, σ, R, r, p⟩ => ⟨A, ρ, al, σ, R, r, Post.bind (show Post F A al W σ σV ρ H ((ev ck xa σ R).bind fun x R => (ev ck xb σ R).bind fun y R => .of (rngD2 x y) R) (WD F A al st) Rr from p) fun d R1 v H1 ρ1 r1 e1 q1 p1 => ⟨A, ρ1, al, σ, R1, r1, p1.bind fun d' R2 v2 H2 ρ2 r2 e2' q2 p2 => by
    obtain ⟨l, e2, p3⟩ := p2.of
    have hz : (sizeLine : Int) = 16777216 := by decide
    cases d <;> (try (simp [rngD2] at e2; done))
    cases d' <;> (try (simp [rngD2] at e2; done))
    rename_i n m
    simp only [rngD2] at e2
    split at e2
    · rename_i h
      simp only [Bool.and_eq_true, decide_eq_true_eq] at h
      cases e2
      refine ⟨n, m, by rw [q1.int, q2.int], ⟨by omega, by omega, by omega, by omega⟩, p3.here r2 ⟨_, [], all_rng n (m - n).toNat, fun p hp => (nomatch hp), ?_, walk_rng⟩⟩
      rw [List.length_map, List.length_range]
      omega
    · cases e2⟩⟩
theorem rngJ_eq : ∀ (n : Nat) (a : Int), rngJ a n = (List.range n).map fun i => D.int (a + (i : Nat) * (-1))
  | 0, _ => rfl
  | n + 1, a => by
    rw [rngJ, rngJ_eq n (a - 1), List.range_succ_eq_map, List.map_cons, List.map_map]
    congr 1
    · simp
    · refine List.map_congr_left fun i _ => ?_
      simp only [Function.comp, D.int.injEq]
      omega
theorem all_rngJ (a : Int) (n : Nat) {A : Act} {al : List (Option Addr)} {ρ : List Addr} {H : Hp} : All2 (ItR F A al ρ H) ((List.range n).map fun i => Item.one (.int (a + (i : Nat) * (-1)))) (rngJ a n) := by
  rw [rngJ_eq]
  generalize List.range n = l
  induction l with
  | nil => exact .nil
  | cons i l ih => exact .cons (.one (RD.int _)) ih
theorem walk_rngJ {a : Int} {n : Nat} {K : PySem.W.Frag} : Walk (L2.Itc a (-1) n) ((List.range n).map fun i => Item.one (.int (a + (i : Nat) * (-1)))).length (GS K []) (YI ((List.range n).map fun i => Item.one (.int (a + (i : Nat) * (-1))))) := by
  rw [List.length_map, List.length_range]
  refine ⟨fun _ _ hi _ => hi, fun _ _ => Nat.le_refl _, fun i H x H' hi _ y => ?_⟩
  unfold YI
  rw [List.getElem?_map, List.getElem?_range hi]
  exact y
theorem snd_itRng3 {c : Expr} {xc : Ex} (hg : Gl X "range") (hm : X.mg "range" = none) (hs : noStar [a, b, c] = true) (ha : PE X a (tB F W ck xa)) (hb : PE X b (tB F W ck xb)) (hc : PE X c (tB F W ck xc)) : PI X tg (.Call (.Name "range" p) [a, b, c] [] pos) (tI F W ck st (.rng3 xa xb xc)) :=
  PI.by (pi_range3 hg hm (pa_cons ha (pa_cons hb (pa_cons hc pa_nil (star_of (noStar_tail (noStar_tail hs)))) (star_of (noStar_tail hs))) (star_of hs)) (star_of hs) (by rw [star_of (noStar_tail hs), star_of (noStar_tail (noStar_tail hs))]; rfl)) fun σV H Rr ⟨A, ρ, al, σ, R, r, p⟩ => ⟨A, ρ, al, σ, R, r, Post.bind (show Post F A al W σ σV ρ H ((ev ck xa σ R).bind fun x R => (ev ck xb σ R).bind fun y R => (ev ck xc σ R).bind fun z R => .of (rngD3 x y z) R) (WD F A al st) Rr from p) fun d R1 v H1 ρ1 r1 e1 q1 p1 => ⟨A, ρ1, al, σ, R1, r1, p1.bind fun d' R2 v2 H2 ρ2 r2 e2' q2 p2 => ⟨A, ρ2, al, σ, R2, r2, p2.bind fun d'' R3 v3 H3 ρ3 r3 e3' q3 p3 => by
    obtain ⟨l, e2, p4⟩ := p3.of
    have hz : (sizeLine : Int) = 16777216 := by decide
    cases d <;> (try (simp [rngD3] at e2; done))
    cases d' <;> (try (simp [rngD3] at e2; done))
    cases d'' <;> (try (simp [rngD3] at e2; done))
    rename_i n m c
    simp only [rngD3] at e2
    split at e2
    · rename_i h
      simp only [Bool.and_eq_true, decide_eq_true_eq] at h
      obtain ⟨⟨⟨⟨⟨h0, h1⟩, h2⟩, h3⟩, h4⟩, h5⟩ := h
      subst h0
      cases e2
      refine ⟨n, m, -1, (n - m).toNat, by rw [q1.int, q2.int, q3.int], RgC.neg (by omega) (by omega) (by omega) (by omega), p4.here r3 ⟨_, [], all_rngJ n (n - m).toNat, fun p hp => (nomatch hp), ?_, walk_rngJ⟩⟩
      rw [List.length_map, List.length_range]
      omega
    · cases e2⟩⟩⟩
theorem snd_itEnu {elts : List Expr} {kk : Nat} {tpos : Pos} (hK : F.K = X.K) (hg : Gl X "enumerate") (hm : X.mg "enumerate" = none) (hs : isStar a = false) (h : PE X a (tX F W ck st xa)) :
    PI X (.Tuple elts kk tpos) (.Call (.Name "enumerate" p) [a] [] pos) (tI F W ck st (.enu xa)) :=
  PI.by (pi_enumS hg hm (PA.sz (pa_cons h pa_nil (star_cons hs))) hs) fun σV H Rr ⟨A, ρ, al, σ, R, r, p⟩ => ⟨A, ρ, al, σ, R, r, Post.bind (show Post F A al W σ σV ρ H ((evX ck st xa σ R).bind fun x R => .of ((itmD x).map (enuL 0)) R) (WD F A al st) Rr from p) fun d R1 v H1 ρ1 r1 e1 q1 p1 sz => by
    obtain ⟨l, e2, p2⟩ := p1.of
    cases e3 : itmD d with
    | none => rw [e3] at e2; cases e2
    | some ds =>
      rw [e3] at e2
      cases e2
      obtain ⟨S, vs, rfl, s1, t1⟩ := RX.src q1 e3
      have hs := s1.has
      rw [hK] at hs
      have hl : ((List.range' 0 vs.length).zipWith (fun i v => Item.two (.int (i : Nat)) v) vs).length = vs.length := by rw [List.length_zipWith, List.length_range', Nat.min_self]
      refine ⟨S, vs, rfl, hs, p2.here r1 ⟨_, [(S, vs)], all_enu 0 t1, fun p hp => ?_, ?_, ?_⟩⟩
      · rw [List.mem_singleton.mp hp]; exact s1
      · rw [hl]; exact sz S vs hs
      · rw [hK]
        refine walk_two (walk_enumS.mono (fun H h => gs_one.mp h) fun _ _ _ _ _ _ y => y) hl fun i x y h1 h2 hi => ?_
        cases h1
        rw [List.getElem?_zipWith, List.getElem?_range' hi, h2]
        simp⟩
theorem snd_itZip {elts : List Expr} {kk : Nat} {tpos : Pos} (hK : F.K = X.K) (hg : Gl X "zip") (hm : X.mg "zip" = none) (hs : noStar [a, b] = true) (ha : PE X a (tX F W ck st xa)) (hb : PE X b (tX F W ck st xb)) :
    PI X (.Tuple elts kk tpos) (.Call (.Name "zip" p) [a, b] [] pos) (tI F W ck st (.zip xa xb)) :=
  PI.by (pi_zipS hg hm (PA.sz (pa_cons ha (pa_cons hb pa_nil (star_of (noStar_tail hs))) (star_of hs))) hs) fun σV H Rr ⟨A, ρ, al, σ, R, r, p⟩ => ⟨A, ρ, al, σ, R, r, Post.bind (show Post F A al W σ σV ρ H ((evX ck st xa σ R).bind fun x R => (evX ck st xb σ R).bind fun y R => match itmD x, itmD y with
    | some l, some m => .ok (zipL l m) R
    | _, _ => .bad) (WD F A al st) Rr from p) fun d R1 v H1 ρ1 r1 e1 q1 p1 => ⟨A, ρ1, al, σ, R1, r1, p1.bind fun d' R2 v2 H2 ρ2 r2 e2 q2 p2 sz => by
    cases e3 : itmD d with
    | none => simp only [e3] at p2; exact p2.elim
    | some ds =>
      cases e4 : itmD d' with
      | none => simp only [e3, e4] at p2; exact p2.elim
      | some es =>
        simp only [e3, e4] at p2
        obtain ⟨S, vs, rfl, s1, t1⟩ := RX.src (RX.ext q1 e2) e3
        obtain ⟨S2, us, rfl, s2, t2⟩ := RX.src q2 e4
        have h1 := s1.has
        have h2 := s2.has
        rw [hK] at h1 h2
        have hl : (vs.zipWith Item.two us).length = min vs.length us.length := List.length_zipWith
        refine ⟨S, S2, vs, us, rfl, h1, h2, p2.here r2 ⟨_, [(S, vs), (S2, us)], all_zip t1 t2, fun p hp => ?_, ?_, ?_⟩⟩
        · rcases List.mem_cons.mp hp with e | hp
          · rw [e]; exact s1
          · rw [List.mem_singleton.mp hp]; exact s2
        · rw [hl]; exact Nat.le_trans (Nat.min_le_left _ _) (sz S vs h1)
        · rw [hK]
          refine walk_two ((walk_zipS rfl).mono (fun H h => ⟨h (S, vs) (by simp), h (S2, us) (by simp)⟩) fun _ _ _ _ _ _ y => y) hl fun i x y h1 h2 hi => ?_
          rw [List.getElem?_zipWith, h1, h2]⟩⟩
end
end Cw

end
section
/-! CwN: comprehensions. -/
namespace Cw
open PySem L2 PyProof.Rows PySem.W
def Act.add (A : Act) (p : Addr) : Act := { A with O0 := p :: A.O0 }
theorem ok_bind {α β : Type} {m : Res α} {f : α → RH → Res β} {b : β} {R : RH} (h : m.bind f = .ok b R) : ∃ a R1, m = .ok a R1 ∧ f a R1 = .ok b R := by
  cases m with
  | ok a R1 => exact ⟨a, R1, rfl, h⟩
  | exc c R1 => cases h
  | bad => cases h
theorem mem_add {A : Act} {ρ : List Addr} {al : List (Option Addr)} {a p : Addr} : a ∈ OO (A.add p) ρ al ↔ a = p ∨ a ∈ OO A ρ al := by
  rw [mem_OO, mem_OO]
  show a ∈ p :: A.O0 ∨ _ ↔ _
  rw [List.mem_cons, or_assoc]
section
variable {F : Fx} {A : Act} {W : XW} {ck : Nat → List D → RH → Res D} {ρ ρ' : List Addr} {al : List (Option Addr)} {σ : List Sl} {R R' : RH} {σV : L2.St} {H H' : Hp} {p : Addr} {o : HO}
theorem Rel.he (r : Rel F A ρ al σ R σV H) (hp : H p = none) : A.He p = none := by
  cases z : A.He p with
  | none => rfl
  | some o =>
    by_cases q : p ∈ A.re
    · obtain ⟨e, he⟩ := r.pre
      obtain ⟨vs, e⟩ := r.ltR (a := p) (by rw [he]; exact List.mem_append_left _ q)
      rw [hp] at e
      cases e
    · exact absurd hp (r.frN p (by rw [z]; simp))
theorem mask_add (hp : H p = none) : ∀ a u, mask H (OO A ρ al) a = some u → mask (upd H p o) (OO (A.add p) ρ al) a = some u := fun a u h => by
  obtain ⟨h1, h2⟩ := mask_some h
  have ne := ne_of_none h1 hp
  exact mask_mk (fun m => (mem_add.mp m).elim ne h2) (by rw [upd_ne ne]; exact h1) (mask_nt h)
/-- a new object that is masked -/
theorem Rel.addO (r : Rel F A ρ al σ R σV H) (hp : H p = none) : Rel F (A.add p) ρ al σ R σV (upd H p o) := by
  have g := r.grow (upd_keep (o := o) hp)
  have mk : ∀ a u, mask H (OO A ρ al) a = some u → mask (upd H p o) (OO (A.add p) ρ al) a = some u := mask_add hp
  have nil : ∃ e : List Addr, ρ = ρ ++ e := ⟨[], by simp⟩
  refine ⟨r.ls, r.la, fun i hi => ?_, r.rl, fun i a ds h1 h2 => ?_, r.nd, r.pre, r.newO, r.newR, g.fr, fun a h => ?_, g.frN, g.tb, fun O1 H1 ρ1 e => ?_⟩
  · have q := r.sl i hi
    cases z : gS σ i with
    | no => rw [z] at q; exact q
    | lm => rw [z] at q; exact q
    | er c => rw [z] at q; exact q
    | sh d =>
      rw [z] at q
      obtain ⟨q1, x, q2, q3⟩ := q
      exact ⟨q1, x, q2, q3.mono nil mk⟩
    | ow d =>
      rw [z] at q
      obtain ⟨a, q1, q2, q3⟩ := q
      refine ⟨a, q1, q2, ?_⟩
      cases d <;> first | exact False.elim q3 | (obtain ⟨vs, q4, q5⟩ := q3; exact ⟨vs, upd_keep hp _ _ q4, q5.mono nil mk⟩)
  · obtain ⟨vs, q1, q2⟩ := r.rf i a ds h1 h2
    exact ⟨vs, upd_keep hp _ _ q1, q2.mono nil mk⟩
  · rcases List.mem_cons.mp h with rfl | h
    · refine ⟨by rw [upd_same]; simp, fun m => ?_, fun m => r.ltO m hp⟩
      obtain ⟨vs, e⟩ := r.ltR m
      rw [hp] at e
      cases e
    · exact g.o0 a h
  · obtain ⟨c1, c2⟩ := r.cr O1 H1 ρ1 e
    refine ⟨fun a h => ?_, c2⟩
    rcases List.mem_cons.mp h with rfl | h
    · exact .inr (Classical.byContradiction fun z => c2.there _ z (r.he hp))
    · exact c1 a h
theorem Rel.dropO (r : Rel F (A.add p) ρ al σ R σV H) : Rel F A ρ al σ R σV H := by
  have nil : ∃ e : List Addr, ρ = ρ ++ e := ⟨[], by simp⟩
  have mk : ∀ a u, mask H (OO (A.add p) ρ al) a = some u → mask H (OO A ρ al) a = some u := fun a u h => by
    obtain ⟨h1, h2⟩ := mask_some h
    exact mask_mk (fun m => h2 (mem_add.mpr (.inr m))) h1 (mask_nt h)
  refine ⟨r.ls, r.la, fun i hi => ?_, r.rl, fun i a ds h1 h2 => ?_, r.nd, r.pre, r.newO, r.newR, r.fr, fun a h => r.o0 a (List.mem_cons_of_mem _ h), r.frN, r.tb, fun O1 H1 ρ1 e => ⟨fun a h => (r.cr O1 H1 ρ1 e).1 a (List.mem_cons_of_mem _ h), (r.cr O1 H1 ρ1 e).2⟩⟩
  · have q := r.sl i hi
    cases z : gS σ i with
    | no => rw [z] at q; exact q
    | lm => rw [z] at q; exact q
    | er c => rw [z] at q; exact q
    | sh d =>
      rw [z] at q
      obtain ⟨q1, x, q2, q3⟩ := q
      exact ⟨q1, x, q2, q3.mono nil mk⟩
    | ow d =>
      rw [z] at q
      obtain ⟨a, q1, q2, q3⟩ := q
      refine ⟨a, q1, q2, ?_⟩
      cases d <;> first | exact False.elim q3 | (obtain ⟨vs, q4, q5⟩ := q3; exact ⟨vs, q4, q5.mono nil mk⟩)
  · obtain ⟨vs, q1, q2⟩ := r.rf i a ds h1 h2
    exact ⟨vs, q1, q2.mono nil mk⟩
/-- a masked object is changed -/
theorem mask_upd (h : p ∈ OO A ρ al) : mask (upd H p o) (OO A ρ al) = mask H (OO A ρ al) := by
  funext a
  unfold mask
  by_cases q : a ∈ OO A ρ al
  · rw [if_pos q, if_pos q]
  · rw [if_neg q, if_neg q, upd_ne]
    intro e
    subst e
    exact q h
theorem Rel.updO (r : Rel F A ρ al σ R σV H) (h : p ∈ A.O0) (he : A.He p = none) (hno : ∀ u, H p = some u → Nt u ∧ ∀ c q, u ≠ LamX.CodeO c q) : Rel F A ρ al σ R σV (upd H p o) := by
  have hm : mask (upd H p o) (OO A ρ al) = mask H (OO A ρ al) := mask_upd (mem_OO.mpr (.inl h))
  obtain ⟨h1, h2, h3⟩ := r.o0 p h
  refine ⟨r.ls, r.la, fun i hi => ?_, r.rl, fun i a ds e1 e2 => ?_, r.nd, r.pre, r.newO, r.newR, fun a u e n t => ?_, fun a ha => ?_, fun a e => ?_, tabs_upd r.tb hno, r.cr⟩
  · rw [hm]
    have q := r.sl i hi
    cases z : gS σ i with
    | no => rw [z] at q; exact q
    | lm => rw [z] at q; exact q
    | er c => rw [z] at q; exact q
    | sh d => rw [z] at q; exact q
    | ow d =>
      rw [z] at q
      obtain ⟨a, q1, q2, q3⟩ := q
      have ha : a ∈ owns al := mem_owns.mpr ⟨i, by
        rw [List.getD_eq_getElem?_getD] at q1
        cases y : al[i]? with
        | none => rw [y] at q1; cases q1
        | some o => rw [y] at q1; exact congrArg some q1⟩
      have ne : a ≠ p := fun e => h3 (e ▸ ha)
      refine ⟨a, q1, q2, ?_⟩
      cases d <;> first | exact False.elim q3 | (obtain ⟨vs, q4, q5⟩ := q3; exact ⟨vs, by rw [upd_ne ne]; exact q4, q5⟩)
  · rw [hm]
    obtain ⟨vs, q1, q2⟩ := r.rf i a ds e1 e2
    exact ⟨vs, by rw [upd_ne fun e => h2 (by rw [← e]; exact List.mem_of_getElem? e1)]; exact q1, q2⟩
  · rw [upd_ne fun z => by subst z; rw [he] at e; cases e]
    exact r.fr a u e n t
  · obtain ⟨g1, g2, g3⟩ := r.o0 a ha
    refine ⟨?_, g2, g3⟩
    by_cases e : a = p
    · subst e; rw [upd_same]; simp
    · rw [upd_ne e]; exact g1
  · by_cases z : a = p
    · subst z; rw [upd_same]; simp
    · rw [upd_ne z]; exact r.frN a e
/-- slots forgotten -/
theorem Rel.kill1 (r : Rel F A ρ al σ R σV H) {i : Nat} (h : al.getD i none = none) : Rel F A ρ al (sS σ i .no) R (σV.set i none) H := by
  refine ⟨by rw [sS_length, List.length_set]; exact r.ls, by rw [List.length_set]; exact r.la, fun j hj => ?_, r.rl, r.rf, r.nd, r.pre, r.newO, r.newR, r.fr, r.o0, r.frN, r.tb, r.cr⟩
  rw [List.length_set] at hj
  rw [gS_set, getD_set]
  by_cases e : j = i ∧ i < σ.length
  · rw [if_pos e, e.1]
    exact h
  · rw [if_neg e]
    have z := r.sl j hj
    by_cases e2 : j = i ∧ i < σV.length
    · exact absurd ⟨e2.1, by rw [r.ls]; exact e2.2⟩ e
    · rw [if_neg e2]
      exact z
theorem Rel.kills (r : Rel F A ρ al σ R σV H) : ∀ vs : List Nat, (∀ i ∈ vs, al.getD i none = none) → Rel F A ρ al (killS vs σ) R (wipe σV vs) H
  | [], _ => r
  | i :: vs, h => (Rel.kills r vs fun j hj => h j (List.mem_cons_of_mem _ hj)).kill1 (h i List.mem_cons_self)
theorem Rel.notOw (r : Rel F A ρ al σ R σV H) {i : Nat} (h : isOw (gS σ i) = false) : al.getD i none = none := by
  by_cases hi : i < σV.length
  · have q := r.sl i hi
    cases z : gS σ i with
    | no => rw [z] at q; exact q
    | sh d => rw [z] at q; exact q.1
    | ow d => rw [z] at h; cases h
    | lm => rw [z] at q; exact q.1
    | er c => rw [z] at q; exact q.1
  · rw [List.getD_eq_getElem?_getD, List.getElem?_eq_none (by rw [r.la]; omega)]
    rfl
theorem wipe_get : ∀ (σ : L2.St) (vs : List Nat) (j : Nat), (wipe σ vs)[j]? = if j ∈ vs ∧ j < σ.length then some none else σ[j]?
  | σ, [], j => by simp [wipe]
  | σ, v :: vs, j => by
    unfold wipe
    rw [List.getElem?_set, wipe_get σ vs j, wipe_length]
    by_cases h : v = j
    · subst h
      by_cases h2 : v < σ.length
      · simp [h2]
      · simp [h2]
    · rw [if_neg h]
      have : j ∈ v :: vs ↔ j ∈ vs := by simp [Ne.symm h]
      by_cases e : j ∈ vs ∧ j < σ.length
      · rw [if_pos e, if_pos ⟨this.mpr e.1, e.2⟩]
      · rw [if_neg e, if_neg fun z => e ⟨this.mp z.1, z.2⟩]
theorem wipe_eq {σ σ2 : L2.St} {vs : List Nat} (hl : σ2.length = (wipe σ vs).length) (h : ∀ j, j ∉ vs → σ2[j]? = (wipe σ vs)[j]?) : wipe σ2 vs = wipe σ vs := by
  refine List.ext_getElem? fun j => ?_
  rw [wipe_length] at hl
  rw [wipe_get, hl, wipe_get]
  by_cases e : j ∈ vs
  · by_cases e2 : j < σ.length
    · rw [if_pos ⟨e, e2⟩, if_pos ⟨e, e2⟩]
    · rw [if_neg fun z => e2 z.2, if_neg fun z => e2 z.2]
      rw [List.getElem?_eq_none (by omega), List.getElem?_eq_none (by omega)]
  · rw [if_neg fun z => e z.1, if_neg fun z => e z.1, h j e, wipe_get, if_neg fun z => e z.1]
end
end Cw

end
section
/-! CwO: new lists; comprehensions. -/
namespace Cw
open PySem L2 PyProof.Rows PySem.W
def ownable : D → Bool
  | .lst _ | .dK _ | .dT _ => true
  | _ => false
/-- what a new list, dict leaves -/
def PostF (F : Fx) (A : Act) (al : List (Option Addr)) (W : XW) (σ : List Sl) (σV : L2.St) (ρ : List Addr) (H : Hp) (r : Res D) (Q : VK) : Prop := match r with
  | .ok d R' => ownable d = true ∧ ∀ p H' ρ', Rel F (A.add p) ρ' al σ R' σV H' → Ext ρ H ρ' H' → H p = none → OwR F ρ' (mask H' (OO (A.add p) ρ' al)) H' p d → Q (.ref p) H'
  | .exc c R' => ∀ H' ρ', Rel F A ρ' al σ R' σV H' → Ext ρ H ρ' H' → W c σV H'
  | .bad => False
def tF (F : Fx) (W : XW) (ck : Nat → List D → RH → Res D) (x : Ex) : TE := fun σV H Q => ∃ A ρ al σ R, Rel F A ρ al σ R σV H ∧ PostF F A al W σ σV ρ H (ev ck x σ R) Q
section
variable {F : Fx} {A : Act} {W : XW} {ck : Nat → List D → RH → Res D} {X : Cx} {e : Expr} {x : Ex} {ρ ρ1 ρ' : List Addr} {al : List (Option Addr)} {σ : List Sl} {R R' : RH} {σV : L2.St} {H H1 H' : Hp} {p : Addr} {o : HO}
theorem RDp.mono' (k : ∀ b o, H b = some o → H' b = some o) {v : List (Key × V)} {d : List (Key × D)} (h : RDp F ρ H v d) : RDp F ρ H' v d := RDp.mono ⟨[], by simp⟩ k h
theorem mask_drop : ∀ a u, mask H (OO (A.add p) ρ al) a = some u → mask H (OO A ρ al) a = some u := fun a u h => by
  obtain ⟨h1, h2⟩ := mask_some h
  exact mask_mk (fun m => h2 (mem_add.mpr (.inr m))) h1 (mask_nt h)
theorem Rel.notIn (r : Rel F (A.add p) ρ al σ R σV H) (hn : p ∉ A.O0) : p ∉ OO A ρ al := fun m => by
  obtain ⟨_, h2, h3⟩ := r.o0 p List.mem_cons_self
  rcases mem_OO.mp m with m | m | m
  · exact hn m
  · exact h2 m
  · exact h3 m
theorem OwR.rm {d : D} (r : Rel F (A.add p) ρ al σ R σV H) (hn : p ∉ A.O0) (h : OwR F ρ (mask H (OO (A.add p) ρ al)) H p d) : RM F A al ρ H (.ref p) d := by
  have nil : ∃ e : List Addr, ρ = ρ ++ e := ⟨[], by simp⟩
  have k := r.notIn hn
  cases d <;> first | exact False.elim h | skip
  · obtain ⟨vs, h1, h2⟩ := h
    exact RD.lst (mask_mk k h1 (fun _ z => by cases z)) (h2.mono nil mask_drop)
  · obtain ⟨vs, h1, h2⟩ := h
    exact RD.dK (mask_mk k h1 (fun _ z => by cases z)) (h2.mono nil mask_drop)
  · obtain ⟨vs, h1, h2⟩ := h
    exact RD.dT (mask_mk k h1 (fun _ z => by cases z)) (h2.mono nil mask_drop)
theorem Rel.notO0 (r : Rel F A ρ al σ R σV H) (h : H p = none) : p ∉ A.O0 := fun m => (r.o0 p m).1 h
/-- a new one is kept -/
theorem tS_ofF (hv : isVar x = false) (hx : ∀ (σ : List Sl) (R R' : RH) (d : D), ev ck x σ R = .ok d R' → ownable d = true) (h : PE X e (tF F W ck x)) : PE X e (tS F W ck x) := PE.by h fun σV H Q ⟨A, ρ, al, σ, R, r, p⟩ => ⟨A, ρ, al, σ, R, r, by
  rw [stx_not hv] at p
  cases q : ev ck x σ R with
  | ok d R' =>
    rw [q] at p
    exact ⟨hx _ _ _ _ q, fun a H' ρ' r' e' hp ow => p _ H' ρ' r'.dropO e' (ow.rm r' (r.notO0 hp))⟩
  | exc c R' => rw [q] at p; exact p
  | bad => rw [q] at p; exact p⟩
theorem Ext.updN (e : Ext ρ H ρ1 H1) (hp : H p = none) : Ext ρ H ρ1 (upd H1 p o) := ⟨e.pre, e.new, fun a u h n t => by rw [upd_ne (ne_of_none h hp)]; exact e.keep a u h n t, fun a h => by
  by_cases z : a = p
  · subst z; rw [upd_same]; simp
  · rw [upd_ne z]; exact e.there a h⟩
theorem mask_ext_add (e : Ext ρ H ρ1 H1) (hp : H p = none) : ∀ a u, mask H (OO A ρ al) a = some u → mask H1 (OO (A.add p) ρ1 al) a = some u := fun a u h => by
  obtain ⟨h1, h2⟩ := mask_some (e.mask a u h)
  obtain ⟨h3, _⟩ := mask_some h
  exact mask_mk (fun m => (mem_add.mp m).elim (ne_of_none h3 hp) h2) h1 (mask_nt h)
theorem Ext.none (e : Ext ρ H ρ1 H1) (r : Rel F A ρ1 al σ R σV H1) (hp : H1 p = none) : H p = none := by
  cases z : H p with
  | none => rfl
  | some u =>
    by_cases q : p ∈ ρ
    · obtain ⟨x, hx⟩ := e.pre
      obtain ⟨vs, h⟩ := r.ltR (a := p) (by rw [hx]; exact List.mem_append_left _ q)
      rw [hp] at h
      cases h
    · exact absurd hp (e.there p (by rw [z]; simp))

/-! ### comprehensions -/
def noXW : XW := fun _ _ _ => False
def tC (F : Fx) (ck : Nat → List D → RH → Res D) : Exo → TT
  | .no => tYes
  | .so c => tQ (tS F noXW ck c)
def lcF (ck : Nat → List D → RH → Res D) (elt : Ex) (tg : Tg) (cd : Exo) (σ : List Sl) : D → RH → Res (Option D) := fun d R => match setC tg d σ with
  | none => .bad
  | some σ1 => (evc ck cd σ1 R).bind fun b R => if b = true then (stx elt σ1 (ev ck elt σ1 R)).bind fun x R => .ok (some x) R else .ok none R
theorem ev_lc (elt : Ex) (tg : Tg) (it : Itr) (cd : Exo) (σ : List Sl) (R : RH) : ev ck (.lc elt tg it cd) σ R = (evi ck it σ R).bind fun ds R => (lcL (lcF ck elt tg cd σ) ds R).bind fun ds R => .ok (.lst ds) R := rfl
theorem lcL_cons {f : D → RH → Res (Option D)} {d : D} {ds : List D} {R R2 : RH} {l : List D} (h : lcL f (d :: ds) R = .ok l R2) : ∃ o R1 l', f d R = .ok o R1 ∧ lcL f ds R1 = .ok l' R2 ∧ l = (match o with | some x => x :: l' | none => l') := by
  simp only [lcL] at h
  cases q : f d R with
  | ok o R1 =>
    rw [q] at h
    cases q2 : lcL f ds R1 with
    | ok l' R3 =>
      simp only [q2] at h
      cases h
      exact ⟨o, R1, l', rfl, q2, rfl⟩
    | exc c R3 => simp only [q2] at h; cases h
    | bad => simp only [q2] at h; cases h
  | exc c R3 => rw [q] at h; cases h
  | bad => rw [q] at h; cases h
theorem lcF_ok {elt : Ex} {tg : Tg} {cd : Exo} {d : D} {o : Option D} {R R1 : RH} (h : lcF ck elt tg cd σ d R = .ok o R1) : (∀ i ∈ tgs tg, isOw (gS σ i) = false) ∧ ∃ σ1, setT tg d (killS (tgs tg) σ) = some σ1 ∧
    ∃ b R2, evc ck cd σ1 R = .ok b R2 ∧ ((b = true ∧ ∃ x, stx elt σ1 (ev ck elt σ1 R2) = .ok x R1 ∧ o = some x) ∨ (b = false ∧ o = Option.none ∧ R2 = R1)) := by
  unfold lcF at h
  cases q : setC tg d σ with
  | none => rw [q] at h; cases h
  | some σ1 =>
    rw [q] at h
    unfold setC at q
    split at q
    · cases q
    · rename_i z
      refine ⟨fun i hi => ?_, σ1, q, ?_⟩
      · cases y : isOw (gS σ i) with
        | false => rfl
        | true => exact absurd (List.any_eq_true.mpr ⟨i, hi, y⟩) z
      · obtain ⟨b, R2, h1, h2⟩ := ok_bind h
        refine ⟨b, R2, h1, ?_⟩
        cases b with
        | true =>
          rw [if_pos rfl] at h2
          obtain ⟨x, R3, h3, h4⟩ := ok_bind h2
          cases h4
          exact .inl ⟨rfl, x, h3, rfl⟩
        | false =>
          rw [if_neg Bool.false_ne_true] at h2
          cases h2
          exact .inr ⟨rfl, rfl, rfl⟩
/-- a turn's item, in the state of the turn -/
theorem item_in {it : Item} {d : D} {Dd : Addr} {Hc Hx : Hp} {ρc : List Addr} {Rc : RH} {v : V} {its : List Item} {i : Nat} (h : ItR F A al ρ1 H1 it d) (hi : its[i]? = some it) (y : YI its i Hc v Hx) (e : Ext ρ1 H1 ρc Hc) (hD : H1 Dd = none) (r : Rel F (A.add Dd) ρc al σ Rc σV Hc) :
    Rel F (A.add Dd) ρc al σ Rc σV Hx ∧ (∀ a u, Hc a = some u → Hx a = some u) ∧ RM F (A.add Dd) al ρc Hx v d := by
  unfold YI at y
  rw [hi] at y
  have mk := mask_ext_add (A := A) (al := al) e hD
  cases h with
  | one q =>
    obtain ⟨rfl, rfl⟩ := y
    exact ⟨r, fun _ _ h => h, RD.mono e.pre mk q⟩
  | two q1 q2 =>
    obtain ⟨T, rfl, hT, rfl⟩ := y
    exact ⟨r.grow (upd_keep hT), upd_keep hT, RM.tup r hT (.cons (RD.mono e.pre mk q1) (.cons (RD.mono e.pre mk q2) .nil))⟩
theorem Post.okI {α β : Type} {d : α} {Rl : List Addr → Hp → β → α → Prop} {Q : β → Hp → Prop} (h : ∀ v H' ρ', Rel F A ρ' al σ R' σV H' → Ext ρ H ρ' H' → Rl ρ' H' v d → Q v H') : Post F A al W σ σV ρ H (.ok d R') Rl Q := h
theorem stx_bl {b : Bool} (r : Rel F A ρ al σ R σV H) (h : ev ck x σ R = .ok (.bl b) R') : stx x σ (ev ck x σ R) = .ok (.bl b) R' := by
  rw [h]
  cases x <;> first | rfl | skip
  rename_i i
  show (if isOw (gS σ i) = true then _ else _) = _
  cases q : gS σ i with
  | no => rfl
  | lm => rfl
  | er c => rfl
  | sh d => rfl
  | ow d =>
    simp only [ev, q, Sl.val, Res.of] at h
    cases h
    obtain ⟨a, _, _, _, _, z⟩ := r.ow q
    exact z.elim
theorem lcK {elt : Ex} {tg : Tg} {it : Itr} {cd : Exo} {Q : VK} (r : Rel F A ρ al σ R σV H) (p : PostF F A al W σ σV ρ H (ev ck (.lc elt tg it cd) σ R) Q) :
    tLc (tI F W ck false it) (gT F tg) (tC F ck cd) (tS F noXW ck elt) (tgs tg) σV H Q := by
  refine ⟨A, ρ, al, σ, R, r, ?_⟩
  rw [evis_false]
  rw [ev_lc] at p
  cases q1 : evi ck it σ R with
  | exc c R1 => rw [q1] at p; exact p
  | bad => rw [q1] at p; exact p
  | ok ds R1 =>
    rw [q1] at p
    refine Post.okI fun J H1 ρ1 r1 e1 w1 Dd hD => ?_
    simp only [Res.bind] at p
    cases q2 : lcL (lcF ck elt tg cd σ) ds R1 with
    | exc c R2 => rw [q2] at p; cases ds <;> simp only [lcL] at q2 <;> (repeat' split at q2) <;> cases q2
    | bad => rw [q2] at p; exact p.elim
    | ok L R2 =>
    rw [q2] at p
    simp only [Res.bind] at p
    have hHD : H Dd = none := e1.none r1 hD
    have hDe : A.He Dd = none := r1.he hD
    obtain ⟨its, gs, al2, src, hlen, walk⟩ := w1
    refine lc_it walk (fun i Hc => ∃ ρc Rc accV acc, Rel F (A.add Dd) ρc al σ Rc σV Hc ∧ Ext ρ1 H1 ρc Hc ∧ Hc Dd = some (.lst accV) ∧ RDs F ρc (mask Hc (OO (A.add Dd) ρc al)) accV acc ∧ acc.length ≤ i ∧ ∃ l, lcL (lcF ck elt tg cd σ) (ds.drop i) Rc = .ok l R2 ∧ acc ++ l = L)
      ⟨ρ1, R1, [], [], r1.addO hD, ext_grow (upd_keep hD), upd_same, .nil, Nat.le_refl _, L, q2, rfl⟩
      (fun i Hc _ ⟨ρc, Rc, accV, acc, rc, ec, _⟩ p hp => ((src p hp).ext ec).has) ?_ ?_
    · intro i x Hc Hx hi ⟨ρc, Rc, accV, acc, rc, ec, hc, ha, hl, l, hL, hE⟩ y
      obtain ⟨d, hd, hit⟩ := al2.get (List.getElem?_eq_getElem hi)
      obtain ⟨rx, kx, mx⟩ := item_in hit (List.getElem?_eq_getElem hi) y ec hD rc
      have hdrop : ds.drop i = d :: ds.drop (i + 1) := by
        obtain ⟨h1, h2⟩ := List.getElem?_eq_some_iff.mp hd
        rw [List.drop_eq_getElem_cons h1, h2]
      rw [hdrop] at hL
      obtain ⟨o, R3, l', h3, h4, h5⟩ := lcL_cons hL
      obtain ⟨hno, σ1, hs, b, R4, hcb, hrest⟩ := lcF_ok h3
      have hal : ∀ j ∈ tgs tg, al.getD j none = none := fun j hj => rx.notOw (hno j hj)
      have ex : Ext ρ1 H1 ρc Hx := ec.trans (ext_grow kx)
      have hx : Hx Dd = some (.lst accV) := kx _ _ hc
      have hax : RDs F ρc (mask Hx (OO (A.add Dd) ρc al)) accV acc := ha.mono ⟨[], by simp⟩ (ext_grow (ρ := ρc) kx).mask
      refine ⟨A.add Dd, ρc, al, killS (tgs tg) σ, Rc, d, σ1, rx.kills _ hal, mx, hs, fun σ2 al' r2 _ hal' hlen2 hj2 => ?_⟩
      have ea : al' = al := hal' hal
      subst ea
      refine ⟨wipe_eq hlen2 hj2, ?_⟩
      -- behind the test
      have after : ∀ (H3 : Hp) (ρ3 : List Addr), Rel F (A.add Dd) ρ3 al' σ1 R4 σ2 H3 → Ext ρc Hx ρ3 H3 → (if b = true then tS F noXW ck elt σ2 H3 fun y H4 => ∃ acc, H4 Dd = some (.lst acc) ∧ acc.length < sizeLine ∧
          ∃ ρc Rc accV acc_1, Rel F (A.add Dd) ρc al' σ Rc σV (upd H4 Dd (.lst (acc ++ [y]))) ∧ Ext ρ1 H1 ρc (upd H4 Dd (.lst (acc ++ [y]))) ∧ (upd H4 Dd (.lst (acc ++ [y]))) Dd = some (.lst accV) ∧ RDs F ρc (mask (upd H4 Dd (.lst (acc ++ [y]))) (OO (A.add Dd) ρc al')) accV acc_1 ∧ acc_1.length ≤ i + 1 ∧ ∃ l, lcL (lcF ck elt tg cd σ) (ds.drop (i + 1)) Rc = .ok l R2 ∧ acc_1 ++ l = L
        else ∃ ρc Rc accV acc, Rel F (A.add Dd) ρc al' σ Rc σV H3 ∧ Ext ρ1 H1 ρc H3 ∧ H3 Dd = some (.lst accV) ∧ RDs F ρc (mask H3 (OO (A.add Dd) ρc al')) accV acc ∧ acc.length ≤ i + 1 ∧ ∃ l, lcL (lcF ck elt tg cd σ) (ds.drop (i + 1)) Rc = .ok l R2 ∧ acc ++ l = L) := by
        intro H3 ρ3 r3 e3
        obtain ⟨_, nDc, nDo⟩ := rx.o0 Dd List.mem_cons_self
        have n3 : Dd ∈ OO (A.add Dd) ρ3 al' := mem_add.mpr (.inl rfl)
        rcases hrest with ⟨rfl, z, hz, ho⟩ | ⟨rfl, ho, hR⟩
        · rw [if_pos rfl]
          subst ho
          refine ⟨A.add Dd, ρ3, al', σ1, R4, r3, ?_⟩
          rw [hz]
          refine Post.okI fun y H4 ρ4 r4 e4 q4 => ?_
          have e34 := e3.trans e4
          have h4D : H4 Dd = some (.lst accV) := e34.keep _ _ hx nDc (fun _ z => by cases z)
          refine ⟨accV, h4D, by rw [hax.length]; omega, ρ4, R3, accV ++ [y], acc ++ [z], ?_, (ex.trans e34).updN hD, upd_same, ?_, ?_, l', h4, ?_⟩
          · exact (rx.step e34 (List.nodup_append.mp r4.nd).1 r4.rl r4.rf r4.tb).updO List.mem_cons_self hDe (lst_no h4D)
          · rw [mask_upd (mem_add.mpr (.inl rfl))]
            exact (hax.mono e34.pre e34.mask).append (.cons q4 .nil)
          · rw [List.length_append]; exact Nat.succ_le_succ hl
          · rw [← hE, h5]; simp
        · rw [if_neg Bool.false_ne_true]
          subst ho
          subst hR
          refine ⟨ρ3, R4, accV, acc, rx.step e3 (List.nodup_append.mp r3.nd).1 r3.rl r3.rf r3.tb, ex.trans e3, e3.keep _ _ hx nDc (fun _ z => by cases z), hax.mono e3.pre e3.mask, Nat.le_succ_of_le hl, l', h4, ?_⟩
          rw [← hE, h5]
      cases cd with
      | no =>
        simp only [evc] at hcb
        cases hcb
        exact after Hx ρc r2 Ext.refl
      | so c =>
        simp only [evc] at hcb
        refine ⟨A.add Dd, ρc, al', σ1, Rc, r2, ?_⟩
        obtain ⟨dv, R5, hc1, hc2⟩ := ok_bind hcb
        cases dv <;> first | (cases hc2; done) | skip
        cases hc2
        rw [stx_bl r2 hc1]
        refine Post.okI fun v H3 ρ3 r3 e3 q3 => ?_
        cases q3
        exact ⟨_, rfl, after H3 ρ3 r3 e3⟩
    · intro Hc ⟨ρc, Rc, accV, acc, rc, ec, hc, ha, hl, l, hL, hE⟩
      have hn : ds.length = its.length := al2.length.symm
      rw [List.drop_eq_nil_of_le (Nat.le_of_eq hn)] at hL
      simp only [lcL] at hL
      cases hL
      rw [List.append_nil] at hE
      subst hE
      exact p.2 Dd Hc ρc rc (e1.trans ec) hHD ⟨accV, hc, ha⟩
end
theorem snd_lcF {F : Fx} {W : XW} {ck : Nat → List D → RH → Res D} {X : Cx} {elt tg iter : Expr} {ifs : List Expr} {scope : Scope} {own : List (Str × Nat)} {pos : Pos} {xe : Ex} {xt : Tg} {it : Itr} {cd : Exo}
    (hc : X.calm = true) (hN : X.N.Nodup) (hi : PI X tg iter (tI F W ck false it)) (ok : BlkOk X.N X.env.scope scope own) (hv : own.map (·.2) = tgs xt)
    (hg : ∀ (s : Shared) (H : Hp) (C : Addr) (cl : List (Str × Addr)) (fp : List Addr), PG (X.blk s H scope (compEnvC scope cl C X.env) fp) tg (gT F xt)) (ht : ∀ (s : Shared) (H : Hp) (C : Addr) (cl : List (Str × Addr)) (fp : List Addr), PTs (X.blk s H scope (compEnvC scope cl C X.env) fp) ifs (tC F ck cd))
    (he : ∀ (s : Shared) (H : Hp) (C : Addr) (cl : List (Str × Addr)) (fp : List Addr), PE (X.blk s H scope (compEnvC scope cl C X.env) fp) elt (tS F noXW ck xe)) (hs : ∀ x, foldedSetIterable iter X.env x = pure x) :
    PE X (.ListComp elt [⟨tg, iter, ifs, 0⟩] scope pos) (tF F W ck (.lc xe xt it cd)) :=
  PE.by (pe_lc hc hN hi ok hg ht he hs) fun σV H Q ⟨A, ρ, al, σ, R, r, p⟩ => by rw [hv]; exact lcK r p
/-- name = [..] on one line -/
theorem snd_setLc {F : Fx} {W : XW} {ck : Nat → List D → RH → Res D} {X : Cx} {elt tg iter : Expr} {ifs : List Expr} {scope : Scope} {own : List (Str × Nat)} {pos : Pos} {xe : Ex} {xt : Tg} {it : Itr} {cd : Exo} {i : Nat} {y : Str} {py spos : Pos}
    (hc : X.calm = true) (hN : X.N.Nodup) (hy : X.N[i]? = some y) (hyl : X.env.scope.names.lookup y = some .local)
    (hsw : swapsWith (.ListComp elt [⟨tg, iter, ifs, 0⟩] scope pos) (some (.Name y py)) spos.line X.env = pure true) (hi : PI X tg iter (tI F W ck false it)) (ok : BlkOk X.N X.env.scope scope own) (hv : own.map (·.2) = tgs xt)
    (hg : ∀ (s : Shared) (H : Hp) (C : Addr) (cl : List (Str × Addr)) (fp : List Addr), PG (X.blk s H scope (compEnvC scope cl C X.env) fp) tg (gT F xt)) (ht : ∀ (s : Shared) (H : Hp) (C : Addr) (cl : List (Str × Addr)) (fp : List Addr), PTs (X.blk s H scope (compEnvC scope cl C X.env) fp) ifs (tC F ck cd))
    (he : ∀ (s : Shared) (H : Hp) (C : Addr) (cl : List (Str × Addr)) (fp : List Addr), PE (X.blk s H scope (compEnvC scope cl C X.env) fp) elt (tS F noXW ck xe)) (hs : ∀ x, foldedSetIterable iter X.env x = pure x) :
    PS X (.Assign [.Name y py] (.ListComp elt [⟨tg, iter, ifs, 0⟩] scope pos) spos) (tAsg (tF F W ck (.lc xe xt it cd)) (gName i)) :=
  let h := ps_setLc (py := py) hc hN hy hyl hsw hi ok hg ht he hs
  ⟨fun pins s σV H Dn I q => h.run pins s σV H Dn I (by
    rw [hv]
    obtain ⟨A, ρ, al, σ, R, r, p⟩ := q
    exact lcK r p)⟩
end Cw

end
section
/-! CwP: own slots. -/
namespace Cw
open PySem L2 PyProof.Rows PySem.W
section
variable {F : Fx} {A : Act} {ρ : List Addr} {al : List (Option Addr)} {σ : List Sl} {R : RH} {σV : L2.St} {H : Hp} {p : Addr} {o : HO}
theorem owns_set_some {al : List (Option Addr)} {i : Nat} {p a : Addr} (h : a ∈ owns (al.set i (some p))) : a = p ∨ a ∈ owns al := by
  obtain ⟨j, hj⟩ := mem_owns.mp h
  rw [List.getElem?_set] at hj
  by_cases e : i = j
  · rw [if_pos e] at hj
    split at hj
    · cases hj; exact .inl rfl
    · cases hj
  · rw [if_neg e] at hj
    exact .inr (mem_owns.mpr ⟨j, hj⟩)
theorem owns_set_at : ∀ {al : List (Option Addr)} {i : Nat} {p : Addr}, (owns al).Nodup → p ∉ owns al → (owns (al.set i (some p))).Nodup
  | [], _, _, _, _ => by simp [owns]
  | o :: al, 0, p, nd, np => by
    have e : owns (o :: al) = (match o with | some a => [a] | none => []) ++ owns al := by cases o <;> rfl
    rw [e] at nd np
    show (p :: owns al).Nodup
    exact List.nodup_cons.mpr ⟨fun m => np (List.mem_append_right _ m), (List.nodup_append.mp nd).2.1⟩
  | o :: al, i + 1, p, nd, np => by
    have ih := fun nd np => owns_set_at (al := al) (i := i) (p := p) nd np
    cases o with
    | none => exact ih nd np
    | some a =>
      have nd : (a :: owns al).Nodup := nd
      have np : p ∉ a :: owns al := np
      obtain ⟨n1, n2⟩ := List.nodup_cons.mp nd
      show (a :: owns (al.set i (some p))).Nodup
      refine List.nodup_cons.mpr ⟨fun m => ?_, ih n2 fun m => np (List.mem_cons_of_mem _ m)⟩
      rcases owns_set_some m with e | m
      · exact np (e ▸ List.mem_cons_self)
      · exact n1 m
theorem getDA {al : List (Option Addr)} {i : Nat} {a : Addr} (h : al.getD i none = some a) : al[i]? = some (some a) := by
  rw [List.getD_eq_getElem?_getD] at h
  cases y : al[i]? with
  | none => rw [y] at h; cases h
  | some o => rw [y] at h; exact congrArg some h
theorem owns_inj : ∀ {al : List (Option Addr)} {i j : Nat} {a : Addr}, (owns al).Nodup → al.getD i none = some a → al.getD j none = some a → i = j
  | [], i, j, a, _, h, _ => by simp at h
  | o :: al, 0, 0, a, _, _, _ => rfl
  | o :: al, 0, j + 1, a, nd, h1, h2 => by
    have h1 : o = some a := by simpa using h1
    subst h1
    have h2 : al.getD j none = some a := by simpa using h2
    exact absurd (mem_owns.mpr ⟨j, getDA h2⟩) (List.nodup_cons.mp (show (a :: owns al).Nodup from nd)).1
  | o :: al, i + 1, 0, a, nd, h1, h2 => by
    have h1 : al.getD i none = some a := by simpa using h1
    have h2 : o = some a := by simpa using h2
    subst h2
    exact absurd (mem_owns.mpr ⟨i, getDA h1⟩) (List.nodup_cons.mp (show (a :: owns al).Nodup from nd)).1
  | o :: al, i + 1, j + 1, a, nd, h1, h2 => by
    have nd' : (owns al).Nodup := by
      cases o with
      | none => exact nd
      | some b => exact (List.nodup_cons.mp (show (b :: owns al).Nodup from nd)).2
    exact congrArg (· + 1) (owns_inj nd' (by simpa using h1) (by simpa using h2))
theorem OwR.mono {Hm Hm' : Hp} {d : D} {a : Addr} (k : ∀ b o, Hm b = some o → Hm' b = some o) (h : OwR F ρ Hm H a d) : OwR F ρ Hm' H a d := by
  have nil : ∃ e : List Addr, ρ = ρ ++ e := ⟨[], by simp⟩
  cases d <;> first | exact False.elim h | (obtain ⟨vs, q4, q5⟩ := h; exact ⟨vs, q4, q5.mono nil k⟩)
/-- a new one comes to a slot -/
theorem Rel.setOw (r : Rel F (A.add p) ρ al σ R σV H) {i : Nat} {d : D} (hi : i < σV.length) (he : A.He p = none) (hn : p ∉ A.O0) (q : OwR F ρ (mask H (OO (A.add p) ρ al)) H p d) :
    Rel F A ρ (al.set i (some p)) (sS σ i (.ow d)) R (σV.set i (some (.ref p))) H := by
  obtain ⟨p1, p2, p3⟩ := r.o0 p List.mem_cons_self
  have hin : p ∈ owns (al.set i (some p)) := mem_owns.mpr ⟨i, by rw [List.getElem?_set_self (by rw [r.la]; exact hi)]⟩
  have k : ∀ b o, mask H (OO (A.add p) ρ al) b = some o → mask H (OO A ρ (al.set i (some p))) b = some o := fun b o h => by
    obtain ⟨h1, h2⟩ := mask_some h
    refine mask_mk (fun m => h2 ?_) h1 (mask_nt h)
    rcases mem_OO.mp m with m | m | m
    · exact mem_add.mpr (.inr (mem_OO.mpr (.inl m)))
    · exact mem_add.mpr (.inr (mem_OO.mpr (.inr (.inl m))))
    · rcases owns_set_some m with m | m
      · exact mem_add.mpr (.inl m)
      · exact mem_add.mpr (.inr (mem_OO.mpr (.inr (.inr m))))
  have nil : ∃ e : List Addr, ρ = ρ ++ e := ⟨[], by simp⟩
  refine ⟨by rw [sS_length, List.length_set]; exact r.ls, by rw [List.length_set, List.length_set]; exact r.la, fun j hj => ?_, r.rl, fun j a ds h1 h2 => ?_, ?_, r.pre, fun a h => ?_, r.newR, r.fr, fun a h => ?_, r.frN, r.tb, fun O1 H1 ρ1 e => ⟨fun a h => (r.cr O1 H1 ρ1 e).1 a (List.mem_cons_of_mem _ h), (r.cr O1 H1 ρ1 e).2⟩⟩
  · rw [List.length_set] at hj
    rw [gS_set, getD_set, getD_set, r.ls, r.la]
    by_cases e : j = i
    · subst e
      rw [if_pos ⟨rfl, hi⟩, if_pos ⟨rfl, hi⟩, if_pos ⟨rfl, hi⟩]
      exact ⟨p, rfl, rfl, q.mono k⟩
    · rw [if_neg fun z => e z.1, if_neg fun z => e z.1, if_neg fun z => e z.1]
      have z := r.sl j hj
      cases w : gS σ j with
      | no => rw [w] at z; exact z
      | lm => rw [w] at z; exact z
      | er c => rw [w] at z; exact z
      | sh d' =>
        rw [w] at z
        obtain ⟨z1, x, z2, z3⟩ := z
        exact ⟨z1, x, z2, z3.mono nil k⟩
      | ow d' =>
        rw [w] at z
        obtain ⟨a, z1, z2, z3⟩ := z
        exact ⟨a, z1, z2, z3.mono k⟩
  · obtain ⟨vs, h3, h4⟩ := r.rf j a ds h1 h2
    exact ⟨vs, h3, h4.mono nil k⟩
  · obtain ⟨n1, n2, n3⟩ := List.nodup_append.mp r.nd
    refine List.nodup_append.mpr ⟨n1, owns_set_at n2 p3, fun a h b hb e => ?_⟩
    subst e
    rcases owns_set_some hb with e | hb
    · subst e; exact p2 h
    · exact n3 a h a hb rfl
  · rcases owns_set_some h with e | h
    · subst e; exact he
    · exact r.newO a h
  · obtain ⟨h1, h2, h3⟩ := r.o0 a (List.mem_cons_of_mem _ h)
    refine ⟨h1, h2, fun m => ?_⟩
    rcases owns_set_some m with e | m
    · subst e
      exact hn h
    · exact h3 m
/-- an own list is changed -/
theorem Rel.updOw (r : Rel F A ρ al σ R σV H) {i : Nat} {d d' : D} {a : Addr} (g : gS σ i = .ow d) (ha : al.getD i none = some a) (q : OwR F ρ (mask H (OO A ρ al)) (upd H a o) a d') :
    Rel F A ρ al (sS σ i (.ow d')) R σV (upd H a o) := by
  have hi := slot_at g (by simp)
  have am : a ∈ owns al := mem_owns.mpr ⟨i, by
    rw [List.getD_eq_getElem?_getD] at ha
    cases y : al[i]? with
    | none => rw [y] at ha; cases ha
    | some o => rw [y] at ha; exact congrArg some ha⟩
  have hm : mask (upd H a o) (OO A ρ al) = mask H (OO A ρ al) := mask_upd (mem_OO.mpr (.inr (.inr am)))
  refine ⟨by rw [sS_length]; exact r.ls, r.la, fun j hj => ?_, r.rl, fun j b ds e1 e2 => ?_, r.nd, r.pre, r.newO, r.newR, fun b u e n t => ?_, fun b hb => ?_, fun b e => ?_, tabs_upd r.tb (own_no (by
    have z := r.sl i (by rw [← r.ls]; exact hi)
    rw [g] at z
    obtain ⟨b, z1, z2, z3⟩ := z
    rw [ha] at z1
    cases z1
    exact z3)), r.cr⟩
  · rw [hm, gS_set]
    have z := r.sl j hj
    by_cases e : j = i ∧ i < σ.length
    · rw [if_pos e]
      obtain ⟨rfl, _⟩ := e
      rw [g] at z
      obtain ⟨b, z1, z2, z3⟩ := z
      rw [ha] at z1
      cases z1
      exact ⟨a, ha, z2, q⟩
    · rw [if_neg e]
      cases w : gS σ j with
      | no => rw [w] at z; exact z
      | lm => rw [w] at z; exact z
      | er c => rw [w] at z; exact z
      | sh d => rw [w] at z; exact z
      | ow d =>
        rw [w] at z
        obtain ⟨b, q1, q2, q3⟩ := z
        have ne : b ≠ a := by
          intro e3
          subst e3
          have : j = i := owns_inj (List.nodup_append.mp r.nd).2.1 q1 ha
          exact e ⟨this, hi⟩
        refine ⟨b, q1, q2, ?_⟩
        cases d <;> first | exact False.elim q3 | (obtain ⟨vs, q4, q5⟩ := q3; exact ⟨vs, by rw [upd_ne ne]; exact q4, q5⟩)
  · rw [hm]
    obtain ⟨vs, q1, q2⟩ := r.rf j b ds e1 e2
    refine ⟨vs, ?_, q2⟩
    rw [upd_ne]
    · exact q1
    · intro e
      subst e
      exact (List.nodup_append.mp r.nd).2.2 b (List.mem_of_getElem? e1) b am rfl
  · rw [upd_ne fun z => by subst z; rw [r.newO b am] at e; cases e]
    exact r.fr b u e n t
  · obtain ⟨g1, g2, g3⟩ := r.o0 b hb
    refine ⟨?_, g2, g3⟩
    by_cases e : b = a
    · subst e; exact absurd am g3
    · rw [upd_ne e]; exact g1
  · by_cases z : b = a
    · subst z; rw [upd_same]; simp
    · rw [upd_ne z]; exact r.frN b e
/-- an own list is shared from now on -/
theorem Rel.esc (r : Rel F A ρ al σ R σV H) {i : Nat} {d : D} (g : gS σ i = .ow d) : Rel F A ρ (al.set i none) (sS σ i (.sh d)) R σV H := by
  have hi := slot_at g (by simp)
  have hiV : i < σV.length := by rw [← r.ls]; exact hi
  have z := r.sl i hiV
  rw [g] at z
  obtain ⟨a, z1, z2, z3⟩ := z
  have am : a ∈ owns al := mem_owns.mpr ⟨i, getDA z1⟩
  have an : a ∉ OO A ρ (al.set i none) := fun m => by
    rcases mem_OO.mp m with m | m | m
    · exact (r.o0 a m).2.2 am
    · exact (List.nodup_append.mp r.nd).2.2 a m a am rfl
    · obtain ⟨j, hj⟩ := mem_owns.mp m
      rw [List.getElem?_set] at hj
      split at hj
      · split at hj <;> cases hj
      · rename_i ne
        exact ne (owns_inj (List.nodup_append.mp r.nd).2.1 z1 (by rw [List.getD_eq_getElem?_getD, hj]; rfl))
  have k : ∀ b o, mask H (OO A ρ al) b = some o → mask H (OO A ρ (al.set i none)) b = some o := mask_less fun a h => owns_set_mem h
  have q : RM F A (al.set i none) ρ H (.ref a) d := by
    cases d <;> first | exact False.elim z3 | skip
    · obtain ⟨vs, h1, h2⟩ := z3
      exact RD.lst (mask_mk an h1 (fun _ z => by cases z)) (h2.mono ⟨[], by simp⟩ k)
    · obtain ⟨vs, h1, h2⟩ := z3
      exact RD.dK (mask_mk an h1 (fun _ z => by cases z)) (h2.mono ⟨[], by simp⟩ k)
    · obtain ⟨vs, h1, h2⟩ := z3
      exact RD.dT (mask_mk an h1 (fun _ z => by cases z)) (h2.mono ⟨[], by simp⟩ k)
  refine ⟨by rw [sS_length]; exact r.ls, by rw [List.length_set]; exact r.la, fun j hj => ?_, r.rl, fun j b ds h1 h2 => ?_, (List.Sublist.append_left (owns_set_sub al i) ρ).nodup r.nd, r.pre, fun b h => r.newO b (owns_set_mem h), r.newR, r.fr,
    fun b h => ⟨(r.o0 b h).1, (r.o0 b h).2.1, fun m => (r.o0 b h).2.2 (owns_set_mem m)⟩, r.frN, r.tb, r.cr⟩
  · rw [gS_set, getD_set, r.ls, r.la]
    by_cases e : j = i
    · subst e
      rw [if_pos ⟨rfl, hj⟩, if_pos ⟨rfl, hj⟩]
      exact ⟨rfl, _, z2, q⟩
    · rw [if_neg fun z => e z.1, if_neg fun z => e z.1]
      have z := r.sl j hj
      cases w : gS σ j with
      | no => rw [w] at z; exact z
      | lm => rw [w] at z; exact z
      | er c => rw [w] at z; exact z
      | sh d' =>
        rw [w] at z
        obtain ⟨z1, x, z2, z3⟩ := z
        exact ⟨z1, x, z2, z3.mono ⟨[], by simp⟩ k⟩
      | ow d' =>
        rw [w] at z
        obtain ⟨b, z1, z2, z3⟩ := z
        exact ⟨b, z1, z2, z3.mono k⟩
  · obtain ⟨vs, h3, h4⟩ := r.rf j b ds h1 h2
    exact ⟨vs, h3, h4.mono ⟨[], by simp⟩ k⟩
/-- a list with identity is changed -/
theorem Rel.updRf (r : Rel F A ρ al σ R σV H) {i : Nat} {a : Addr} {vs : List V} {ds : List D} (ha : ρ[i]? = some a) (q : RDs F ρ (mask H (OO A ρ al)) vs ds) :
    Rel F A ρ al σ (R.set i ds) σV (upd H a (.lst vs)) := by
  have am : a ∈ ρ := List.mem_of_getElem? ha
  have hm : mask (upd H a (.lst vs)) (OO A ρ al) = mask H (OO A ρ al) := mask_upd (mem_OO.mpr (.inr (.inl am)))
  have nr := (List.nodup_append.mp r.nd).1
  refine ⟨r.ls, r.la, fun j hj => ?_, by rw [List.length_set]; exact r.rl, fun j b es e1 e2 => ?_, r.nd, r.pre, r.newO, r.newR, fun b u e n t => ?_, fun b hb => ?_, fun b e => ?_, tabs_upd r.tb (by
    obtain ⟨us, q1⟩ := r.ltR am
    exact lst_no q1), r.cr⟩
  · rw [hm]
    have z := r.sl j hj
    cases w : gS σ j with
    | no => rw [w] at z; exact z
    | lm => rw [w] at z; exact z
    | er c => rw [w] at z; exact z
    | sh d => rw [w] at z; exact z
    | ow d =>
      rw [w] at z
      obtain ⟨b, q1, q2, q3⟩ := z
      have ne : b ≠ a := by
        intro e3
        subst e3
        exact (List.nodup_append.mp r.nd).2.2 b am b (mem_owns.mpr ⟨j, getDA q1⟩) rfl
      refine ⟨b, q1, q2, ?_⟩
      cases d <;> first | exact False.elim q3 | (obtain ⟨vs, q4, q5⟩ := q3; exact ⟨vs, by rw [upd_ne ne]; exact q4, q5⟩)
  · rw [hm]
    by_cases e : b = a
    · subst e
      have : i = j := by
        obtain ⟨h1, h2⟩ := List.getElem?_eq_some_iff.mp ha
        obtain ⟨h3, h4⟩ := List.getElem?_eq_some_iff.mp e1
        exact (List.getElem_inj nr).mp (h2.trans h4.symm)
      subst this
      rw [List.getElem?_set_self (by rw [← r.rl]; exact (List.getElem?_eq_some_iff.mp ha).1)] at e2
      cases e2
      exact ⟨vs, upd_same, q⟩
    · have ne : i ≠ j := by
        intro z
        subst z
        rw [ha] at e1
        cases e1
        exact e rfl
      rw [List.getElem?_set_ne ne] at e2
      obtain ⟨us, q1, q2⟩ := r.rf j b es e1 e2
      exact ⟨us, by rw [upd_ne e]; exact q1, q2⟩
  · by_cases z : b = a
    · subst z
      have := r.newR b am n
      rw [e] at this
      cases this
    · rw [upd_ne z]
      exact r.fr b u e n t
  · obtain ⟨g1, g2, g3⟩ := r.o0 b hb
    refine ⟨?_, g2, g3⟩
    by_cases e : b = a
    · subst e; exact absurd am g2
    · rw [upd_ne e]; exact g1
  · by_cases z : b = a
    · subst z; rw [upd_same]; simp
    · rw [upd_ne z]; exact r.frN b e
/-- a new list with identity -/
theorem Rel.newRf (r : Rel F (A.add p) ρ al σ R σV H) (he : A.He p = none) (hn : p ∉ A.O0) {vs : List V} {ds : List D} (hp : H p = some (.lst vs)) (q : RDs F ρ (mask H (OO (A.add p) ρ al)) vs ds) :
    Rel F A (ρ ++ [p]) al σ (R ++ [ds]) σV H := by
  obtain ⟨p1, p2, p3⟩ := r.o0 p List.mem_cons_self
  have k : ∀ b o, mask H (OO (A.add p) ρ al) b = some o → mask H (OO A (ρ ++ [p]) al) b = some o := fun b o h => by
    obtain ⟨h1, h2⟩ := mask_some h
    refine mask_mk (fun m => h2 ?_) h1 (mask_nt h)
    rcases mem_OO.mp m with m | m | m
    · exact mem_add.mpr (.inr (mem_OO.mpr (.inl m)))
    · rcases List.mem_append.mp m with m | m
      · exact mem_add.mpr (.inr (mem_OO.mpr (.inr (.inl m))))
      · exact mem_add.mpr (.inl (List.mem_singleton.mp m))
    · exact mem_add.mpr (.inr (mem_OO.mpr (.inr (.inr m))))
  have pre : ∃ e : List Addr, ρ ++ [p] = ρ ++ e := ⟨[p], rfl⟩
  obtain ⟨n1, n2, n3⟩ := List.nodup_append.mp r.nd
  refine ⟨r.ls, r.la, fun j hj => ?_, by rw [List.length_append, List.length_append, r.rl]; rfl, fun j a es h1 h2 => ?_, ?_, ?_, r.newO, fun a h n => ?_, r.fr, fun a h => ?_, r.frN, r.tb, fun O1 H1 ρ1 e => ⟨fun a h => (r.cr O1 H1 ρ1 e).1 a (List.mem_cons_of_mem _ h), (r.cr O1 H1 ρ1 e).2⟩⟩
  · have z := r.sl j hj
    cases w : gS σ j with
    | no => rw [w] at z; exact z
    | lm => rw [w] at z; exact z
    | er c => rw [w] at z; exact z
    | sh d' =>
      rw [w] at z
      obtain ⟨z1, x, z2, z3⟩ := z
      exact ⟨z1, x, z2, z3.mono pre k⟩
    | ow d' =>
      rw [w] at z
      obtain ⟨a, z1, z2, z3⟩ := z
      refine ⟨a, z1, z2, ?_⟩
      cases d' <;> first | exact False.elim z3 | (obtain ⟨vs, q4, q5⟩ := z3; exact ⟨vs, q4, q5.mono pre k⟩)
  · by_cases hj : j < ρ.length
    · rw [List.getElem?_append_left hj] at h1
      rw [List.getElem?_append_left (by rw [← r.rl]; exact hj)] at h2
      obtain ⟨us, h3, h4⟩ := r.rf j a es h1 h2
      exact ⟨us, h3, h4.mono pre k⟩
    · have : j = ρ.length := by
        have := (List.getElem?_eq_some_iff.mp h1).1
        rw [List.length_append] at this
        simp at this
        omega
      subst this
      rw [List.getElem?_append_right (Nat.le_refl _), Nat.sub_self] at h1
      rw [r.rl, List.getElem?_append_right (Nat.le_refl _), Nat.sub_self] at h2
      cases h1
      cases h2
      exact ⟨vs, hp, q.mono pre k⟩
  · rw [List.append_assoc]
    refine List.nodup_append.mpr ⟨n1, List.nodup_cons.mpr ⟨p3, n2⟩, fun a h b hb e => ?_⟩
    subst e
    rcases List.mem_cons.mp hb with e | hb
    · subst e; exact p2 h
    · exact n3 a h a hb rfl
  · obtain ⟨x, hx⟩ := r.pre
    have hx : ρ = A.re ++ x := hx
    exact ⟨x ++ [p], by rw [hx, List.append_assoc]⟩
  · rcases List.mem_append.mp h with h | h
    · exact r.newR a h n
    · rw [List.mem_singleton.mp h]; exact he
  · obtain ⟨h1, h2, h3⟩ := r.o0 a (List.mem_cons_of_mem _ h)
    refine ⟨h1, fun m => ?_, h3⟩
    rcases List.mem_append.mp m with m | m
    · exact h2 m
    · rw [List.mem_singleton.mp m] at h; exact hn h
end
end Cw

end
section
/-! CwQ: statements. -/
namespace Cw
open PySem L2 PyProof.Rows PySem.W
def forL (f : D → List Sl → RH → Res (Fl × List Sl)) : List D → List Sl → RH → Res (Fl × List Sl)
  | [], σ, R => .ok (.nx, σ) R
  | d :: ds, σ, R => match f d σ R with
    | .ok (.nx, σ1) R1 => forL f ds σ1 R1
    | .ok (.ct, σ1) R1 => forL f ds σ1 R1
    | .ok (.bk, σ1) R1 => .ok (.nx, σ1) R1
    | .ok (.rt v, σ1) R1 => .ok (.rt v, σ1) R1
    | .exc c R1 => .exc c R1
    | .bad => .bad
def whlL (c : List Sl → RH → Res D) (b : List Sl → RH → Res (Fl × List Sl)) : Nat → List Sl → RH → Res (Fl × List Sl)
  | 0, _, _ => .bad
  | n + 1, σ, R => match c σ R with
    | .ok (.bl true) R1 => match b σ R1 with
      | .ok (.nx, σ1) R2 => whlL c b n σ1 R2
      | .ok (.ct, σ1) R2 => whlL c b n σ1 R2
      | .ok (.bk, σ1) R2 => .ok (.nx, σ1) R2
      | .ok (.rt v, σ1) R2 => .ok (.rt v, σ1) R2
      | .exc c R2 => .exc c R2
      | .bad => .bad
    | .ok (.bl false) R1 => .ok (.nx, σ) R1
    | .exc c R1 => .exc c R1
    | _ => .bad
def sqK (g : List Sl → RH → Res (Fl × List Sl)) : Res (Fl × List Sl) → Res (Fl × List Sl)
  | .ok (.nx, σ) R => g σ R
  | r => r
section
variable (ck : Nat → List D → RH → Res D)
def popD (σ : List Sl) (i : Nat) (k : Option Int) (R : RH) : Res (D × List Sl) := match gS σ i with
  | .ow (.lst ds) => match k with
    | none => match ds[ds.length - 1]? with
      | some d => .ok (d, sS σ i (.ow (.lst ds.dropLast))) R
      | none => .bad
    | some k => match ixN ds.length k with
      | some j => match ds[j]? with
        | some d => .ok (d, sS σ i (.ow (.lst (ds.eraseIdx j)))) R
        | none => .bad
      | none => .bad
  | _ => .bad
def evSE : SE → List Sl → RH → Res (D × List Sl)
  | .ex e, σ, R => (stx e σ (ev ck e σ R)).bind fun d R => .ok (d, σ) R
  | .pop i, σ, R => popD σ i none R
  | .popAt i e, σ, R => match gS σ i with
    | .ow (.lst _) => (ev ck e σ R).bind fun x R => match x with
      | .int k => popD σ i (some k) R
      | _ => .bad
    | _ => .bad
  | .nref e, σ, R => (ev ck e σ R).bind fun d R => match d with
    | .lst ds => .ok (.ref R.length, σ) (R ++ [ds])
    | _ => .bad
def evP : List (Nat × Bool) → Exs → List Sl → RH → Res (List D)
  | [], .nil, _, R => .ok [] R
  | (_, b) :: is, .cons e es, σ, R => (if b = true then ev ck e σ R else stx e σ (ev ck e σ R)).bind fun d R => if b = true ∧ ownable d = false then .bad else (evP is es σ R).bind fun ds R => .ok (d :: ds) R
  | _, _, _, _ => .bad
def setP : List (Nat × Bool) → List D → List Sl → List Sl
  | (i, b) :: is, d :: ds, σ => setP is ds (sS σ i (if b = true then .ow d else .sh d))
  | _, _, σ => σ
/-- x[k] = d, of an own list or dict -/
def putD : D → D → D → Option D
  | .lst ds, .int k, d => match ixN ds.length k with
    | some j => some (.lst (ds.set j d))
    | none => none
  | _, _, _ => none
def augD : Bop → D → D → Option D
  | .add, .int i, .int j => some (.int (i + j))
  | .sub, .int i, .int j => some (.int (i - j))
  | _, _, _ => none
def extD : D → D → Option D
  | .lst xs, .lst ys => if xs.length + ys.length ≤ sizeLine then some (.lst (xs ++ ys)) else none
  | _, _ => none
def ofS (o : Option D) (i : Nat) (σ : List Sl) (R : RH) : Res (Fl × List Sl) := match o with
  | some d => .ok (.nx, sS σ i (.ow d)) R
  | none => .bad
def unEr : List Sl → List Sl
  | [] => []
  | .er _ :: σ => .no :: unEr σ
  | s :: σ => s :: unEr σ
/-- an except suite's end: the error's name is gone -/
def endX (j : Nat) : Res (Fl × List Sl) → Res (Fl × List Sl)
  | .ok (.rt d, σ) R => .ok (.rt d, σ) R
  | .ok (f, σ) R => match gS σ j with
    | .er _ => .ok (f, unEr σ) R
    | _ => .bad
  | _ => .bad
/-- what stands in a try -/
def tkR (k : Tk) (v : D) (σ : List Sl) (R : RH) : Res (Fl × List Sl) := match k with
  | .xpr => .ok (.nx, σ) R
  | .ret => .ok (.rt v, σ) R
  | .set i => .ok (.nx, sS σ i (.sh v)) R
mutual
def exec (fu : Nat) : Sm → List Sl → RH → Res (Fl × List Sl)
  | .set i e, σ, R => (evSE ck e σ R).bind fun p R => .ok (.nx, sS p.2 i (.sh p.1)) R
  | .own i e, σ, R => (ev ck e σ R).bind fun d R => if ownable d = true then .ok (.nx, sS σ i (.ow d)) R else .bad
  | .unp ts e, σ, R => (evSE ck e σ R).bind fun p R => match setT (.tp ts) p.1 p.2 with
    | some σ1 => .ok (.nx, σ1) R
    | none => .bad
  | .par is es, σ, R => (evP ck is es σ R).bind fun ds R => .ok (.nx, setP is ds σ) R
  | .xpr e, σ, R => (evSE ck e σ R).bind fun p R => .ok (.nx, p.2) R
  | .app i e, σ, R => match gS σ i with
    | .ow (.lst _) => (evSE ck e σ R).bind fun p R => match gS p.2 i with
      | .ow (.lst ds) => if ds.length < sizeLine then .ok (.nx, sS p.2 i (.ow (.lst (ds ++ [p.1])))) R else .bad
      | _ => .bad
    | _ => .bad
  | .ext i e, σ, R => match gS σ i with
    | .ow (.lst ds) => (ev ck e σ R).bind fun y R => ofS (extD (.lst ds) y) i σ R
    | _ => .bad
  | .sub i k e, σ, R => (stx e σ (ev ck e σ R)).bind fun d R => match gS σ i with
    | .ow o => (ev ck k σ R).bind fun y R => ofS (putD o y d) i σ R
    | _ => .bad
  | .su2 i k j l a b, σ, R => (stx a σ (ev ck a σ R)).bind fun d R => (stx b σ (ev ck b σ R)).bind fun d' R => match gS σ i with
    | .ow o => (ev ck k σ R).bind fun y R => match putD o y d with
      | some o' => match gS (sS σ i (.ow o')) j with
        | .ow o2 => (ev ck l (sS σ i (.ow o')) R).bind fun y' R => ofS (putD o2 y' d') j (sS σ i (.ow o')) R
        | _ => .bad
      | none => .bad
    | _ => .bad
  | .aug i o e, σ, R => match gS σ i with
    | .sh d => (ev ck e σ R).bind fun y R => match augD o d y with
      | some z => .ok (.nx, sS σ i (.sh z)) R
      | none => .bad
    | _ => .bad
  | .asb i k o e, σ, R => match gS σ i with
    | .ow l => (ev ck k σ R).bind fun y R => match idxD R l y with
      | some x => (ev ck e σ R).bind fun w R => match augD o x w with
        | some z => ofS (putD l y z) i σ R
        | none => .bad
      | none => .bad
    | _ => .bad
  | .rsb r k e, σ, R => (stx e σ (ev ck e σ R)).bind fun d R => (ev ck r σ R).bind fun q R => (ev ck k σ R).bind fun y R => match q, y with
    | .ref n, .int k => match R[n]? with
      | some ds => match ixN ds.length k with
        | some j => .ok (.nx, σ) (R.set n (ds.set j d))
        | none => .bad
      | none => .bad
    | _, _ => .bad
  | .rpp r k, σ, R => (ev ck r σ R).bind fun q R => match q with
    | .ref n => (ev ck k σ R).bind fun y R => match y with
      | .int k => match R[n]? with
        | some ds => match ixN ds.length k with
          | some j => .ok (.nx, σ) (R.set n (ds.eraseIdx j))
          | none => .bad
        | none => .bad
      | _ => .bad
    | _ => .bad
  | .ite c a b, σ, R => (ev ck c σ R).bind fun x R => match x with
    | .bl true => execs fu a σ R
    | .bl false => execs fu b σ R
    | _ => .bad
  | .for_ tg it body, σ, R => (evis ck true it σ R).bind fun ds R => forL (fun d σ R => match setT tg d σ with
    | none => .bad
    | some σ1 => execs fu body σ1 R) ds σ R
  | .whl c body, σ, R => whlL (fun σ R => ev ck c σ R) (fun σ R => execs fu body σ R) fu σ R
  | .ret (.ex e), σ, R => (ev ck e σ R).bind fun d R => .ok (.rt d, σ) R
  | .ret e, σ, R => (evSE ck e σ R).bind fun p R => .ok (.rt p.1, p.2) R
  | .retN, σ, R => .ok (.rt .non, σ) R
  | .raise c, _, R => .exc c R
  | .tryx k e j _ suite, σ, R => match stx e σ (ev ck e σ R) with
    | .ok v R' => tkR k v σ R'
    | .exc c R' => match gS σ j with
      | .no => endX j (execs fu suite (sS σ j (.er c)) R')
      | _ => .bad
    | .bad => .bad
  | .pas, σ, R => .ok (.nx, σ) R
  | .brk, σ, R => .ok (.bk, σ) R
  | .cnt, σ, R => .ok (.ct, σ) R
  | .esc is, σ, R => .ok (.nx, escS is σ) R
  | .kil _, _, _ => .bad
def execs (fu : Nat) : Sms → List Sl → RH → Res (Fl × List Sl)
  | .nil, σ, R => .ok (.nx, σ) R
  | .cons s ss, σ, R => sqK (fun σ R => execs fu ss σ R) (exec fu s σ R)
end
end
def PostS (F : Fx) (A : Act) (W : XW) (r : Res (Fl × List Sl)) (Dn : Ends) : Prop := match r with
  | .ok (.nx, σ') R' => ∀ ρ' al' σV' H', Rel F A ρ' al' σ' R' σV' H' → Dn.nx σV' H'
  | .ok (.bk, σ') R' => ∀ ρ' al' σV' H', Rel F A ρ' al' σ' R' σV' H' → Dn.bk σV' H'
  | .ok (.ct, σ') R' => ∀ ρ' al' σV' H', Rel F A ρ' al' σ' R' σV' H' → Dn.ct σV' H'
  | .ok (.rt d, _) R' => ∀ v ρ' al' σ'' σV' H', Rel F A ρ' al' σ'' R' σV' H' → RM F A al' ρ' H' v d → Dn.rt v H'
  | .exc c R' => ∀ ρ' al' σ'' σV' H', Rel F A ρ' al' σ'' R' σV' H' → W c σV' H'
  | .bad => False
section
variable (F : Fx) (W : XW) (ck : Nat → List D → RH → Res D) (fu : Nat)
def tSt (s : Sm) : TS := fun Dn σV H => ∃ A ρ al σ R, Rel F A ρ al σ R σV H ∧ PostS F A W (exec ck fu s σ R) Dn
def tSts (s : Sms) : TS := fun Dn σV H => ∃ A ρ al σ R, Rel F A ρ al σ R σV H ∧ PostS F A W (execs ck fu s σ R) Dn
end
theorem PS.by {X : Cx} {s : Stmt} {t t' : TS} (h : PS X s t) (i : ∀ D σ H, t' D σ H → t D σ H) : PS X s t' := ⟨fun pins s σ H D I q => h.run pins s σ H D I (i D σ H q)⟩
theorem PSs.by {X : Cx} {s : List Stmt} {t t' : TS} (h : PSs X s t) (i : ∀ D σ H, t' D σ H → t D σ H) : PSs X s t' := ⟨fun pins s σ H D I q => h.run pins s σ H D I (i D σ H q)⟩
section
variable {F : Fx} {A : Act} {W : XW} {ck : Nat → List D → RH → Res D} {fu : Nat} {X : Cx} {e : Expr} {st : Stmt} {sts : List Stmt} {x : Ex} {ρ ρ1 ρ' : List Addr} {al : List (Option Addr)} {σ : List Sl} {R R' : RH} {σV : L2.St} {H H1 H' : Hp} {p : Addr} {o : HO} {Dn : Ends} {pos : Pos}
/-- an expression at the head of a statement -/
theorem PostS.bind {α β : Type} {r : Res α} {f : α → RH → Res (Fl × List Sl)} {Rl : List Addr → Hp → β → α → Prop} {Q1 : β → Hp → Prop} (p : PostS F A W (r.bind f) Dn)
    (h : ∀ d R1 v H1 ρ1, Rel F A ρ1 al σ R1 σV H1 → Ext ρ H ρ1 H1 → Rl ρ1 H1 v d → PostS F A W (f d R1) Dn → Q1 v H1) : Post F A al W σ σV ρ H r Rl Q1 := by
  cases r with
  | ok d R' => exact fun v H' ρ' a b c => h d R' v H' ρ' a b c p
  | exc c R' => exact fun H' ρ' a b => p ρ' al σ σV H' a
  | bad => exact p
theorem PostS.bindF {r : Res D} {f : D → RH → Res (Fl × List Sl)} {Q1 : VK} (p : PostS F A W (r.bind f) Dn) (ho : ∀ d R1, PostS F A W (f d R1) Dn → ownable d = true)
    (h : ∀ d R1 a H1 ρ1, Rel F (A.add a) ρ1 al σ R1 σV H1 → Ext ρ H ρ1 H1 → H a = none → OwR F ρ1 (mask H1 (OO (A.add a) ρ1 al)) H1 a d → PostS F A W (f d R1) Dn → Q1 (.ref a) H1) : PostF F A al W σ σV ρ H r Q1 := by
  cases r with
  | ok d R' => exact ⟨ho d R' p, fun a H' ρ' r' b c q => h d R' a H' ρ' r' b c q p⟩
  | exc c R' => exact fun H' ρ' a b => p ρ' al σ σV H' a
  | bad => exact p
theorem snd_nilSts : PSs X [] (tSts F W ck fu .nil) := PSs.by pss_nil fun Dn σV H ⟨A, ρ, al, σ, R, r, p⟩ => p ρ al σV H r
theorem snd_consSts {s : Sm} {ss : Sms} (h1 : PS X st (tSt F W ck fu s)) (h2 : PSs X sts (tSts F W ck fu ss)) : PSs X (st :: sts) (tSts F W ck fu (.cons s ss)) :=
  PSs.by (pss_cons h1 h2) fun Dn σV H ⟨A, ρ, al, σ, R, r, p⟩ => ⟨A, ρ, al, σ, R, r, by
    have p : PostS F A W (sqK (fun σ R => execs ck fu ss σ R) (exec ck fu s σ R)) Dn := p
    cases q : exec ck fu s σ R with
    | ok a R' =>
      obtain ⟨f, σ'⟩ := a
      rw [q] at p
      cases f with
      | nx => exact fun ρ' al' σV' H' r' => ⟨A, ρ', al', σ', R', r', p⟩
      | bk => exact p
      | ct => exact p
      | rt d => exact p
    | exc c R' => rw [q] at p; exact p
    | bad => rw [q] at p; exact p⟩
/-- a ghost ahead of a statement -/
theorem snd_esc {is : List Nat} {ss : Sms} (h : PSs X sts (tSts F W ck fu ss)) : PSs X sts (tSts F W ck fu (.cons (.esc is) ss)) :=
  PSs.by h fun Dn σV H ⟨A, ρ, al, σ, R, r, p⟩ => by
    have p : PostS F A W (execs ck fu ss (escS is σ) R) Dn := p
    have : ∀ (is : List Nat) (σ : List Sl) (al : List (Option Addr)), Rel F A ρ al σ R σV H → ∃ al', Rel F A ρ al' (escS is σ) R σV H := by
      intro is
      induction is with
      | nil => exact fun σ al r => ⟨al, r⟩
      | cons i is ih =>
        intro σ al r
        show ∃ al', Rel F A ρ al' (escS is (match gS σ i with | .ow d => sS σ i (.sh d) | _ => σ)) R σV H
        cases g : gS σ i with
        | no => exact ih σ al r
        | lm => exact ih σ al r
        | er c => exact ih σ al r
        | sh d => exact ih σ al r
        | ow d => exact ih _ _ (r.esc g)
    obtain ⟨al', r'⟩ := this is σ al r
    exact ⟨A, ρ, al', escS is σ, R, r', p⟩
theorem snd_pas : PS X (.Pass pos) (tSt F W ck fu .pas) := PS.by ps_pass fun Dn σV H ⟨A, ρ, al, σ, R, r, p⟩ => p ρ al σV H r
theorem snd_brk : PS X (.Break pos) (tSt F W ck fu .brk) := PS.by ps_break fun Dn σV H ⟨A, ρ, al, σ, R, r, p⟩ => p ρ al σV H r
theorem snd_cnt : PS X (.Continue pos) (tSt F W ck fu .cnt) := PS.by ps_continue fun Dn σV H ⟨A, ρ, al, σ, R, r, p⟩ => p ρ al σV H r
theorem snd_retN : PS X (.Return none pos) (tSt F W ck fu .retN) := PS.by ps_retN fun Dn σV H ⟨A, ρ, al, σ, R, r, p⟩ => p .non ρ al σ σV H r RD.non
theorem snd_retS (hv : isVar x = false) (h : PE X e (tS F W ck x)) : PS X (.Return (some e) pos) (tSt F W ck fu (.ret (.ex x))) :=
  PS.by (ps_ret h) fun Dn σV H ⟨A, ρ, al, σ, R, r, p⟩ => ⟨A, ρ, al, σ, R, r, by
    rw [stx_not hv]
    exact PostS.bind (show PostS F A W ((ev ck x σ R).bind fun d R => .ok (.rt d, σ) R) Dn from p) fun d R1 v H1 ρ1 r1 e1 q1 p1 => p1 v ρ1 al σ σV H1 r1 q1⟩
theorem snd_retV {i : Nat} (h : PE X e (tVar i)) : PS X (.Return (some e) pos) (tSt F W ck fu (.ret (.ex (.var i)))) :=
  PS.by (ps_ret h) fun Dn σV H ⟨A, ρ, al, σ, R, r, p⟩ => by
    have p : PostS F A W ((Res.of (gS σ i).val R).bind fun d R => .ok (.rt d, σ) R) Dn := p
    cases q : gS σ i with
    | no => rw [q] at p; exact p.elim
    | lm => rw [q] at p; exact p.elim
    | er c => rw [q] at p; exact p.elim
    | sh d =>
      rw [q] at p
      obtain ⟨v, h1, h2⟩ := r.sh q
      exact ⟨v, h1, p v ρ al σ σV H r h2⟩
    | ow d =>
      rw [q] at p
      have r2 := r.esc q
      obtain ⟨a, h1, _⟩ := r.ow q
      obtain ⟨v, h3, h4⟩ := r2.sh (i := i) (d := d) (by rw [gS_set, if_pos ⟨rfl, slot_at q (by simp)⟩])
      exact ⟨v, h3, p v ρ _ _ σV H r2 h4⟩
/-! ### values of statements -/
def PostE (F : Fx) (A : Act) (al : List (Option Addr)) (W : XW) (σV : L2.St) (r : Res (D × List Sl)) (Q : VK) : Prop := match r with
  | .ok (d, σ') R' => ∀ v H' ρ', Rel F A ρ' al σ' R' σV H' → RM F A al ρ' H' v d → Q v H'
  | .exc c R' => ∀ H' ρ' σ', Rel F A ρ' al σ' R' σV H' → W c σV H'
  | .bad => False
def tSE (F : Fx) (W : XW) (ck : Nat → List D → RH → Res D) (s : SE) : TE := fun σV H Q => ∃ A ρ al σ R, Rel F A ρ al σ R σV H ∧ PostE F A al W σV (evSE ck s σ R) Q
theorem PostE.bind {α β : Type} {r : Res α} {f : α → RH → Res (D × List Sl)} {Rl : List Addr → Hp → β → α → Prop} {Q : VK} {Q1 : β → Hp → Prop} (p : PostE F A al W σV (r.bind f) Q)
    (h : ∀ d R1 v H1 ρ1, Rel F A ρ1 al σ R1 σV H1 → Ext ρ H ρ1 H1 → Rl ρ1 H1 v d → PostE F A al W σV (f d R1) Q → Q1 v H1) : Post F A al W σ σV ρ H r Rl Q1 := by
  cases r with
  | ok d R' => exact fun v H' ρ' a b c => h d R' v H' ρ' a b c p
  | exc c R' => exact fun H' ρ' a b => p H' ρ' σ a
  | bad => exact p
theorem seEx (h : PE X e (tS F W ck x)) : PE X e (tSE F W ck (.ex x)) := PE.by h fun σV H Q ⟨A, ρ, al, σ, R, r, p⟩ => ⟨A, ρ, al, σ, R, r,
  PostE.bind (show PostE F A al W σV ((stx x σ (ev ck x σ R)).bind fun d R => .ok (d, σ) R) Q from p) fun d R1 v H1 ρ1 r1 e1 q1 p1 => p1 v H1 ρ1 r1 q1⟩
theorem seNref (h : PE X e (tF F W ck x)) : PE X e (tSE F W ck (.nref x)) := PE.by h fun σV H Q ⟨A, ρ, al, σ, R, r, p⟩ => ⟨A, ρ, al, σ, R, r, by
  have p : PostE F A al W σV ((ev ck x σ R).bind fun d R => match d with
    | .lst ds => .ok (.ref R.length, σ) (R ++ [ds])
    | _ => .bad) Q := p
  cases q : ev ck x σ R with
  | ok d R' =>
    rw [q] at p
    cases d <;> first | exact p.elim | skip
    refine ⟨rfl, fun a H' ρ' r' e' hp ow => ?_⟩
    obtain ⟨vs, h1, h2⟩ := ow
    have r2 := r'.newRf (r.he hp) (r.notO0 hp) h1 h2
    refine p _ H' _ r2 (RD.ref ?_)
    rw [← r'.rl, List.getElem?_append_right (Nat.le_refl _), Nat.sub_self]
    rfl
  | exc c R' => rw [q] at p; exact fun H' ρ' a b => p H' ρ' σ a
  | bad => rw [q] at p; exact p⟩
/-- name = value -/
theorem snd_set {s : SE} {i : Nat} {y : Str} {py : Pos} (hN : X.N.Nodup) (hi : X.N[i]? = some y) (hx : Loc X.env.scope y) (hf : X.fn y = true ∨ X.env.scope.names.lookup y = some .local) (h : PE X e (tSE F W ck s)) (hs : swapsWith e (some (.Name y py)) pos.line X.env = pure false) :
    PS X (.Assign [.Name y py] e pos) (tSt F W ck fu (.set i s)) :=
  ⟨fun pins sh σV H Dn I ⟨A, ρ, al, σ, R, r, p⟩ => (ps_set hN hi hx h hs hf).run pins sh σV H Dn I ⟨A, ρ, al, σ, R, r, by
    have hl : i < σV.length := by rw [I.len]; exact (List.getElem?_eq_some_iff.mp hi).1
    have p : PostS F A W ((evSE ck s σ R).bind fun p R => .ok (.nx, sS p.2 i (.sh p.1)) R) Dn := p
    cases q : evSE ck s σ R with
    | ok a R' =>
      obtain ⟨d, σ'⟩ := a
      rw [q] at p
      exact fun v H' ρ' r' q' => p _ _ _ _ (r'.setSh hl q')
    | exc c R' => rw [q] at p; exact fun H' ρ' σ' a => p ρ' al σ' σV H' a
    | bad => rw [q] at p; exact p⟩⟩
theorem tF_own {i : Nat} {σV : L2.St} {H : Hp} {Dn : Ends} (hl : i < σV.length) (h : tSt F W ck fu (.own i x) Dn σV H) : tF F W ck x σV H fun v H1 => Dn.nx (σV.set i (some v)) H1 := by
  obtain ⟨A, ρ, al, σ, R, r, p⟩ := h
  have p : PostS F A W ((ev ck x σ R).bind fun d R => if ownable d = true then .ok (.nx, sS σ i (.ow d)) R else .bad) Dn := p
  refine ⟨A, ρ, al, σ, R, r, ?_⟩
  refine PostS.bindF p (fun d R1 p1 => ?_) fun d R1 a H1 ρ1 r1 e1 hp ow p1 => ?_
  · split at p1
    · assumption
    · exact p1.elim
  · split at p1
    · exact p1 _ _ _ _ (r1.setOw hl (r.he hp) (r.notO0 hp) ow)
    · exact p1.elim
/-- name = a new list -/
theorem snd_own {i : Nat} {y : Str} {py : Pos} (hN : X.N.Nodup) (hi : X.N[i]? = some y) (hx : Loc X.env.scope y) (hf : X.fn y = true ∨ X.env.scope.names.lookup y = some .local) (h : PE X e (tF F W ck x)) (hs : swapsWith e (some (.Name y py)) pos.line X.env = pure false) :
    PS X (.Assign [.Name y py] e pos) (tSt F W ck fu (.own i x)) :=
  ⟨fun pins sh σV H Dn I q => (ps_set hN hi hx h hs hf).run pins sh σV H Dn I (tF_own (by rw [I.len]; exact (List.getElem?_eq_some_iff.mp hi).1) q)⟩
/-- by a comprehension on one line -/
theorem snd_ownLc {i : Nat} {t : TS} (hi : i < X.N.length) (h : PS X st (tAsg (tF F W ck x) (gName i))) : PS X st (tSt F W ck fu (.own i x)) :=
  ⟨fun pins sh σV H Dn I q => h.run pins sh σV H Dn I (tF_own (by rw [I.len]; exact hi) q)⟩
theorem snd_setLcS {i : Nat} (hv : isVar x = false) (hx : ∀ (σ : List Sl) (R R' : RH) (d : D), ev ck x σ R = .ok d R' → ownable d = true) (hi : i < X.N.length) (h : PS X st (tAsg (tF F W ck x) (gName i))) : PS X st (tSt F W ck fu (.set i (.ex x))) :=
  ⟨fun pins sh σV H Dn I ⟨A, ρ, al, σ, R, r, p⟩ => h.run pins sh σV H Dn I ⟨A, ρ, al, σ, R, r, by
    have hl : i < σV.length := by rw [I.len]; exact hi
    have p : PostS F A W (((stx x σ (ev ck x σ R)).bind fun d R => .ok (d, σ) R).bind fun p R => .ok (.nx, sS p.2 i (.sh p.1)) R) Dn := p
    rw [stx_not hv] at p
    cases q : ev ck x σ R with
    | ok d R' =>
      rw [q] at p
      exact ⟨hx _ _ _ _ q, fun a H' ρ' r' e' hp ow => p _ _ _ _ (r'.dropO.setSh hl (ow.rm r' (r.notO0 hp)))⟩
    | exc c R' => rw [q] at p; exact fun H' ρ' a _ => p ρ' al σ σV H' a
    | bad => rw [q] at p; exact p⟩⟩
theorem snd_setLcN {i : Nat} (hi : i < X.N.length) (h : PS X st (tAsg (tF F W ck x) (gName i))) : PS X st (tSt F W ck fu (.set i (.nref x))) :=
  ⟨fun pins sh σV H Dn I ⟨A, ρ, al, σ, R, r, p⟩ => h.run pins sh σV H Dn I ⟨A, ρ, al, σ, R, r, by
    have hl : i < σV.length := by rw [I.len]; exact hi
    have p : PostS F A W (((ev ck x σ R).bind fun d R => match d with
      | .lst ds => .ok (.ref R.length, σ) (R ++ [ds])
      | _ => .bad).bind fun p R => .ok (.nx, sS p.2 i (.sh p.1)) R) Dn := p
    cases q : ev ck x σ R with
    | ok d R' =>
      rw [q] at p
      cases d <;> first | exact p.elim | skip
      refine ⟨rfl, fun a H' ρ' r' e' hp ow => ?_⟩
      obtain ⟨vs, h1, h2⟩ := ow
      have r2 := r'.newRf (r.he hp) (r.notO0 hp) h1 h2
      refine p _ _ _ _ (r2.setSh hl (RD.ref ?_))
      rw [← r'.rl, List.getElem?_append_right (Nat.le_refl _), Nat.sub_self]
      rfl
    | exc c R' => rw [q] at p; exact fun H' ρ' a _ => p ρ' al σ σV H' a
    | bad => rw [q] at p; exact p⟩⟩
theorem snd_unp {s : SE} {ts : Tgs} {tg : Expr} (h : PE X e (tSE F W ck s)) (hg : PG X tg (gT F (.tp ts))) (hs : swapsWithSole [tg] e pos.line X.env = pure false) (hw : swappedStores [tg] e X.env = pure none) (h1 : (assignEach [tg] X.env).map (·.2) = [assign tg X.env]) :
    PS X (.Assign [tg] e pos) (tSt F W ck fu (.unp ts s)) :=
  PS.by (ps_asg h hg hs hw h1) fun Dn σV H ⟨A, ρ, al, σ, R, r, p⟩ => ⟨A, ρ, al, σ, R, r, by
    have p : PostS F A W ((evSE ck s σ R).bind fun p R => match setT (.tp ts) p.1 p.2 with
      | some σ1 => .ok (.nx, σ1) R
      | none => .bad) Dn := p
    cases q : evSE ck s σ R with
    | ok a R' =>
      obtain ⟨d, σ'⟩ := a
      rw [q] at p
      simp only [Res.bind] at p
      cases z : setT (.tp ts) d σ' with
      | none => rw [z] at p; exact p.elim
      | some σ1 =>
        rw [z] at p
        exact fun v H' ρ' r' q' => ⟨A, ρ', al, σ', R', d, σ1, r', q', z, fun σV' al' r2 _ _ _ _ => p _ _ _ _ r2⟩
    | exc c R' => rw [q] at p; exact fun H' ρ' σ' a => p ρ' al σ' σV H' a
    | bad => rw [q] at p; exact p⟩
theorem snd_xpr {s : SE} (h : PE X e (tSE F W ck s)) (hs : swapsWith e none pos.line X.env = pure false) : PS X (.Expr e pos) (tSt F W ck fu (.xpr s)) :=
  PS.by (ps_expr h hs) fun Dn σV H ⟨A, ρ, al, σ, R, r, p⟩ => ⟨A, ρ, al, σ, R, r, by
    have p : PostS F A W ((evSE ck s σ R).bind fun p R => .ok (.nx, p.2) R) Dn := p
    cases q : evSE ck s σ R with
    | ok a R' =>
      obtain ⟨d, σ'⟩ := a
      rw [q] at p
      exact fun v H' ρ' r' q' => p _ _ _ _ r'
    | exc c R' => rw [q] at p; exact fun H' ρ' σ' a => p ρ' al σ' σV H' a
    | bad => rw [q] at p; exact p⟩
theorem snd_if {c : Expr} {a b : List Stmt} {xc : Ex} {xa xb : Sms} (hc : PT X c (tQ (tS F W ck xc))) (ha : PSs X a (tSts F W ck fu xa)) (hb : PSs X b (tSts F W ck fu xb)) : PS X (.If c a b pos) (tSt F W ck fu (.ite xc xa xb)) :=
  PS.by (ps_if hc ha hb) fun Dn σV H ⟨A, ρ, al, σ, R, r, p⟩ => ⟨A, ρ, al, σ, R, r, by
    have p : PostS F A W ((ev ck xc σ R).bind fun x R => match x with
      | .bl true => execs ck fu xa σ R
      | .bl false => execs ck fu xb σ R
      | _ => .bad) Dn := p
    cases q : ev ck xc σ R with
    | exc c R' =>
      rw [q] at p
      have : stx xc σ (Res.exc c R' : Res D) = .exc c R' := by
        cases xc <;> first | rfl | skip
        simp only [ev] at q
        cases z : (gS σ _).val with
        | none => rw [z] at q; cases q
        | some d => rw [z] at q; cases q
      rw [this]
      exact fun H' ρ' a _ => p ρ' al σ σV H' a
    | bad => rw [q] at p; exact p.elim
    | ok d R' =>
      rw [q] at p
      cases d <;> first | exact p.elim | skip
      rename_i b
      have := stx_bl r q
      rw [q] at this
      rw [this]
      intro v H' ρ' r' e' q'
      cases q'
      refine ⟨b, rfl, ?_⟩
      cases b with
      | true => exact ⟨A, ρ', al, σ, R', r', p⟩
      | false => exact ⟨A, ρ', al, σ, R', r', p⟩⟩
end
end Cw

end
section
/-! CwR: statements that change lists. -/
namespace Cw
open PySem L2 PyProof.Rows PySem.W
theorem dl_eq {α : Type} : ∀ l : List α, l.dropLast = l.eraseIdx (l.length - 1)
  | [] => rfl
  | [a] => rfl
  | a :: b :: l => congrArg (a :: ·) (dl_eq (b :: l))
theorem few_one {env : Env} {e : Expr} {cpos : Pos} (hs : isStar e = false) : ((backTo cpos (starEach [e] env)).all (fun x => !x.1) && (backToKw cpos (keywordEach [] env)).all (fun x => x.1.isSome)
      && decide (([e] : List Expr).length + ([] : List Keyword).length + (if ([] : List Keyword).isEmpty then 0 else 1) < 30)) = true := by
  rw [star_cons hs]; rfl
section
variable {F : Fx} {A : Act} {W : XW} {ck : Nat → List D → RH → Res D} {fu : Nat} {X : Cx} {e o : Expr} {st : Stmt} {sts : List Stmt} {x : Ex} {ρ ρ1 ρ' : List Addr} {al : List (Option Addr)} {σ : List Sl} {R R' : RH} {σV : L2.St} {H H1 H' : Hp} {a p : Addr} {Dn : Ends} {pos apos cpos : Pos} {i : Nat} {y : Str}
theorem Rel.owL (r : Rel F A ρ al σ R σV H) {i : Nat} {ds : List D} (h : gS σ i = .ow (.lst ds)) : ∃ a vs, σV[i]? = some (some (.ref a)) ∧ al.getD i none = some a ∧ H a = some (.lst vs) ∧ RDs F ρ (mask H (OO A ρ al)) vs ds ∧ a ∈ owns al ∧ a ∉ ρ := by
  obtain ⟨a, h1, h2, h3, h4, vs, h5, h6⟩ := r.ow h
  exact ⟨a, vs, h1, h2, h5, h6, h3, h4⟩
theorem Rel.ownM (r : Rel F A ρ al σ R σV H) (o : HO) (h : a ∈ owns al) : mask (upd H a o) (OO A ρ al) = mask H (OO A ρ al) := mask_upd (mem_OO.mpr (.inr (.inr h)))
/-- a list that is changed where it lies -/
theorem Rel.updL (r : Rel F A ρ al σ R σV H) {i : Nat} {d : D} {vs : List V} {ds : List D} (g : gS σ i = .ow d) (ha : al.getD i none = some a) (q : RDs F ρ (mask H (OO A ρ al)) vs ds) :
    Rel F A ρ al (sS σ i (.ow (.lst ds))) R σV (upd H a (.lst vs)) := r.updOw g ha ⟨vs, upd_same, q⟩
theorem sq_lst {K : PySem.W.Frag} {vs : List V} (h : H a = some (.lst vs)) : SqL K H a vs := .of h
theorem ty_lst {K : PySem.W.Frag} {vs : List V} (h : H a = some (.lst vs)) : tyV K "list" (.ref a) H := .inl ⟨rfl, vs, .of h⟩
/-! pop -/
theorem popD_ok {σ : List Sl} {i : Nat} {k : Option Int} {R : RH} {Q : VK} (p : PostE F A al W σV (popD σ i k R) Q) : ∃ ds j d, gS σ i = .ow (.lst ds) ∧ ds[j]? = some d ∧ (match k with | none => j = ds.length - 1 | some k => ixN ds.length k = some j) ∧ popD σ i k R = .ok (d, sS σ i (.ow (.lst (ds.eraseIdx j)))) R := by
  unfold popD at p ⊢
  cases q : gS σ i with
  | no => rw [q] at p; exact p.elim
  | lm => rw [q] at p; exact p.elim
  | er c => rw [q] at p; exact p.elim
  | sh d => rw [q] at p; exact p.elim
  | ow d =>
    rw [q] at p
    cases d <;> first | exact p.elim | skip
    rename_i ds
    cases k with
    | none =>
      simp only at p ⊢
      cases z : ds[ds.length - 1]? with
      | none => rw [z] at p; exact p.elim
      | some d =>
        refine ⟨ds, ds.length - 1, d, rfl, z, rfl, ?_⟩
        simp only
        rw [dl_eq]
    | some k =>
      simp only at p ⊢
      cases z : ixN ds.length k with
      | none => rw [z] at p; exact p.elim
      | some j =>
        rw [z] at p
        simp only at p ⊢
        cases z2 : ds[j]? with
        | none => rw [z2] at p; exact p.elim
        | some d => exact ⟨ds, j, d, rfl, z2, z, by simp only⟩
theorem sePop (hv : PE X o (tVar i)) (hbase : attributeBase o "pop" X.env (eval o X.env) = eval o X.env) (hline : (apos.endLine == cpos.line) = true) : PE X (.Call (.Attribute o "pop" apos) [] [] cpos) (tSE F W ck (.pop i)) :=
  PE.by (pe_bm0 PySem.F.plainAttrs_list PySem.F.slot_list_pop PySem.F.type_list_pop mt_pop hv hbase hline) fun σV H Q ⟨A, ρ, al, σ, R, r, p⟩ => by
    have p : PostE F A al W σV (popD σ i none R) Q := p
    obtain ⟨ds, j, d, g, hd, hj, hp⟩ := popD_ok p
    rw [hp] at p
    obtain ⟨a, vs, h1, h2, h3, h4, h5, h6⟩ := r.owL g
    obtain ⟨v, hv, hr⟩ := h4.get hd
    refine ⟨.ref a, h1, ty_lst h3, a, vs, v, rfl, rfl, h3, by rw [h4.length]; simp only at hj; rw [← hj]; exact hv, ?_⟩
    have e : vs.dropLast = vs.eraseIdx j := by
      simp only at hj
      rw [dl_eq, hj, h4.length]
    rw [e]
    exact p v _ ρ (r.updL g h2 (h4.eraseIdx j)) (by
      show RD F ρ _ v d
      rw [r.ownM _ h5]
      exact hr)
theorem line63 {n : Nat} {k : Int} {j : Nat} (h : ixN n k = some j) (hz : n ≤ sizeLine) : -(2 ^ 63) ≤ k ∧ k < 2 ^ 63 ∧ seqIndex? k n = some j := by
  obtain ⟨h1, h2, h3, h4⟩ := ixN_seq h
  have hz : (n : Int) ≤ 16777216 := by
    have : sizeLine = 16777216 := by decide
    omega
  exact ⟨by omega, by omega, h1⟩
theorem sePopAt (hK : F.K = X.K) (hv : PE X o (tVar i)) (hs : isStar e = false) (hbase : attributeBase o "pop" X.env (eval o X.env) = eval o X.env) (hline : (apos.endLine == cpos.line) = true) (h : PE X e (tB F W ck x)) : PE X (.Call (.Attribute o "pop" apos) [e] [] cpos) (tSE F W ck (.popAt i x)) :=
  PE.by (pe_bm PySem.F.plainAttrs_list PySem.F.slot_list_pop PySem.F.type_list_pop mt_popAt hv (pa_cons (PE.sz h) pa_nil (star_cons hs)) hbase (few_one hs) hline (star_cons hs) rfl) fun σV H Q ⟨A, ρ, al, σ, R, r, p⟩ => by
    have p : PostE F A al W σV (match gS σ i with
      | .ow (.lst _) => (ev ck x σ R).bind fun x R => match x with
        | .int k => popD σ i (some k) R
        | _ => .bad
      | _ => .bad) Q := p
    cases g0 : gS σ i with
    | no => rw [g0] at p; exact p.elim
    | lm => rw [g0] at p; exact p.elim
    | er c => rw [g0] at p; exact p.elim
    | sh d => rw [g0] at p; exact p.elim
    | ow d =>
    rw [g0] at p
    cases d <;> first | exact p.elim | skip
    rename_i ds0
    obtain ⟨a, vs, h1, h2, h3, h4, h5, h6⟩ := r.owL g0
    refine ⟨.ref a, h1, ty_lst h3, A, ρ, al, σ, R, r, PostE.bind p fun d1 R1 v1 H1 ρ1 r1 e1 q1 p1 sz => ?_⟩
    cases d1 <;> first | exact p1.elim | skip
    rename_i k
    obtain ⟨ds, j, d, g, hd, hj, hp⟩ := popD_ok p1
    simp only [hp] at p1
    obtain ⟨a', vs', h1', h2', h3', h4', h5', h6'⟩ := r1.owL g
    rw [h2] at h2'
    cases h2'
    obtain ⟨v, hv, hr⟩ := h4'.get hd
    simp only at hj
    rw [← h4'.length] at hj
    obtain ⟨k1, k2, k3⟩ := line63 hj (sz (.L a) vs' (sq_lst h3'))
    refine ⟨a, vs', k, j, v, rfl, by rw [q1.int], h3', k1, k2, k3, hv, ?_⟩
    exact p1 v _ ρ1 (r1.updL g h2 (h4'.eraseIdx j)) (by
      show RD F ρ1 _ v d
      rw [r1.ownM _ h5']
      exact hr)
/-! append, extend -/
theorem snd_app {s : SE} (hv : PE X o (tVar i)) (hs : isStar e = false) (hbase : attributeBase o "append" X.env (eval o X.env) = eval o X.env) (hline : (apos.endLine == cpos.line) = true) (h : PE X e (tSE F W ck s)) :
    PS X (.Expr (.Call (.Attribute o "append" apos) [e] [] cpos) pos) (tSt F W ck fu (.app i s)) :=
  PS.by (ps_expr (pe_bm PySem.F.plainAttrs_list PySem.F.slot_list_append PySem.F.type_list_append mt_append hv (pa_cons h pa_nil (star_cons hs)) hbase (few_one hs) hline (star_cons hs) rfl) rfl) fun Dn σV H ⟨A, ρ, al, σ, R, r, p⟩ => by
    have p : PostS F A W (match gS σ i with
      | .ow (.lst _) => (evSE ck s σ R).bind fun p R => match gS p.2 i with
        | .ow (.lst ds) => if ds.length < sizeLine then .ok (.nx, sS p.2 i (.ow (.lst (ds ++ [p.1])))) R else .bad
        | _ => .bad
      | _ => .bad) Dn := p
    cases g0 : gS σ i with
    | no => rw [g0] at p; exact p.elim
    | lm => rw [g0] at p; exact p.elim
    | er c => rw [g0] at p; exact p.elim
    | sh d => rw [g0] at p; exact p.elim
    | ow d =>
    rw [g0] at p
    cases d <;> first | exact p.elim | skip
    rename_i ds0
    obtain ⟨a, vs, h1, h2, h3, h4, h5, h6⟩ := r.owL g0
    refine ⟨.ref a, h1, ty_lst h3, A, ρ, al, σ, R, r, ?_⟩
    simp only at p
    cases q : evSE ck s σ R with
    | exc c R' => rw [q] at p; exact fun H' ρ' σ' a => p ρ' al σ' σV H' a
    | bad => rw [q] at p; exact p
    | ok z R' =>
      obtain ⟨d, σ'⟩ := z
      rw [q] at p
      intro v H' ρ' r' q'
      simp only [Res.bind] at p
      cases g : gS σ' i with
      | no => rw [g] at p; exact p.elim
      | lm => rw [g] at p; exact p.elim
      | er c => rw [g] at p; exact p.elim
      | sh d => rw [g] at p; exact p.elim
      | ow d2 =>
        rw [g] at p
        cases d2 <;> first | exact p.elim | skip
        rename_i ds
        simp only at p
        split at p
        · rename_i hz
          obtain ⟨a', vs', h1', h2', h3', h4', h5', h6'⟩ := r'.owL g
          rw [h2] at h2'
          cases h2'
          exact ⟨a, vs', v, rfl, rfl, h3', by rw [h4'.length]; exact hz, p _ _ _ _ (r'.updL g h2 (h4'.append (.cons q' .nil)))⟩
        · exact p.elim
theorem snd_ext (hv : PE X o (tVar i)) (hs : isStar e = false) (hbase : attributeBase o "extend" X.env (eval o X.env) = eval o X.env) (hline : (apos.endLine == cpos.line) = true) (h : PE X e (tB F W ck x)) :
    PS X (.Expr (.Call (.Attribute o "extend" apos) [e] [] cpos) pos) (tSt F W ck fu (.ext i x)) :=
  PS.by (ps_expr (pe_bm PySem.F.plainAttrs_list PySem.F.slot_list_extend PySem.F.type_list_extend mt_extend hv (pa_cons h pa_nil (star_cons hs)) hbase (few_one hs) hline (star_cons hs) rfl) rfl) fun Dn σV H ⟨A, ρ, al, σ, R, r, p⟩ => by
    have p : PostS F A W (match gS σ i with
      | .ow (.lst ds) => (ev ck x σ R).bind fun y R => ofS (extD (.lst ds) y) i σ R
      | _ => .bad) Dn := p
    cases g0 : gS σ i with
    | no => rw [g0] at p; exact p.elim
    | lm => rw [g0] at p; exact p.elim
    | er c => rw [g0] at p; exact p.elim
    | sh d => rw [g0] at p; exact p.elim
    | ow d =>
    rw [g0] at p
    cases d <;> first | exact p.elim | skip
    rename_i ds
    obtain ⟨a, vs, h1, h2, h3, h4, h5, h6⟩ := r.owL g0
    refine ⟨.ref a, h1, ty_lst h3, A, ρ, al, σ, R, r, PostS.bind p fun d1 R1 v1 H1 ρ1 r1 e1 q1 p1 => ?_⟩
    cases d1 <;> first | exact p1.elim | skip
    rename_i es
    simp only [extD] at p1
    split at p1
    · rename_i hz
      obtain ⟨a', vs', h1', h2', h3', h4', h5', h6'⟩ := r1.owL g0
      rw [h2] at h2'
      cases h2'
      obtain ⟨b, us, rfl, hb, hu⟩ := q1.lst
      exact ⟨a, b, vs', us, rfl, rfl, h3', hb, by rw [h4'.length, RMs.length hu]; exact hz, p1 _ _ _ _ (r1.updL g0 h2 (h4'.append hu))⟩
    · exact p1.elim
/-! stores -/
theorem putL {d y v : D} {z : D} (h : putD d y v = some z) : ∃ ds k j, d = .lst ds ∧ y = .int k ∧ ixN ds.length k = some j ∧ z = .lst (ds.set j v) := by
  cases d <;> first | (cases h; done) | skip
  cases y <;> first | (cases h; done) | skip
  rename_i ds k
  simp only [putD] at h
  cases q : ixN ds.length k with
  | none => rw [q] at h; cases h
  | some j => rw [q] at h; cases h; exact ⟨ds, k, j, rfl, rfl, q, rfl⟩
def notSlc (e : Expr) : Bool := match e with | .Slice .. => false | _ => true
theorem subscript_asg {X : Cx} {o i : Expr} {p : Pos} (h : notSlc i = true) : ∀ v, assign (.Subscript o i p) X.env v = (do
      let ov ← holding [v] (eval o X.env)
      let iv ← holding [v, ov] (eval i X.env)
      standAt p
      holding [v, ov, iv] (setItem ov iv v)
      release [v, ov, iv] []) := by
  cases i <;> first | (intro _; rfl) | cases h
/-- the store itself, behind the value -/
theorem gSub_ok {k : Ex} {v : V} {d : D} {Q : L2.St → Hp → Prop} (r : Rel F A ρ al σ R σV H) (q : RM F A al ρ H v d) {o0 : D} (g : gS σ i = .ow o0)
    (hE : ∀ c R', (ev ck k σ R) = .exc c R' → ∀ H' ρ', Rel F A ρ' al σ R' σV H' → W c σV H') (hB : ev ck k σ R ≠ .bad)
    (hO : ∀ y R', ev ck k σ R = .ok y R' → ∃ z, putD o0 y d = some z ∧ ∀ ρ' H', Rel F A ρ' al (sS σ i (.ow z)) R' σV H' → Ext ρ H ρ' H' ∨ True → Q σV H') :
    gSub (tVar i) (tB F W ck k) rSetL v σV H Q := by
  obtain ⟨a, h1, h2, h3, h4, h5⟩ := r.ow g
  refine ⟨.ref a, h1, A, ρ, al, σ, R, r, ?_⟩
  cases z : ev ck k σ R with
  | exc c R' => exact fun H' ρ' a b => hE c R' z H' ρ' a
  | bad => exact hB z
  | ok y R' =>
    intro v1 H1 ρ1 r1 e1 q1
    obtain ⟨w, hw, hQ⟩ := hO y R' z
    obtain ⟨ds, kk, j, rfl, rfl, hj, rfl⟩ := putL hw
    obtain ⟨a', vs', h1', h2', h3', h4', h5', h6'⟩ := r1.owL g
    rw [h2] at h2'
    cases h2'
    refine ⟨a, vs', kk, j, rfl, q1.int, h3', by rw [h4'.length]; exact hj, hQ ρ1 _ (r1.updL g h2 (h4'.set j (RM.ext q e1))) (.inr trivial)⟩
theorem snd_sub {xk : Ex} {ek : Expr} {kp : Pos} (hns : notSlc ek = true) (hv : PE X o (tVar i)) (hk : PE X ek (tB F W ck xk)) (h : PE X e (tS F W ck x)) (hs : swapsWith e (some (.Subscript o ek kp)) pos.line X.env = pure false) (hw : swappedStores [.Subscript o ek kp] e X.env = pure none) :
    PS X (.Assign [.Subscript o ek kp] e pos) (tSt F W ck fu (.sub i xk x)) :=
  PS.by (ps_asg h (pg_sub hv hk set_list (subscript_asg hns)) hs hw rfl) fun Dn σV H ⟨A, ρ, al, σ, R, r, p⟩ => ⟨A, ρ, al, σ, R, r, PostS.bind (show PostS F A W ((stx x σ (ev ck x σ R)).bind fun d R => match gS σ i with
    | .ow o => (ev ck xk σ R).bind fun y R => ofS (putD o y d) i σ R
    | _ => .bad) Dn from p) fun d R1 v H1 ρ1 r1 e1 q1 p1 => by
    cases g : gS σ i with
    | no => rw [g] at p1; exact p1.elim
    | lm => rw [g] at p1; exact p1.elim
    | er c => rw [g] at p1; exact p1.elim
    | sh d => rw [g] at p1; exact p1.elim
    | ow o0 =>
      rw [g] at p1
      simp only at p1
      refine gSub_ok (k := xk) r1 q1 g (fun c R' z H' ρ' a => ?_) (fun z => ?_) fun y R' z => ?_
      · rw [z] at p1; exact p1 ρ' al σ σV H' a
      · rw [z] at p1; exact p1
      · rw [z] at p1
        simp only [Res.bind, ofS] at p1
        cases w : putD o0 y d with
        | none => rw [w] at p1; exact p1.elim
        | some z => rw [w] at p1; exact ⟨z, rfl, fun ρ' H' r' _ => p1 _ _ _ _ r'⟩⟩
/-! name op= value -/
theorem augA {o : Bop} {d y z : D} (h : augD o d y = some z) : ∃ i j, d = .int i ∧ y = .int j ∧ ((o = .add ∧ z = .int (i + j)) ∨ (o = .sub ∧ z = .int (i - j))) := by
  cases o <;> first | (cases h; done) | skip
  all_goals
    cases d <;> first | (cases h; done) | skip
    cases y <;> first | (cases h; done) | skip
    cases h
  · exact ⟨_, _, rfl, rfl, .inl ⟨rfl, rfl⟩⟩
  · exact ⟨_, _, rfl, rfl, .inr ⟨rfl, rfl⟩⟩
def opA : Bop → Operator
  | .add => .Add
  | _ => .Sub
def ipA : Bop → TIp
  | .add => ipI fun i j => i + j
  | _ => ipI fun i j => i - j
theorem pip (o : Bop) : PIp X (opA o) (ipA o) := by
  cases o <;> first | exact ip_add | exact ip_sub
theorem ipA_ok {o : Bop} {d y z : D} {v u : V} {Q : VK} (h : augD o d y = some z) (hv : RT F A al ρ H v d) (hu : RT F A al ρ H u y) (q : ∀ n, z = .int n → Q (.int n) H) : ipA o v u H Q := by
  obtain ⟨i, j, rfl, rfl, ⟨rfl, rfl⟩ | ⟨rfl, rfl⟩⟩ := augA h
  · exact ⟨i, j, hv.int, hu.int, q _ rfl⟩
  · exact ⟨i, j, hv.int, hu.int, q _ rfl⟩
theorem snd_aug {o : Bop} {py : Pos} (hN : X.N.Nodup) (hi : X.N[i]? = some y) (hx : Loc X.env.scope y) (hf : X.fn y = true ∨ X.env.scope.names.lookup y = some .local) (h : PE X e (tB F W ck x)) :
    PS X (.AugAssign (.Name y py) (opA o) e pos) (tSt F W ck fu (.aug i o x)) :=
  ⟨fun pins sh σV H Dn I ⟨A, ρ, al, σ, R, r, p⟩ => (ps_aug hN hi hx h (pip o) hf).run pins sh σV H Dn I (by
    have hl : i < σV.length := by rw [I.len]; exact (List.getElem?_eq_some_iff.mp hi).1
    have p : PostS F A W (match gS σ i with
      | .sh d => (ev ck x σ R).bind fun y R => match augD o d y with
        | some z => .ok (.nx, sS σ i (.sh z)) R
        | none => .bad
      | _ => .bad) Dn := p
    cases g : gS σ i with
    | no => rw [g] at p; exact p.elim
    | lm => rw [g] at p; exact p.elim
    | er c => rw [g] at p; exact p.elim
    | ow d => rw [g] at p; exact p.elim
    | sh d =>
      rw [g] at p
      obtain ⟨v, h1, h2⟩ := r.sh g
      refine ⟨v, h1, A, ρ, al, σ, R, r, PostS.bind p fun y R1 u H1 ρ1 r1 e1 q1 p1 => ?_⟩
      cases z : augD o d y with
      | none => rw [z] at p1; exact p1.elim
      | some w =>
        rw [z] at p1
        exact ipA_ok z (RT.ext (RM.rt h2) e1) q1 fun n e => by
          subst e
          exact p1 _ _ _ _ (r1.setSh hl (RD.int n)))⟩
/-! list[index] op= value -/
theorem get_list {X : Cx} : PGet X (rIxL X.K) := by
  intro pins s σ H x y v u Q I rx ry h
  obtain ⟨p, xs, i, z, rfl, rfl, hq, he, q⟩ := h
  cases rx
  obtain ⟨t, rfl⟩ := ry
  obtain ⟨its, r, pl, hz⟩ := I.list hq
  obtain ⟨j, h1, h2, h3, h4, h5⟩ := atI_get he
  obtain ⟨w, ew, rw'⟩ := r.get h2
  have hl := r.length
  have hn : sizeLine < 2 ^ 63 := by decide
  have fin : EP X pins σ Q w s := ⟨z, H, I, rw', q⟩
  by_cases h0 : 0 ≤ i
  · have hj : i.toNat = j := by
      rw [seqIndex_of h0 h5] at h1
      exact Option.some.inj h1
    exact wpAny_getItem_list pl.isList h0 (by omega) (by rw [hj]; simpa using ew) fin
  · have hj : (i + (its.toArray.size : Int)).toNat = j := by
      rw [seqIndex_neg (by omega) h4] at h1
      rw [List.size_toArray, ← hl]
      exact Option.some.inj h1
    exact wpAny_getItem_list_neg pl.isList (by omega) (by rw [List.size_toArray] <;> omega) (by omega) (by rw [hj]; simpa using ew) fin
theorem snd_asb {o : Bop} {xk : Ex} {eo ek : Expr} {kp : Pos} (hK : F.K = X.K) (hns : notSlc ek = true) (hv : PE X eo (tVar i)) (hk : PE X ek (tB F W ck xk)) (h : PE X e (tB F W ck x)) :
    PS X (.AugAssign (.Subscript eo ek kp) (opA o) e pos) (tSt F W ck fu (.asb i xk o x)) :=
  PS.by (ps_augS hv hk get_list h (pip o) set_list (by cases ek <;> first | (intros; rfl) | cases hns)) fun Dn σV H ⟨A, ρ, al, σ, R, r, p⟩ => by
    have p : PostS F A W (match gS σ i with
      | .ow l => (ev ck xk σ R).bind fun y R => match idxD R l y with
        | some d => (ev ck x σ R).bind fun w R => match augD o d w with
          | some z => ofS (putD l y z) i σ R
          | none => .bad
        | none => .bad
      | _ => .bad) Dn := p
    cases g : gS σ i with
    | no => rw [g] at p; exact p.elim
    | lm => rw [g] at p; exact p.elim
    | er c => rw [g] at p; exact p.elim
    | sh d => rw [g] at p; exact p.elim
    | ow l =>
      rw [g] at p
      obtain ⟨a, h1, h2, h3, h4, h5⟩ := r.ow g
      refine ⟨.ref a, h1, A, ρ, al, σ, R, r, PostS.bind p fun y R1 u H1 ρ1 r1 e1 q1 p1 => ?_⟩
      cases z1 : idxD R1 l y with
      | none => rw [z1] at p1; exact p1.elim
      | some d =>
        rw [z1] at p1
        simp only at p1
        cases l <;> first | exact h5.elim | (simp [idxD] at z1; done) | skip
        rename_i ds
        cases y <;> first | (cases z1; done) | skip
        rename_i k
        obtain ⟨a1, vs1, b1, b2, b3, b4, b5, b6⟩ := r1.owL g
        rw [h2] at b2
        cases b2
        obtain ⟨w, e4, q4⟩ := RDs.atI b4 (show atI ds k = some d from z1)
        refine ⟨a, vs1, k, w, rfl, q1.int, .of b3, e4, A, ρ1, al, σ, R1, r1, PostS.bind p1 fun y2 R2 u2 H2 ρ2 r2 e2 q2 p2 => ?_⟩
        cases z2 : augD o d y2 with
        | none => rw [z2] at p2; exact p2.elim
        | some z =>
          rw [z2] at p2
          simp only at p2
          refine ipA_ok z2 (RT.ext (RM.rt q4) e2) q2 fun n en => ?_
          subst en
          cases z3 : putD (.lst ds) (.int k) (.int n) with
          | none => rw [z3] at p2; exact p2.elim
          | some z' =>
            rw [z3] at p2
            obtain ⟨ds', kk, j, f1, f2, hj, rfl⟩ := putL z3
            cases f1
            cases f2
            obtain ⟨a2, vs2, c1, c2, c3, c4, c5, c6⟩ := r2.owL g
            rw [h2] at c2
            cases c2
            exact ⟨a, vs2, k, j, rfl, q1.int, c3, by rw [c4.length]; exact hj, p2 _ _ _ _ (r2.updL g h2 (c4.set j (RD.int n)))⟩
end
end Cw

end
section
/-! CwS: loops, raise, stores to lists with identity. -/
namespace Cw
open PySem L2 PyProof.Rows PySem.W
section
variable {F : Fx} {A : Act} {W : XW} {ck : Nat → List D → RH → Res D} {fu : Nat} {X : Cx} {e o : Expr} {st : Stmt} {sts : List Stmt} {x : Ex} {ρ ρ1 ρ' : List Addr} {al : List (Option Addr)} {σ : List Sl} {R R' : RH} {σV : L2.St} {H H1 H' : Hp} {a p : Addr} {Dn : Ends} {pos apos cpos : Pos} {i : Nat} {y : Str}
/-! raise X() -/
theorem pmk_own0 {C : Addr} {bmB : List Value} {B newId initId : String} {x : Str} {p pos : Pos} (Fc : ExcBaseFacts B newId initId bmB) (q : PySem.W.excIn X.K C bmB newId = true) (gC : X.mg x = some (.ref C)) (kC : PySem.W.keepIn X.K (.ref C) = true) (r : Raises X (.ref C)) (hg : Gl X x)
    (hdb : (x == ("__debug__" : Str)) = false) : PMk X (.Call (.Name x p) [] [] pos) (fun _ H Q => Q (.ref C) none H) := by
  intro pins s σ H Q I h
  refine wpAny_Call_Name_kw (ld_glob I hg gC ?_ hdb)
  refine PySem.W.callWith_K0 I.kIn kC ?_
  obtain ⟨bm, N, nm, qn, bs, hdct, sn, sub, ab, col, dd, k0, k1, k2, k3, k5, mN, hC, hN, hni, T⟩ := exc_obj I.kIn q
  refine wpAny_call_exc_subT Fc T hC hN hni (fun h' e hm => ?_) (Nat.zero_le _)
  exact mk_of I hm r h (I.hok.gone hm.new)
theorem snd_raise {c : Nat} {C : Addr} (hc : X.calm = true) (tk : Takes X (XW.wx F W)) (he : PMk X e (fun _ H Q => Q (.ref C) none H)) (ca : F.ca c = some C) : PS X (.Raise (some e) none pos) (tSt F W ck fu (.raise c)) :=
  PS.by (ps_raise hc tk he) fun Dn σV H ⟨A, ρ, al, σ, R, r, p⟩ => ⟨c, C, rfl, ca, rfl, p ρ al σ σV H r⟩
/-! while -/
theorem snd_while {c : Expr} {body : List Stmt} {xc : Ex} {xb : Sms} (hp : PassesOwn (model X.prog X.w) X.A X.env X.xe) (hc : PT X c (tQ (tS F W ck xc))) (hb : PSs X body (tSts F W ck fu xb)) : PS X (.While c body [] pos) (tSt F W ck fu (.whl xc xb)) :=
  PS.by (ps_while hp hc hb) fun Dn σV H ⟨A, ρ, al, σ, R, r, p⟩ => by
    refine ⟨fun m σV H => ∃ ρ al σ R, Rel F A ρ al σ R σV H ∧ PostS F A W (whlL (fun σ R => ev ck xc σ R) (fun σ R => execs ck fu xb σ R) m σ R) Dn, ⟨fu, ρ, al, σ, R, r, p⟩, ?_⟩
    rintro m σV H ⟨ρ, al, σ, R, r, p⟩
    cases m with
    | zero => exact p.elim
    | succ m =>
      refine ⟨A, ρ, al, σ, R, r, ?_⟩
      simp only [whlL] at p
      cases q : ev ck xc σ R with
      | exc c R' =>
        rw [q] at p
        have : stx xc σ (Res.exc c R' : Res D) = .exc c R' := by
          cases xc <;> first | rfl | skip
          simp only [ev] at q
          cases z : (gS σ _).val with
          | none => rw [z] at q; cases q
          | some d => rw [z] at q; cases q
        rw [this]
        exact fun H' ρ' a _ => p ρ' al σ σV H' a
      | bad => rw [q] at p; exact p.elim
      | ok d R' =>
        rw [q] at p
        cases d <;> first | exact p.elim | skip
        rename_i b
        have := stx_bl r q
        rw [q] at this
        rw [this]
        intro v H' ρ' r' e' q'
        cases q'
        refine ⟨b, rfl, ?_⟩
        cases b with
        | false => exact p ρ' al σV H' r'
        | true =>
          rw [if_pos rfl]
          refine ⟨fun σV H => ∃ ρ al σ R, Rel F A ρ al σ R σV H ∧ PostS F A W (whlL (fun σ R => ev ck xc σ R) (fun σ R => execs ck fu xb σ R) m σ R) Dn, fun σ' H' h => ⟨m, Nat.lt_succ_self m, h⟩, A, ρ', al, σ, R', r', ?_⟩
          simp only at p
          cases q2 : execs ck fu xb σ R' with
          | exc c R2 => rw [q2] at p; exact p
          | bad => rw [q2] at p; exact p
          | ok z R2 =>
            obtain ⟨f, σ2⟩ := z
            rw [q2] at p
            cases f with
            | nx => exact fun ρ' al' σV' H' r' => ⟨ρ', al', σ2, R2, r', p⟩
            | ct => exact fun ρ' al' σV' H' r' => ⟨ρ', al', σ2, R2, r', p⟩
            | bk => exact p
            | rt d => exact p
/-! for: the walked one is kept -/
def Act.keep (A : Act) (O : List Addr) (ρ : List Addr) (H : Hp) : Act := { A with He := fun a => if a ∈ O then A.He a else H a, re := ρ }
theorem Rel.toKeep (r : Rel F A ρ al σ R σV H) : Rel F (A.keep (OO A ρ al) ρ H) ρ al σ R σV H := by
  refine ⟨r.ls, r.la, r.sl, r.rl, r.rf, r.nd, ⟨[], by simp [Act.keep]⟩, fun a h => ?_, fun a h n => absurd h n, fun a o h n t => ?_, r.o0, fun a h => ?_, r.tb, fun O1 H1 ρ1 e => ⟨(r.cr O1 H1 ρ1 e).1, ?_⟩⟩
  · show (if a ∈ OO A ρ al then A.He a else H a) = none
    rw [if_pos (mem_OO.mpr (.inr (.inr h)))]
    exact r.newO a h
  · have h : (if a ∈ OO A ρ al then A.He a else H a) = some o := h
    split at h
    · refine r.fr a o h (fun m => n ?_) t
      obtain ⟨e, he⟩ := r.pre
      show a ∈ ρ
      rw [he]
      exact List.mem_append_left _ m
    · exact h
  · have h : (if a ∈ OO A ρ al then A.He a else H a) ≠ none := h
    split at h
    · exact r.frN a h
    · exact h
  · have c := (r.cr O1 H1 ρ1 e).2
    have nre : ∀ a o, H1 a = some o → a ∉ ρ1 → a ∉ A.re := fun a o h n m => by rw [c.new a m n] at h; cases h
    refine ⟨?_, fun a h n => ?_, fun a o h n t => ?_, fun a h => ?_⟩
    · obtain ⟨x, hx⟩ := c.pre
      obtain ⟨y, hy⟩ := r.pre
      exact ⟨x ++ y, by show ρ = _; rw [hy, hx, List.append_assoc]⟩
    · by_cases q : a ∈ A.re
      · exact c.new a q n
      · exact Classical.byContradiction fun z => c.there a z (r.newR a h q)
    · show (if a ∈ OO A ρ al then A.He a else H a) = some o
      split
      · exact c.keep a o h n t
      · exact r.fr a o (c.keep a o h n t) (nre a o h n) t
    · show (if a ∈ OO A ρ al then A.He a else H a) ≠ none
      split
      · exact c.there a h
      · exact r.frN a (c.there a h)
theorem Rel.ofKeep {ρ0 : List Addr} {al0 : List (Option Addr)} {H0 : Hp} {σ0 : List Sl} {R0 : RH} {σV0 : L2.St} (r0 : Rel F A ρ0 al0 σ0 R0 σV0 H0) (r : Rel F (A.keep (OO A ρ0 al0) ρ0 H0) ρ al σ R σV H) : Rel F A ρ al σ R σV H := by
  have k : ∀ a, (A.keep (OO A ρ0 al0) ρ0 H0).He a = none → A.He a = none := fun a h => by
    have h : (if a ∈ OO A ρ0 al0 then A.He a else H0 a) = none := h
    split at h
    · exact h
    · exact r0.he h
  refine ⟨r.ls, r.la, r.sl, r.rl, r.rf, r.nd, ?_, fun a h => k a (r.newO a h), fun a h n => ?_, fun a o h n t => ?_, r.o0, fun a h => ?_, r.tb, r0.cr⟩
  · obtain ⟨e, he⟩ := r.pre
    obtain ⟨e', he'⟩ := r0.pre
    have he : ρ = ρ0 ++ e := he
    exact ⟨e' ++ e, by rw [he, he', List.append_assoc]⟩
  · by_cases q : a ∈ ρ0
    · exact r0.newR a q n
    · exact k a (r.newR a h q)
  · have n0 : a ∉ ρ0 := fun m => by
      have := r0.newR a m n
      rw [h] at this
      cases this
    refine r.fr a o ?_ n0 t
    show (if a ∈ OO A ρ0 al0 then A.He a else H0 a) = some o
    split
    · exact h
    · exact r0.fr a o h n t
  · refine r.frN a ?_
    show (if a ∈ OO A ρ0 al0 then A.He a else H0 a) ≠ none
    split
    · exact h
    · exact r0.frN a h
theorem keep_mask {ρ0 : List Addr} {al0 : List (Option Addr)} {H0 : Hp} {σ0 : List Sl} {R0 : RH} {σV0 : L2.St} (r0 : Rel F A ρ0 al0 σ0 R0 σV0 H0) (r : Rel F (A.keep (OO A ρ0 al0) ρ0 H0) ρ al σ R σV H) : ∀ a u, mask H0 (OO A ρ0 al0) a = some u → mask H (OO (A.keep (OO A ρ0 al0) ρ0 H0) ρ al) a = some u := fun a u h => by
  obtain ⟨h1, h2⟩ := mask_some h
  have hh : (A.keep (OO A ρ0 al0) ρ0 H0).He a = some u := by
    show (if a ∈ OO A ρ0 al0 then A.He a else H0 a) = some u
    rw [if_neg h2]
    exact h1
  have nre : a ∉ ρ0 := fun m => h2 (mem_OO.mpr (.inr (.inl m)))
  refine mask_mk (fun m => ?_) (r.fr a u hh nre (mask_nt h)) (mask_nt h)
  · rcases mem_OO.mp m with m | m | m
    · exact h2 (mem_OO.mpr (.inl m))
    · have := r.newR a m nre
      rw [hh] at this
      cases this
    · have := r.newO a m
      rw [hh] at this
      cases this
theorem PostS.ofKeep {ρ0 : List Addr} {al0 : List (Option Addr)} {H0 : Hp} {σ0 : List Sl} {R0 : RH} {σV0 : L2.St} {r : Res (Fl × List Sl)} (r0 : Rel F A ρ0 al0 σ0 R0 σV0 H0) (p : PostS F A W r Dn) : PostS F (A.keep (OO A ρ0 al0) ρ0 H0) W r Dn := by
  cases r with
  | ok z R =>
    obtain ⟨f, σ⟩ := z
    cases f with
    | nx => exact fun ρ' al' σV' H' r' => p ρ' al' σV' H' (r0.ofKeep r')
    | bk => exact fun ρ' al' σV' H' r' => p ρ' al' σV' H' (r0.ofKeep r')
    | ct => exact fun ρ' al' σV' H' r' => p ρ' al' σV' H' (r0.ofKeep r')
    | rt d => exact fun v ρ' al' σ'' σV' H' r' q => p v ρ' al' σ'' σV' H' (r0.ofKeep r') q
  | exc c R => exact fun ρ' al' σ'' σV' H' r' => p ρ' al' σ'' σV' H' (r0.ofKeep r')
  | bad => exact p
theorem item_for {A1 : Act} {ρ1 : List Addr} {al1 : List (Option Addr)} {it : Item} {d : D} {Hc Hx : Hp} {v : V} {its : List Item} {i : Nat} (h : ItR F A1 al1 ρ1 H1 it d) (hi : its[i]? = some it) (y : YI its i Hc v Hx) (pre : ∃ e, ρ = ρ1 ++ e) (mk : ∀ a u, mask H1 (OO A1 ρ1 al1) a = some u → mask Hc (OO A ρ al) a = some u) (r : Rel F A ρ al σ R σV Hc) :
    Rel F A ρ al σ R σV Hx ∧ RM F A al ρ Hx v d := by
  unfold YI at y
  rw [hi] at y
  cases h with
  | one q =>
    obtain ⟨rfl, rfl⟩ := y
    exact ⟨r, RD.mono pre mk q⟩
  | two q1 q2 =>
    obtain ⟨T, rfl, hT, rfl⟩ := y
    exact ⟨r.grow (upd_keep hT), RM.tup r hT (.cons (RD.mono pre mk q1) (.cons (RD.mono pre mk q2) .nil))⟩
def forF (ck : Nat → List D → RH → Res D) (fu : Nat) (tg : Tg) (body : Sms) : D → List Sl → RH → Res (Fl × List Sl) := fun d σ R => match setT tg d σ with
  | none => .bad
  | some σ1 => execs ck fu body σ1 R
theorem exec_for (tg : Tg) (it : Itr) (body : Sms) (σ : List Sl) (R : RH) : exec ck fu (.for_ tg it body) σ R = (evis ck true it σ R).bind fun ds R => forL (forF ck fu tg body) ds σ R := rfl
theorem snd_for {tg iter : Expr} {body : List Stmt} {xt : Tg} {it : Itr} {xb : Sms} (hp : PassesOwn (model X.prog X.w) X.A X.env X.xe) (hc : X.calm = true) (hi : PI X tg iter (tI F W ck true it)) (hg : PG X tg (gT F xt)) (hb : PSs X body (tSts F W ck fu xb))
    (hs : ∀ x, foldedSetIterable iter X.env x = pure x) : PS X (.For tg iter body [] pos) (tSt F W ck fu (.for_ xt it xb)) :=
  PS.by (ps_for hp hc hi hg hb hs) fun Dn σV H ⟨A, ρ, al, σ, R, r, p⟩ => ⟨A, ρ, al, σ, R, r, by
    rw [exec_for] at p
    refine PostS.bind p fun ds R1 J H1 ρ1 r1 e1 w1 p1 => ?_
    obtain ⟨its, gs, al2, src, hlen, walk⟩ := w1
    have pre1 : ∀ {ρ : List Addr} {al : List (Option Addr)} {σ : List Sl} {R : RH} {σV : L2.St} {H : Hp}, Rel F (A.keep (OO A ρ1 al) ρ1 H1) ρ al σ R σV H → True := fun _ => trivial
    refine for_it walk (fun i σV H => ∃ ρ' al' σ' R', Rel F (A.keep (OO A ρ1 al) ρ1 H1) ρ' al' σ' R' σV H ∧ (∃ e, ρ' = ρ1 ++ e) ∧ PostS F (A.keep (OO A ρ1 al) ρ1 H1) W (forL (forF ck fu xt xb) (ds.drop i) σ' R') Dn)
      ⟨ρ1, al, σ, R1, r1.toKeep, ⟨[], by simp⟩, p1.ofKeep r1⟩ (fun i σV H _ ⟨ρ', al', σ', R', r', pr, _⟩ q hq => ?_) ?_ ?_
    · rcases src q hq with h | ⟨z, _⟩
      · have mk := keep_mask r1 r'
        obtain ⟨S, vs⟩ := q
        cases S with
        | L a => exact sqL_of (sqL_mono mk h)
        | T a => exact sqT_of (sqT_mono mk h)
      · cases z
    · rintro i x σV' Hc Hx hi ⟨ρ', al', σ', R', r', pr, q⟩ y
      obtain ⟨d, hd, hit⟩ := al2.get (List.getElem?_eq_getElem hi)
      obtain ⟨rx, mx⟩ := item_for hit (List.getElem?_eq_getElem hi) y pr (keep_mask r1 r') r'
      have hdrop : ds.drop i = d :: ds.drop (i + 1) := by
        obtain ⟨h1, h2⟩ := List.getElem?_eq_some_iff.mp hd
        rw [List.drop_eq_getElem_cons h1, h2]
      rw [hdrop] at q
      simp only [forL] at q
      cases z : setT xt d σ' with
      | none => simp only [forF, z] at q; exact q.elim
      | some σ2 =>
        refine ⟨_, ρ', al', σ', R', d, σ2, rx, mx, z, fun σV2 al2 r2 _ _ _ _ => ⟨_, ρ', al2, σ2, R', r2, ?_⟩⟩
        simp only [forF, z] at q
        cases q2 : execs ck fu xb σ2 R' with
        | exc c R2 => rw [q2] at q; exact q
        | bad => rw [q2] at q; exact q
        | ok z R2 =>
          obtain ⟨f, σ3⟩ := z
          rw [q2] at q
          have ext : ∀ {ρ' : List Addr} {al' : List (Option Addr)} {σ' : List Sl} {R' : RH} {σV : L2.St} {H : Hp}, Rel F (A.keep (OO A ρ1 al) ρ1 H1) ρ' al' σ' R' σV H → ∃ e, ρ' = ρ1 ++ e := fun r => r.pre
          cases f with
          | nx => exact fun ρ' al' σV' H' r' => ⟨ρ', al', σ3, R2, r', ext r', q⟩
          | ct => exact fun ρ' al' σV' H' r' => ⟨ρ', al', σ3, R2, r', ext r', q⟩
          | bk => exact q
          | rt d => exact q
    · rintro σV' Hc ⟨ρ', al', σ', R', r', pr, q⟩
      have hn : ds.length = its.length := al2.length.symm
      rw [List.drop_eq_nil_of_le (Nat.le_of_eq hn)] at q
      exact q ρ' al' σV' Hc r'⟩
/-! lists with identity -/
theorem snd_rsb {xr xk : Ex} {ek : Expr} {kp : Pos} (hns : notSlc ek = true) (ho : PE X o (tB F W ck xr)) (hk : PE X ek (tB F W ck xk)) (h : PE X e (tS F W ck x)) (hs : swapsWith e (some (.Subscript o ek kp)) pos.line X.env = pure false) (hw : swappedStores [.Subscript o ek kp] e X.env = pure none) :
    PS X (.Assign [.Subscript o ek kp] e pos) (tSt F W ck fu (.rsb xr xk x)) :=
  PS.by (ps_asg h (pg_sub ho hk set_list (subscript_asg hns)) hs hw rfl) fun Dn σV H ⟨A, ρ, al, σ, R, r, p⟩ => ⟨A, ρ, al, σ, R, r, PostS.bind (show PostS F A W ((stx x σ (ev ck x σ R)).bind fun d R => (ev ck xr σ R).bind fun q R => (ev ck xk σ R).bind fun y R => match q, y with
    | .ref n, .int k => match R[n]? with
      | some ds => match ixN ds.length k with
        | some j => .ok (.nx, σ) (R.set n (ds.set j d))
        | none => .bad
      | none => .bad
    | _, _ => .bad) Dn from p) fun d R1 v H1 ρ1 r1 e1 q1 p1 => ⟨A, ρ1, al, σ, R1, r1, PostS.bind p1 fun q R2 u H2 ρ2 r2 e2 q2 p2 => ⟨A, ρ2, al, σ, R2, r2, PostS.bind p2 fun y R3 w H3 ρ3 r3 e3 q3 p3 => by
    cases q <;> first | exact p3.elim | skip
    cases y <;> first | exact p3.elim | skip
    rename_i n k
    simp only at p3
    cases z : R3[n]? with
    | none => rw [z] at p3; exact p3.elim
    | some ds =>
      rw [z] at p3
      simp only at p3
      cases z2 : ixN ds.length k with
      | none => rw [z2] at p3; exact p3.elim
      | some j =>
        rw [z2] at p3
        obtain ⟨a, rfl, ha⟩ := (RT.ext q2 e3).ref
        obtain ⟨vs, h1, h2⟩ := r3.rf n a ds ha z
        exact ⟨a, vs, k, j, rfl, q3.int, h1, by rw [h2.length]; exact z2, p3 _ _ _ _ (r3.updRf ha (h2.set j (RM.ext (RM.ext q1 e2) e3)))⟩⟩⟩⟩
theorem snd_rpp {xr xk : Ex} (hK : F.K = X.K) (ho : PE X o (tB F W ck xr)) (hs : isStar e = false) (hbase : attributeBase o "pop" X.env (eval o X.env) = eval o X.env) (hline : (apos.endLine == cpos.line) = true) (h : PE X e (tB F W ck xk)) :
    PS X (.Expr (.Call (.Attribute o "pop" apos) [e] [] cpos) pos) (tSt F W ck fu (.rpp xr xk)) :=
  PS.by (ps_expr (pe_bm PySem.F.plainAttrs_list PySem.F.slot_list_pop PySem.F.type_list_pop mt_popAt ho (pa_cons (PE.sz h) pa_nil (star_cons hs)) hbase (few_one hs) hline (star_cons hs) rfl) rfl) fun Dn σV H ⟨A, ρ, al, σ, R, r, p⟩ => ⟨A, ρ, al, σ, R, r, by
    have p : PostS F A W ((ev ck xr σ R).bind fun q R => match q with
      | .ref n => (ev ck xk σ R).bind fun y R => match y with
        | .int k => match R[n]? with
          | some ds => match ixN ds.length k with
            | some j => .ok (.nx, σ) (R.set n (ds.eraseIdx j))
            | none => .bad
          | none => .bad
        | _ => .bad
      | _ => .bad) Dn := p
    refine PostS.bind p fun q R1 v H1 ρ1 r1 e1 q1 p1 => ?_
    cases q <;> first | exact p1.elim | skip
    rename_i n
    obtain ⟨a, rfl, ha⟩ := q1.ref
    obtain ⟨vs, hv⟩ := r1.ltR (List.mem_of_getElem? ha)
    refine ⟨ty_lst hv, A, ρ1, al, σ, R1, r1, PostS.bind p1 fun y R2 w H2 ρ2 r2 e2 q2 p2 sz => ?_⟩
    cases y <;> first | exact p2.elim | skip
    rename_i k
    simp only at p2
    cases z : R2[n]? with
    | none => rw [z] at p2; exact p2.elim
    | some ds =>
      rw [z] at p2
      simp only at p2
      cases z2 : ixN ds.length k with
      | none => rw [z2] at p2; exact p2.elim
      | some j =>
        rw [z2] at p2
        have ha2 := pre_get e2.pre ha
        obtain ⟨us, h1, h2⟩ := r2.rf n a ds ha2 z
        rw [← h2.length] at z2
        obtain ⟨k1, k2, k3⟩ := line63 z2 (sz (.L a) us (sq_lst h1))
        have hj : j < us.length := (ixN_seq z2).2.1
        exact ⟨a, us, k, j, us[j], rfl, by rw [q2.int], h1, k1, k2, k3, List.getElem?_eq_getElem hj, p2 _ _ _ _ (r2.updRf ha2 (h2.eraseIdx j))⟩⟩
end
end Cw

end
section
/-! CwT: a, b = x, y. -/
namespace Cw
open PySem L2 PyProof.Rows PySem.W
inductive PF (F : Fx) (ρ : List Addr) (Hm H : Hp) : List (Nat × Bool) → List Addr → List V → List D → Prop
  | nil : PF F ρ Hm H [] [] [] []
  | sh {i : Nat} {v : V} {d : D} {is : List (Nat × Bool)} {ps : List Addr} {vs : List V} {ds : List D} : RD F ρ Hm v d → PF F ρ Hm H is ps vs ds → PF F ρ Hm H ((i, false) :: is) ps (v :: vs) (d :: ds)
  | ow {i : Nat} {p : Addr} {d : D} {is : List (Nat × Bool)} {ps : List Addr} {vs : List V} {ds : List D} : OwR F ρ Hm H p d → PF F ρ Hm H is ps vs ds → PF F ρ Hm H ((i, true) :: is) (p :: ps) (.ref p :: vs) (d :: ds)
def Act.adds (A : Act) : List Addr → Act
  | [] => A
  | p :: ps => (A.adds ps).add p
def setV : List (Nat × Bool) → List V → L2.St → L2.St
  | (i, _) :: is, v :: vs, σ => setV is vs (σ.set i (some v))
  | _, _, σ => σ
theorem adds_mem {A : Act} {a : Addr} : ∀ {ps : List Addr}, a ∈ (A.adds ps).O0 ↔ a ∈ ps ∨ a ∈ A.O0
  | [] => by simp [Act.adds]
  | p :: ps => by
    show a ∈ p :: (A.adds ps).O0 ↔ _
    rw [List.mem_cons, List.mem_cons, adds_mem (ps := ps), or_assoc]
theorem adds_he {A : Act} : ∀ {ps : List Addr}, (A.adds ps).He = A.He ∧ (A.adds ps).re = A.re
  | [] => ⟨rfl, rfl⟩
  | p :: ps => adds_he (ps := ps)
section
variable {F : Fx} {A A' : Act} {W : XW} {ck : Nat → List D → RH → Res D} {fu : Nat} {X : Cx} {e : Expr} {es : List Expr} {x : Ex} {xs : Exs} {ρ ρ1 ρ' : List Addr} {al : List (Option Addr)} {σ : List Sl} {R R' : RH} {σV : L2.St} {H H1 H' Hm Hm' : Hp} {a p : Addr} {Dn : Ends} {pos : Pos} {i : Nat} {y : Str} {is : List (Nat × Bool)} {ps : List Addr} {vs : List V} {ds : List D}
theorem PF.mono (k : ∀ b o, Hm b = some o → Hm' b = some o) (kh : ∀ b o, H b = some o → H1 b = some o) (pre : ∃ e, ρ1 = ρ ++ e) (h : PF F ρ Hm H is ps vs ds) : PF F ρ1 Hm' H1 is ps vs ds := by
  induction h with
  | nil => exact .nil
  | sh q _ ih => exact .sh (q.mono pre k) ih
  | @ow i p d is ps vs ds q _ ih =>
    refine .ow ?_ ih
    cases d <;> first | exact False.elim q | (obtain ⟨us, q4, q5⟩ := q; exact ⟨us, kh _ _ q4, q5.mono pre k⟩)
theorem Rel.congrO (r : Rel F A ρ al σ R σV H) (h : ∀ a, a ∈ A.O0 ↔ a ∈ A'.O0) (h1 : A'.He = A.He) (h2 : A'.re = A.re) : Rel F A' ρ al σ R σV H := by
  have hm : mask H (OO A ρ al) = mask H (OO A' ρ al) := mask_congr fun a => by rw [mem_OO, mem_OO, h a]
  refine ⟨r.ls, r.la, ?_, r.rl, ?_, r.nd, by rw [h2]; exact r.pre, by rw [h1]; exact r.newO, by rw [h1, h2]; exact r.newR, by rw [h1, h2]; exact r.fr, fun a q => r.o0 a ((h a).mpr q), by rw [h1]; exact r.frN, r.tb, fun O1 H1 ρ1 e => ⟨fun a q => (r.cr O1 H1 ρ1 e).1 a ((h a).mpr q), by rw [h1, h2]; exact (r.cr O1 H1 ρ1 e).2⟩⟩
  · rw [← hm]; exact r.sl
  · rw [← hm]; exact r.rf
theorem oo_congr (h : ∀ a, a ∈ A.O0 ↔ a ∈ A'.O0) : mask H (OO A ρ al) = mask H (OO A' ρ al) := mask_congr fun a => by rw [mem_OO, mem_OO, h a]
def PostP (F : Fx) (A : Act) (al : List (Option Addr)) (W : XW) (σ : List Sl) (σV : L2.St) (ρ : List Addr) (H : Hp) (is : List (Nat × Bool)) (r : Res (List D)) (Q : List V → Hp → Prop) : Prop := match r with
  | .ok ds R' => ∀ vs H' ρ' ps, Rel F (A.adds ps) ρ' al σ R' σV H' → Ext ρ H ρ' H' → (∀ p ∈ ps, H p = none) → ps.Nodup → PF F ρ' (mask H' (OO (A.adds ps) ρ' al)) H' is ps vs ds → Q vs H'
  | .exc c R' => ∀ H' ρ' A', Rel F A' ρ' al σ R' σV H' → (∀ σ' ρ' al' H', Rel F A' ρ' al' σ' R' σV H' → Rel F A ρ' al' σ' R' σV H') → W c σV H'
  | .bad => False
def tP (F : Fx) (W : XW) (ck : Nat → List D → RH → Res D) (is : List (Nat × Bool)) (xs : Exs) : TA := fun σV H Q => ∃ A ρ al σ R, Rel F A ρ al σ R σV H ∧ PostP F A al W σ σV ρ H is (evP ck is xs σ R) Q
theorem snd_nilP : PA X [] (tP F W ck [] .nil) := PA.by pa_nil fun σV H Q ⟨A, ρ, al, σ, R, r, p⟩ => p [] H ρ [] r Ext.refl (fun _ h => nomatch h) List.nodup_nil .nil
theorem snd_consPs {i : Nat} (hs : isStar e = false) (h : PE X e (tS F W ck x)) (t : PA X es (tP F W ck is xs)) : PA X (e :: es) (tP F W ck ((i, false) :: is) (.cons x xs)) :=
  PA.by (pa_cons h t (star_cons hs)) fun σV H Q ⟨A, ρ, al, σ, R, r, p⟩ => ⟨A, ρ, al, σ, R, r, by
    have p : PostP F A al W σ σV ρ H ((i, false) :: is) ((stx x σ (ev ck x σ R)).bind fun d R => if false = true ∧ ownable d = false then .bad else (evP ck is xs σ R).bind fun ds R => .ok (d :: ds) R) Q := p
    cases q : stx x σ (ev ck x σ R) with
    | bad => rw [q] at p; exact p
    | exc c R1 => rw [q] at p; exact fun H' ρ' r' _ => p H' ρ' A r' fun _ _ _ _ h => h
    | ok d R1 =>
      rw [q] at p
      refine Post.okI fun v H1 ρ1 r1 e1 q1 => ⟨A, ρ1, al, σ, R1, r1, ?_⟩
      simp only [Res.bind] at p
      rw [if_neg (fun h => Bool.false_ne_true h.1)] at p
      cases q2 : evP ck is xs σ R1 with
      | bad => rw [q2] at p; exact p
      | exc c R2 => rw [q2] at p; exact p
      | ok ds R2 =>
        rw [q2] at p
        intro vs H2 ρ2 ps r2 e2 hn nd pf
        refine p (v :: vs) H2 ρ2 ps r2 (e1.trans e2) (fun b hb => e1.none r1 (hn b hb)) nd (.sh ?_ pf)
        refine RD.mono e2.pre (fun a u h => ?_) q1
        obtain ⟨h1, h2⟩ := mask_some (e2.mask a u h)
        obtain ⟨h3, _⟩ := mask_some h
        refine mask_mk (fun m => ?_) h1 (mask_nt h)
        · rcases mem_OO.mp m with m | m
          · rcases adds_mem.mp m with m | m
            · rw [hn a m] at h3; cases h3
            · exact h2 (mem_OO.mpr (.inl m))
          · exact h2 (mem_OO.mpr (.inr m))⟩
theorem snd_consPo {i : Nat} (hs : isStar e = false) (h : PE X e (tF F W ck x)) (t : PA X es (tP F W ck is xs)) : PA X (e :: es) (tP F W ck ((i, true) :: is) (.cons x xs)) :=
  PA.by (pa_cons h t (star_cons hs)) fun σV H Q ⟨A, ρ, al, σ, R, r, p⟩ => ⟨A, ρ, al, σ, R, r, by
    have p : PostP F A al W σ σV ρ H ((i, true) :: is) ((ev ck x σ R).bind fun d R => if true = true ∧ ownable d = false then .bad else (evP ck is xs σ R).bind fun ds R => .ok (d :: ds) R) Q := p
    cases q : ev ck x σ R with
    | bad => rw [q] at p; exact p
    | exc c R1 => rw [q] at p; exact fun H' ρ' r' _ => p H' ρ' A r' fun _ _ _ _ h => h
    | ok d R1 =>
      rw [q] at p
      have ho : ownable d = true := by
        cases z : ownable d with
        | true => rfl
        | false =>
          simp only [Res.bind] at p
          rw [if_pos ⟨trivial, z⟩] at p
          exact p.elim
      refine ⟨ho, ?_⟩
      intro b H1 ρ1 r1 e1 hb ow
      refine ⟨A.add b, ρ1, al, σ, R1, r1, ?_⟩
      simp only [Res.bind] at p
      split at p
      · exact p.elim
      · cases q2 : evP ck is xs σ R1 with
        | bad => rw [q2] at p; exact p
        | exc c R2 =>
          rw [q2] at p
          exact fun H' ρ' A' r' k => p H' ρ' A' r' fun σ' ρ' al' H' h => (k σ' ρ' al' H' h).dropO
        | ok ds R2 =>
          rw [q2] at p
          intro vs H2 ρ2 ps r2 e2 hn nd pf
          have cg : ∀ c, c ∈ ((A.add b).adds ps).O0 ↔ c ∈ (A.adds (b :: ps)).O0 := fun c => by
            rw [adds_mem, adds_mem]
            show c ∈ ps ∨ c ∈ b :: A.O0 ↔ c ∈ b :: ps ∨ c ∈ A.O0
            rw [List.mem_cons, List.mem_cons]
            constructor
            · rintro (h | h | h)
              · exact .inl (.inr h)
              · exact .inl (.inl h)
              · exact .inr h
            · rintro ((h | h) | h)
              · exact .inr (.inl h)
              · exact .inl h
              · exact .inr (.inr h)
          have hb1 : H1 b ≠ none := (r1.o0 b List.mem_cons_self).1
          have nb : b ∉ ps := fun m => hb1 (hn b m)
          obtain ⟨e3, e4⟩ := adds_he (A := A.add b) (ps := ps)
          obtain ⟨e5, e6⟩ := adds_he (A := A) (ps := b :: ps)
          refine p (.ref b :: vs) H2 ρ2 (b :: ps) (r2.congrO cg (e5.trans e3.symm) (e6.trans e4.symm)) (e1.trans e2) (fun c hc => ?_) (List.nodup_cons.mpr ⟨nb, nd⟩) ?_
          · rcases List.mem_cons.mp hc with rfl | hc
            · exact hb
            · exact e1.none r1 (hn c hc)
          · rw [← oo_congr cg]
            refine .ow ?_ pf
            have k : ∀ a u, mask H1 (OO (A.add b) ρ1 al) a = some u → mask H2 (OO ((A.add b).adds ps) ρ2 al) a = some u := fun a u h => by
              obtain ⟨h1, h2⟩ := mask_some (e2.mask a u h)
              obtain ⟨h3, _⟩ := mask_some h
              refine mask_mk (fun m => ?_) h1 (mask_nt h)
              · rcases mem_OO.mp m with m | m
                · rcases adds_mem.mp m with m | m
                  · rw [hn a m] at h3; cases h3
                  · exact h2 (mem_OO.mpr (.inl m))
                · exact h2 (mem_OO.mpr (.inr m))
            have nb1 := (r1.o0 b List.mem_cons_self).2.1
            cases d <;> first | exact False.elim ow | (obtain ⟨us, q4, q5⟩ := ow; exact ⟨us, e2.keep _ _ q4 nb1 (fun _ z => by cases z), q5.mono e2.pre k⟩)⟩
theorem setOw_mask {p : Addr} {i : Nat} : ∀ b o, mask H (OO (A.add p) ρ al) b = some o → mask H (OO A ρ (al.set i (some p))) b = some o := fun b o h => by
  obtain ⟨h1, h2⟩ := mask_some h
  refine mask_mk (fun m => h2 ?_) h1 (mask_nt h)
  · rcases mem_OO.mp m with m | m | m
    · exact mem_add.mpr (.inr (mem_OO.mpr (.inl m)))
    · exact mem_add.mpr (.inr (mem_OO.mpr (.inr (.inl m))))
    · rcases owns_set_some m with m | m
      · exact mem_add.mpr (.inl m)
      · exact mem_add.mpr (.inr (mem_OO.mpr (.inr (.inr m))))
theorem setV_len : ∀ (is : List (Nat × Bool)) (vs : List V) (σ : L2.St), (setV is vs σ).length = σ.length
  | [], _, _ => rfl
  | _ :: _, [], _ => rfl
  | (i, _) :: is, v :: vs, σ => by rw [setV, setV_len is vs, List.length_set]
theorem setsP (q : PF F ρ Hm H is ps vs ds) : ∀ {al : List (Option Addr)} {σ : List Sl} {σV : L2.St}, Rel F (A.adds ps) ρ al σ R σV H → (∀ b o, Hm b = some o → mask H (OO (A.adds ps) ρ al) b = some o) → (∀ z ∈ is, z.1 < σV.length) → (∀ p ∈ ps, A.He p = none ∧ p ∉ A.O0) → ps.Nodup →
    ∃ al', Rel F A ρ al' (setP is ds σ) R (setV is vs σV) H := by
  have nil : ∃ e : List Addr, ρ = ρ ++ e := ⟨[], by simp⟩
  induction q with
  | nil => exact fun {al σ σV} r _ _ _ _ => ⟨al, r⟩
  | @sh i v d is ps vs ds q _ ih =>
    intro al σ σV r k hi hp nd
    exact ih (r.setSh (hi _ List.mem_cons_self) (RD.mono nil k q)) (fun b o h => mask_less (fun a h => owns_set_mem h) b o (k b o h)) (fun z hz => by rw [List.length_set]; exact hi z (List.mem_cons_of_mem _ hz)) hp nd
  | @ow i p d is ps vs ds q _ ih =>
    intro al σ σV r k hi hp nd
    obtain ⟨h1, h2⟩ := hp p List.mem_cons_self
    obtain ⟨n1, n2⟩ := List.nodup_cons.mp nd
    have r : Rel F ((A.adds ps).add p) ρ al σ R σV H := r
    obtain ⟨e3, e4⟩ := adds_he (A := A) (ps := ps)
    exact ih (r.setOw (hi _ List.mem_cons_self) (by rw [e3]; exact h1) (fun m => (adds_mem.mp m).elim n1 h2) (q.mono k)) (fun b o h => setOw_mask b o (k b o h)) (fun z hz => by rw [List.length_set]; exact hi z (List.mem_cons_of_mem _ hz)) (fun z hz => hp z (List.mem_cons_of_mem _ hz)) n2
theorem evP_len : ∀ {is : List (Nat × Bool)} {xs : Exs} {σ : List Sl} {R R' : RH} {ds : List D}, evP ck is xs σ R = .ok ds R' → ds.length = is.length
  | [], .nil, σ, R, R', ds, h => by simp only [evP] at h; cases h; rfl
  | [], .cons _ _, _, _, _, _, h => by simp only [evP] at h; cases h
  | (_, _) :: _, .nil, _, _, _, _, h => by simp only [evP] at h; cases h
  | (i, b) :: is, .cons x xs, σ, R, R', ds, h => by
    simp only [evP] at h
    obtain ⟨d, R1, _, h2⟩ := ok_bind h
    split at h2
    · cases h2
    · obtain ⟨l, R2, h3, h4⟩ := ok_bind h2
      cases h4
      exact congrArg (· + 1) (evP_len h3)
theorem PF.len (h : PF F ρ Hm H is ps vs ds) : vs.length = is.length := by
  induction h with
  | nil => rfl
  | sh _ _ ih => exact congrArg (· + 1) ih
  | ow _ _ ih => exact congrArg (· + 1) ih
theorem par_fin {Q : List V → Hp → Prop} (h : tSt F W ck fu (.par is xs) Dn σV H) (hl : ∀ z ∈ is, z.1 < σV.length)
    (hQ : ∀ (A : Act) vs H1, vs.length = is.length → (∀ H2, (∀ b o, H1 b = some o → H2 b = some o) → Dn.nx (setV is vs σV) H2) → Q vs H1) : tP F W ck is xs σV H Q := by
  obtain ⟨A, ρ, al, σ, R, r, p⟩ := h
  refine ⟨A, ρ, al, σ, R, r, ?_⟩
  have p : PostS F A W ((evP ck is xs σ R).bind fun ds R => .ok (.nx, setP is ds σ) R) Dn := p
  cases q : evP ck is xs σ R with
  | bad => rw [q] at p; exact p
  | exc c R1 => rw [q] at p; exact fun H' ρ' A' r' k => p ρ' al σ σV H' (k σ ρ' al H' r')
  | ok ds R1 =>
    rw [q] at p
    intro vs H1 ρ1 ps r1 e1 hn nd pf
    refine hQ A vs H1 pf.len fun H2 kh => ?_
    have r2 := r1.grow kh
    have k : ∀ b o, mask H1 (OO (A.adds ps) ρ1 al) b = some o → mask H2 (OO (A.adds ps) ρ1 al) b = some o := (ext_grow (ρ := ρ1) kh).mask
    obtain ⟨al', r3⟩ := setsP (pf.mono k kh ⟨[], by simp⟩) r2 (fun _ _ h => h) hl (fun p hp => ⟨r.he (hn p hp), r.notO0 (hn p hp)⟩) nd
    exact p _ _ _ _ r3
/-! the two ways of the stores -/
theorem snd_par2 {i j : Nat} {b c : Bool} {x y : Str} {a a2 : Expr} {px py pt : Pos} {kt k2 pt2} (hc : X.calm = true) (hN : X.N.Nodup) (hi : X.N[i]? = some x) (hj : X.N[j]? = some y) (hij : i ≠ j)
    (hx : X.env.scope.names.lookup x = some .local) (hy : X.env.scope.names.lookup y = some .local) (ha : PA X [a, a2] (tP F W ck [(i, b), (j, c)] xs))
    (hw : swappedStores [.Tuple [.Name x px, .Name y py] kt pt] (.Tuple [a, a2] k2 pt2) X.env = pure (some [x, y])) :
    PS X (.Assign [.Tuple [.Name x px, .Name y py] kt pt] (.Tuple [a, a2] k2 pt2) pos) (tSt F W ck fu (.par [(i, b), (j, c)] xs)) :=
  ⟨fun pins sh σV H Dn I q => (ps_par hc hN hi hj hij hx hy ha hw rfl).run pins sh σV H Dn I (by
    have l1 : i < σV.length := by rw [I.len]; exact (List.getElem?_eq_some_iff.mp hi).1
    have l2 : j < σV.length := by rw [I.len]; exact (List.getElem?_eq_some_iff.mp hj).1
    refine par_fin q (fun z hz => ?_) fun A vs H1 hl k => ?_
    · rcases List.mem_cons.mp hz with rfl | hz
      · exact l1
      · rw [List.mem_singleton.mp hz]; exact l2
    · match vs, hl with
      | [v, w], _ => exact ⟨v, w, rfl, k H1 fun _ _ h => h⟩)⟩
theorem snd_par3 {i j l : Nat} {b c d : Bool} {x y z : Str} {a a2 a3 : Expr} {px py pz pt : Pos} {kt k2 pt2} (hc : X.calm = true) (hN : X.N.Nodup) (hi : X.N[i]? = some x) (hj : X.N[j]? = some y) (hl : X.N[l]? = some z) (hij : i ≠ j) (hil : i ≠ l) (hjl : j ≠ l)
    (hx : X.env.scope.names.lookup x = some .local) (hy : X.env.scope.names.lookup y = some .local) (hz : X.env.scope.names.lookup z = some .local) (ha : PA X [a, a2, a3] (tP F W ck [(i, b), (j, c), (l, d)] xs))
    (hw : swappedStores [.Tuple [.Name x px, .Name y py, .Name z pz] kt pt] (.Tuple [a, a2, a3] k2 pt2) X.env = pure (some [x, y, z])) :
    PS X (.Assign [.Tuple [.Name x px, .Name y py, .Name z pz] kt pt] (.Tuple [a, a2, a3] k2 pt2) pos) (tSt F W ck fu (.par [(i, b), (j, c), (l, d)] xs)) :=
  ⟨fun pins sh σV H Dn I q => (ps_par3 hc hN hi hj hl hij hil hjl hx hy hz ha hw rfl).run pins sh σV H Dn I (by
    have l1 : i < σV.length := by rw [I.len]; exact (List.getElem?_eq_some_iff.mp hi).1
    have l2 : j < σV.length := by rw [I.len]; exact (List.getElem?_eq_some_iff.mp hj).1
    have l3 : l < σV.length := by rw [I.len]; exact (List.getElem?_eq_some_iff.mp hl).1
    refine par_fin q (fun z hz => ?_) fun A vs H1 hl k => ?_
    · rcases List.mem_cons.mp hz with rfl | hz
      · exact l1
      · rcases List.mem_cons.mp hz with rfl | hz
        · exact l2
        · rw [List.mem_singleton.mp hz]; exact l3
    · match vs, hl with
      | [u, v, w], _ => exact ⟨u, v, w, rfl, k H1 fun _ _ h => h⟩)⟩
/-- names only -/
def gN (is : List (Nat × Bool)) : TGs := fun vs σ H Q => vs.length = is.length ∧ Q (setV is vs σ) H
theorem gN_nil : PGs X [] (gN []) := PGs.by pgs_nil fun vs σ H Q ⟨h, q⟩ => ⟨List.length_eq_zero_iff.mp h, by cases vs with | nil => exact q | cons => cases h⟩
theorem gN_cons {i : Nat} {b : Bool} {x : Str} {px : Pos} (hN : X.N.Nodup) (hi : X.N[i]? = some x) (hx : Loc X.env.scope x) (hf : X.fn x = true ∨ X.env.scope.names.lookup x = some .local) (h : PGs X es (gN is)) : PGs X (.Name x px :: es) (gN ((i, b) :: is)) :=
  PGs.by (pgs_cons (pg_name hN hi hx hf) h rfl) fun vs σ H Q ⟨h, q⟩ => by
    cases vs with
    | nil => cases h
    | cons v vs => exact ⟨v, vs, rfl, Nat.succ.inj h, q⟩
theorem snd_parN {tgs : List Expr} {kt k2 pt pt2} (hK : F.K = X.K) (hc : X.calm = true) (hN : ∀ z ∈ is, z.1 < X.N.length) (hl : is.length ≤ 1000) (hn : is.length = tgs.length) (hst : noStar tgs = true) (hg : PGs X tgs (gN is)) (ha : PA X es (tP F W ck is xs)) (hw : swappedStores [.Tuple tgs kt pt] (.Tuple es k2 pt2) X.env = pure none) :
    PS X (.Assign [.Tuple tgs kt pt] (.Tuple es k2 pt2) pos) (tSt F W ck fu (.par is xs)) :=
  ⟨fun pins sh σV H Dn I q => (ps_asg (pe_tup ha) (pg_tup hc hg (asg_of hst).1 (asg_of hst).2) rfl hw rfl).run pins sh σV H Dn I (by
    refine par_fin q (fun z hz => by rw [I.len]; exact hN z hz) fun A vs H1 hv k => ⟨by rw [hv]; exact line_of hl, fun T hT => ⟨T, vs, rfl, .inl (.inl upd_same), by rw [hv, hn], hv, k _ (upd_keep hT)⟩⟩)⟩
end
end Cw

end
section
/-! CwU: new lists; methods. -/
namespace Cw
open PySem L2 PyProof.Rows PySem.W
section
variable {F : Fx} {A : Act} {W : XW} {ck : Nat → List D → RH → Res D} {X : Cx} {e a b o : Expr} {es : List Expr} {x xa xb xo : Ex} {xs : Exs} {ρ ρ1 ρ' : List Addr} {al : List (Option Addr)} {σ : List Sl} {R R' : RH} {σV : L2.St} {H H1 H' : Hp} {pos p apos cpos : Pos}
theorem PostF.bind {α β : Type} {r : Res α} {f : α → RH → Res D} {Rl : List Addr → Hp → β → α → Prop} {Q : VK} {Q1 : β → Hp → Prop} (p : PostF F A al W σ σV ρ H (r.bind f) Q)
    (h : ∀ d R1 v H1 ρ1, Rel F A ρ1 al σ R1 σV H1 → Ext ρ H ρ1 H1 → Rl ρ1 H1 v d → PostF F A al W σ σV ρ1 H1 (f d R1) Q → Q1 v H1) (r0 : Rel F A ρ al σ R σV H) : Post F A al W σ σV ρ H r Rl Q1 := by
  cases r with
  | ok d R' =>
    intro v H' ρ' r1 e1 q1
    refine h d R' v H' ρ' r1 e1 q1 ?_
    simp only [Res.bind] at p
    cases z : f d R' with
    | ok d2 R2 =>
      rw [z] at p
      exact ⟨p.1, fun a H2 ρ2 r2 e2 hn ow => p.2 a H2 ρ2 r2 (e1.trans e2) (e1.none r1 hn) ow⟩
    | exc c R2 =>
      rw [z] at p
      exact fun H2 ρ2 r2 e2 => p H2 ρ2 r2 (e1.trans e2)
    | bad => rw [z] at p; exact p
  | exc c R' => exact p
  | bad => exact p
/-- a new list -/
theorem PostF.new {ds : List D} {vs : List V} {a : Addr} {Q : VK} (p : PostF F A al W σ σV ρ H (.ok (.lst ds) R) Q) (r : Rel F A ρ al σ R σV H) (ha : H a = none) (q : RMs F A al ρ H vs ds) : Q (.ref a) (upd H a (.lst vs)) :=
  p.2 a _ ρ (r.addO ha) (ext_grow (upd_keep ha)) ha ⟨vs, upd_same, RDs.mono ⟨[], by simp⟩ (mask_add ha) q⟩
theorem PostF.of {o : Option D} {Q : VK} (p : PostF F A al W σ σV ρ H (Res.of o R) Q) : ∃ d, o = some d ∧ PostF F A al W σ σV ρ H (.ok d R) Q := by
  cases o with
  | none => exact p.elim
  | some d => exact ⟨d, rfl, p⟩
theorem fr_lst (h : PA X es (tAs F W ck xs)) (hl : lenX xs ≤ 1000) : PE X (.List es pos) (tF F W ck (.lst xs)) :=
  PE.by (pe_lst h) fun σV H Q ⟨A, ρ, al, σ, R, r, p⟩ => ⟨A, ρ, al, σ, R, r, by
    have p : PostF F A al W σ σV ρ H ((evs ck xs σ R).bind fun ds R => .ok (.lst ds) R) Q := p
    cases q : evs ck xs σ R with
    | ok ds R1 =>
      rw [q] at p
      exact fun vs H1 ρ1 r1 e1 q1 => ⟨by rw [RMs.length q1, evs_len q]; exact line_of hl, fun a ha => by
        have hp : H a = none := e1.none r1 ha
        exact p.2 a _ ρ1 (r1.addO ha) (e1.updN hp |>.trans (Ext.refl)) hp ⟨vs, upd_same, RDs.mono ⟨[], by simp⟩ (mask_add ha) q1⟩⟩
    | exc c R1 => rw [q] at p; exact p
    | bad => rw [q] at p; exact p⟩
/-- [..] * n -/
theorem fr_rep (ha : PE X a (tB F W ck xa)) (hb : PE X b (tB F W ck xb)) : PE X (.BinOp a .Mult b pos) (tF F W ck (.bin .mul xa xb)) :=
  PE.by (pe_op op_rep ha hb) fun σV H Q ⟨A, ρ, al, σ, R, r, p⟩ => ⟨A, ρ, al, σ, R, r, PostF.bind (show PostF F A al W σ σV ρ H ((ev ck xa σ R).bind fun x R => (ev ck xb σ R).bind fun y R => .of (binD .mul x y) R) Q from p) (fun d R1 v H1 ρ1 r1 e1 q1 p1 => ⟨A, ρ1, al, σ, R1, r1, PostF.bind p1 (fun y R2 u H2 ρ2 r2 e2 q2 p2 => by
    obtain ⟨d3, e3, p3⟩ := p2.of
    have q1 := RT.ext q1 e2
    cases d with
    | lst ds =>
      cases y with
      | int k =>
        simp only [binD] at e3
        split at e3
        · rename_i h
          simp only [Bool.and_eq_true, decide_eq_true_eq] at h
          cases e3
          obtain ⟨l, vs, rfl, h1, h2⟩ := q1.lst
          refine ⟨l, k, vs, rfl, q2.int, h1, h.1.1, h.1.2, by rw [RMs.length h2]; exact h.2, fun c hc => p3.new r2 hc (RDs.rep h2 k.toNat)⟩
        · cases e3
      | _ => cases e3
    | int i =>
      cases y with
      | int k =>
        simp only [binD] at e3
        split at e3
        · cases e3
          exact absurd p3.1 (by simp [ownable])
        · cases e3
      | _ => cases e3
    | tup ds =>
      cases y with
      | int k =>
        simp only [binD] at e3
        split at e3
        · cases e3
          exact absurd p3.1 (by simp [ownable])
        · cases e3
      | _ => cases e3
    | _ => cases y <;> cases e3) r1⟩) r⟩
/-- [..] + [..] -/
theorem fr_add (ha : PE X a (tB F W ck xa)) (hb : PE X b (tB F W ck xb)) : PE X (.BinOp a .Add b pos) (tF F W ck (.bin .add xa xb)) :=
  PE.by (pe_op op_cat ha hb) fun σV H Q ⟨A, ρ, al, σ, R, r, p⟩ => ⟨A, ρ, al, σ, R, r, PostF.bind (show PostF F A al W σ σV ρ H ((ev ck xa σ R).bind fun x R => (ev ck xb σ R).bind fun y R => .of (binD .add x y) R) Q from p) (fun d R1 v H1 ρ1 r1 e1 q1 p1 => ⟨A, ρ1, al, σ, R1, r1, PostF.bind p1 (fun y R2 u H2 ρ2 r2 e2 q2 p2 => by
    obtain ⟨d3, e3, p3⟩ := p2.of
    have q1 := RT.ext q1 e2
    cases d with
    | lst ds =>
      cases y with
      | lst es =>
        simp only [binD] at e3
        split at e3
        · rename_i h
          cases e3
          obtain ⟨l, vs, rfl, h1, h2⟩ := q1.lst
          obtain ⟨m, ws, rfl, h3, h4⟩ := q2.lst
          exact ⟨l, m, vs, ws, rfl, rfl, h1, h3, by rw [RDs.length h2, RDs.length h4]; exact h, fun c hc => p3.new r2 hc (h2.append h4)⟩
        · cases e3
      | _ => cases e3
    | int i =>
      cases y with
      | int k =>
        cases e3
        exact nomatch (show false = true from p3.1)
      | _ => cases e3
    | str i =>
      cases y with
      | str k =>
        simp only [binD] at e3
        split at e3
        · cases e3
          exact nomatch (show false = true from p3.1)
        · cases e3
      | _ => cases e3
    | tup i =>
      cases y with
      | tup k =>
        simp only [binD] at e3
        split at e3
        · cases e3
          exact nomatch (show false = true from p3.1)
        · cases e3
      | _ => cases e3
    | _ => cases y <;> cases e3) r1⟩) r⟩
/-- list(x) -/
theorem fr_list (hK : F.K = X.K) (hc : X.calm = true) (hg : Gl X "list") (hm : X.mg "list" = none) (hs : isStar a = false) (ha : PE X a (tB F W ck xa)) : PE X (.Call (.Name "list" p) [a] [] pos) (tF F W ck (.blt .list (.cons xa .nil))) := by
  obtain ⟨h1, h2, h3⟩ := bltN_ok .list (fun h => nomatch h)
  refine PE.by (pe_callTy (show CallR X (bltV .list) (rBlt F X.K .list) from call_list_of) hg hm h1 (pa_cons ha pa_nil (star_cons hs)) h2 h3 (star_cons hs) rfl) fun σV H Q ⟨A, ρ, al, σ, R, r, p⟩ => ⟨A, ρ, al, σ, R, r, ?_⟩
  have p : PostF F A al W σ σV ρ H (((ev ck xa σ R).bind fun x R => (Res.ok [] R).bind fun xs R => .ok (x :: xs) R).bind fun ds R => .of (bltD .list ds) R) Q := p
  have p : PostF F A al W σ σV ρ H ((ev ck xa σ R).bind fun x R => .of (bltD .list [x]) R) Q := by
    cases q : ev ck xa σ R <;> (rw [q] at p; exact p)
  refine PostF.bind p (fun d R1 v H1 ρ1 r1 e1 q1 p1 => ?_) r
  obtain ⟨d3, e3, p3⟩ := p1.of
  cases d <;> first | (cases e3; done) | skip
  · cases e3
    obtain ⟨l, vs, rfl, h1, h2⟩ := q1.tup
    exact ⟨l, vs, rfl, .inr (SqT.toK hK h1), fun c hc => p3.new r1 hc h2⟩
  · cases e3
    obtain ⟨l, vs, rfl, h1, h2⟩ := q1.lst
    exact ⟨l, vs, rfl, .inl (.of h1), fun c hc => p3.new r1 hc h2⟩
  · cases e3
    obtain ⟨l, vs, rfl, h1, h2⟩ := q1.frz
    exact ⟨l, vs, rfl, .inl (SqL.toK hK h1), fun c hc => p3.new r1 hc h2⟩
/-! methods -/
theorem findD_spec {d : D} : ∀ {l : List D} {j : Nat}, findD d l = some j → (∃ z, l[j]? = some z ∧ deq z d = true) ∧ ∀ m z, m < j → l[m]? = some z → deq z d = false
  | [], j, h => by cases h
  | z :: l, j, h => by
    simp only [findD] at h
    split at h
    · rename_i q
      cases h
      exact ⟨⟨z, rfl, q⟩, fun m z hm => absurd hm (Nat.not_lt_zero m)⟩
    · rename_i q
      cases z2 : findD d l with
      | none => rw [z2] at h; cases h
      | some i =>
        rw [z2] at h
        cases h
        obtain ⟨⟨y, h1, h2⟩, h3⟩ := findD_spec z2
        refine ⟨⟨y, by simpa using h1, h2⟩, fun m y hm hy => ?_⟩
        cases m with
        | zero =>
          cases hy
          cases w : deq z d with
          | true => exact absurd w q
          | false => rfl
        | succ m => exact h3 m y (Nat.lt_of_succ_lt_succ hm) (by simpa using hy)
theorem toPys_get : ∀ {l : List D} {j : Nat} {z : D}, l[j]? = some z → (toPys l)[j]? = some (toPy z)
  | [], j, z, h => by simp at h
  | y :: l, 0, z, h => by
    have h : y = z := by simpa using h
    subst h
    rfl
  | y :: l, j + 1, z, h => by
    have h : l[j]? = some z := by simpa using h
    simpa [toPys] using toPys_get h
theorem toPys_getI : ∀ {l : List D} {j : Nat} {z : PyData}, (toPys l)[j]? = some z → ∃ y, l[j]? = some y ∧ z = toPy y
  | [], j, z, h => by simp [toPys] at h
  | y :: l, 0, z, h => ⟨y, rfl, by simpa [toPys] using h.symm⟩
  | y :: l, j + 1, z, h => by
    obtain ⟨w, h1, h2⟩ := toPys_getI (l := l) (j := j) (z := z) (by simpa [toPys] using h)
    exact ⟨w, by simpa using h1, h2⟩
theorem snd_index (hK : F.K = X.K) (hu : X.A.units + 70 < cLine) (hs : isStar a = false) (hbase : attributeBase o "index" X.env (eval o X.env) = eval o X.env) (hline : (apos.endLine == cpos.line) = true) (ho : PE X o (tB F W ck xo)) (ha : PE X a (tB F W ck xa)) :
    PE X (.Call (.Attribute o "index" apos) [a] [] cpos) (tS F W ck (.meth .index xo (.cons xa .nil))) :=
  PE.by (pe_bm PySem.F.plainAttrs_list PySem.F.slot_list_index PySem.F.type_list_index (mt_indexD (by omega)) ho (pa_cons ha pa_nil (star_cons hs)) hbase (few_one hs) hline (star_cons hs) rfl) fun σV H Q ⟨A, ρ, al, σ, R, r, p⟩ => ⟨A, ρ, al, σ, R, r, by
    have p : Post F A al W σ σV ρ H ((ev ck xo σ R).bind fun x R => if mthOn .index x = true then ((ev ck xa σ R).bind fun y R => (Res.ok [] R).bind fun xs R => .ok (y :: xs) R).bind fun ds R => .of (methD .index x ds) R else .bad) (RM F A al) Q := p
    cases q : ev ck xo σ R with
    | exc c R1 => rw [q] at p; exact p
    | bad => rw [q] at p; exact p
    | ok x R1 =>
      rw [q] at p
      simp only [Res.bind] at p
      refine Post.okI fun v H1 ρ1 r1 e1 q1 => ?_
      cases x <;> first | exact p.elim | skip
      · rename_i l
        have p : Post F A al W σ σV ρ H ((ev ck xa σ R1).bind fun y R => .of (methD .index (.lst l) [y]) R) (RM F A al) Q := by
          cases q2 : ev ck xa σ R1 <;> (rw [q2] at p; exact p)
        obtain ⟨a0, vs, rfl, h1, h2⟩ := q1.lst
        refine ⟨ty_lst h1, A, ρ1, al, σ, R1, r1, Post.bind (p.ext e1) fun y R2 w H2 ρ2 r2 e2 q2 p2 => ?_⟩
        obtain ⟨d', e3, p3⟩ := p2.of
        simp only [methD] at e3
        split at e3
        · rename_i hf
          obtain ⟨f1, f2⟩ := Bool.and_eq_true_iff.mp hf
          cases z : findD y l with
          | none => rw [z] at e3; cases e3
          | some j =>
            rw [z] at e3
            cases e3
            obtain ⟨⟨z0, g1, g2⟩, g3⟩ := findD_spec z
            have pl : plains l = true := by have := flt_plain f1; simpa [plain] using this
            have py := flt_plain f2
            refine ⟨a0, w, toPy y, toPys l, j, toPy z0, rfl, rfl, ?_, ?_, ?_, shaped_of f2, toPys_get g1, ?_, fun m z' hm hz => ?_, p3.here r2 (RD.int _)⟩
            · rw [← hK]; exact (RT.ext q1 e2).dp (flt_plain f1)
            · rw [← hK]; exact q2.dp py
            · exact shaped_of f1
            · rw [deq_of _ _ (plains_all pl _ _ g1) py]; exact g2
            · obtain ⟨z1, k1, rfl⟩ := toPys_getI hz
              rw [deq_of _ _ (plains_all pl _ _ k1) py]
              exact g3 m z1 hm k1
        · cases e3⟩
end
end Cw

end
section
/-! CwLm: a def's start and end; lambdas handed to catchers; except suites. -/
namespace Cw
open PySem L2 PyProof.Rows PySem.W
section
variable {F F' : Fx} {ρ : List Addr} {H Hm : Hp}
mutual
theorem RD.toF (hK : F'.K = F.K) (hf : F'.fa = F.fa) : ∀ {v : V} {d : D}, RD F ρ H v d → RD F' ρ H v d
  | _, _, .non => .non
  | _, _, .bl b => .bl b
  | _, _, .int i => .int i
  | _, _, .str x => .str x
  | _, _, .tup h t => .tup (by rw [hK]; exact h) (RDs.toF hK hf t)
  | _, _, .lst h t => .lst h (RDs.toF hK hf t)
  | _, _, .frz h t => .frz (by rw [hK]; exact h) (RDs.toF hK hf t)
  | _, _, .dK h t => .dK h (RDp.toF hK hf t)
  | _, _, .dT h t => .dT h (RDt.toF hK hf t)
  | _, _, .ref h => .ref h
  | _, _, .fn h => .fn (by rw [hf]; exact h)
theorem RDs.toF (hK : F'.K = F.K) (hf : F'.fa = F.fa) : ∀ {v : List V} {d : List D}, RDs F ρ H v d → RDs F' ρ H v d
  | _, _, .nil => .nil
  | _, _, .cons h t => .cons (RD.toF hK hf h) (RDs.toF hK hf t)
theorem RDp.toF (hK : F'.K = F.K) (hf : F'.fa = F.fa) : ∀ {v : List (Key × V)} {d : List (Key × D)}, RDp F ρ H v d → RDp F' ρ H v d
  | _, _, .nil => .nil
  | _, _, .cons h t => .cons (RD.toF hK hf h) (RDp.toF hK hf t)
theorem RDt.toF (hK : F'.K = F.K) (hf : F'.fa = F.fa) : ∀ {v : List (List Key × V)} {d : List (List Key × D)}, RDt F ρ H v d → RDt F' ρ H v d
  | _, _, .nil => .nil
  | _, _, .cons h t => .cons (RD.toF hK hf h) (RDt.toF hK hf t)
end
theorem OwR.toF (hK : F'.K = F.K) (hf : F'.fa = F.fa) {a : Addr} {d : D} (h : OwR F ρ Hm H a d) : OwR F' ρ Hm H a d := by
  cases d <;> first | exact False.elim h | (obtain ⟨vs, h1, h2⟩ := h; exact ⟨vs, h1, h2.toF hK hf⟩)
theorem Refs.toF {R : RH} (hK : F'.K = F.K) (hf : F'.fa = F.fa) (hT : F'.T = F.T) (h : Refs F ρ R Hm H) : Refs F' ρ R Hm H :=
  ⟨h.1, fun i a ds h1 h2 => let ⟨vs, h3, h4⟩ := h.2.1 i a ds h1 h2; ⟨vs, h3, h4.toF hK hf⟩, by rw [hT]; exact h.2.2⟩
end
section
variable {F : Fx}
theorem gS_start : ∀ (ds : List D) (m i : Nat), gS (ds.map Sl.sh ++ List.replicate m Sl.no) i = match ds[i]? with | some d => .sh d | none => .no
  | [], m, i => by
    show gS (List.replicate m Sl.no) i = .no
    induction m generalizing i with
    | zero => rfl
    | succ m ih =>
      cases i with
      | zero => rfl
      | succ i => exact ih i
  | d :: ds, m, 0 => rfl
  | d :: ds, m, i + 1 => by
    rw [List.getElem?_cons_succ]
    exact gS_start ds m i
theorem rel_start {O0 : List Addr} {ρ : List Addr} {R : RH} {H : Hp} {vs : List V} {ds : List D} {N : List Str} (nd : ρ.Nodup) (o0 : ∀ a ∈ O0, a ∉ ρ ∧ H a ≠ none) (rf : Refs F ρ R (mask H (O0 ++ ρ)) H) (rd : RDs F ρ (mask H (O0 ++ ρ)) vs ds) (hl : vs.length ≤ N.length) (cr : ∀ O1 H1 ρ1, F.cre = some (O1, H1, ρ1) → (∀ a ∈ O0, a ∈ O1 ∨ H1 a = none) ∧ Ext ρ1 H1 ρ H) :
    Rel F ⟨O0, H, ρ⟩ ρ (List.replicate N.length none) (ds.map Sl.sh ++ List.replicate (N.length - ds.length) Sl.no) R (L2.start N vs) H := by
  have ow : owns (List.replicate N.length (none : Option Addr)) = [] := by
    induction N.length with
    | zero => rfl
    | succ n ih => exact ih
  have hm : mask H (OO ⟨O0, H, ρ⟩ ρ (List.replicate N.length none)) = mask H (O0 ++ ρ) := mask_congr fun a => by
    unfold OO
    rw [ow, List.append_nil]
  have hd := rd.length
  have hlen : (L2.start N vs).length = N.length := by
    unfold L2.start
    rw [List.length_append, List.length_map, List.length_replicate]
    omega
  refine ⟨?_, by rw [List.length_replicate, hlen], fun i hi => ?_, rf.1, fun i a es h1 h2 => ?_, by rw [ow, List.append_nil]; exact nd, ⟨[], by simp⟩, (fun a h => by rw [ow] at h; cases h), fun a h n => absurd h n, fun a o h n _ => h, fun a h => ?_, fun a h => h, rf.2.2, cr⟩
  · rw [hlen, List.length_append, List.length_map, List.length_replicate]
    omega
  · rw [gS_start, hm]
    have hal : (List.replicate N.length (none : Option Addr)).getD i none = none := by
      rw [List.getD_eq_getElem?_getD, List.getElem?_replicate]
      split <;> rfl
    rw [hal]
    cases q : ds[i]? with
    | none => rfl
    | some d =>
      obtain ⟨v, h1, h2⟩ := rd.get q
      refine ⟨rfl, v, ?_, h2⟩
      unfold L2.start
      rw [List.getD_eq_getElem?_getD, List.getElem?_append_left (by rw [List.length_map]; exact (List.getElem?_eq_some_iff.mp h1).1), List.getElem?_map, h1]
      rfl
  · rw [hm]
    exact rf.2.1 i a es h1 h2
  · obtain ⟨h1, h2⟩ := o0 a h
    exact ⟨h2, h1, fun m => by rw [ow] at m; cases m⟩
/-- what a def's end gives its caller -/
theorem rel_end {A : Act} {ρ' : List Addr} {al : List (Option Addr)} {σ : List Sl} {R' : RH} {σV : L2.St} {H' : Hp} (r : Rel F A ρ' al σ R' σV H') :
    Ext A.re A.He ρ' H' ∧ ρ'.Nodup ∧ Refs F ρ' R' (mask H' (A.O0 ++ ρ')) H' ∧ ∀ {v : V} {d : D}, RM F A al ρ' H' v d → RD F ρ' (mask H' (A.O0 ++ ρ')) v d := by
  have k : ∀ a o, mask H' (OO A ρ' al) a = some o → mask H' (A.O0 ++ ρ') a = some o := fun a o h => by
    obtain ⟨h1, h2⟩ := mask_some h
    exact mask_mk (fun m => h2 (List.mem_append_left _ m)) h1 (mask_nt h)
  have nil : ∃ e : List Addr, ρ' = ρ' ++ e := ⟨[], by simp⟩
  exact ⟨⟨r.pre, r.newR, r.fr, r.frN⟩, (List.nodup_append.mp r.nd).1, ⟨r.rl, (fun i a ds h1 h2 => let ⟨vs, h3, h4⟩ := r.rf i a ds h1 h2; ⟨vs, h3, h4.mono nil k⟩), r.tb⟩, fun h => RD.mono nil k h⟩
end
theorem unEr_len : ∀ σ : List Sl, (unEr σ).length = σ.length
  | [] => rfl
  | .er _ :: σ => congrArg (· + 1) (unEr_len σ)
  | .no :: σ => congrArg (· + 1) (unEr_len σ)
  | .lm :: σ => congrArg (· + 1) (unEr_len σ)
  | .sh _ :: σ => congrArg (· + 1) (unEr_len σ)
  | .ow _ :: σ => congrArg (· + 1) (unEr_len σ)
theorem unEr_get : ∀ (σ : List Sl) (i : Nat), gS (unEr σ) i = match gS σ i with | .er _ => .no | s => s
  | [], i => by cases i <;> rfl
  | s :: σ, 0 => by cases s <;> rfl
  | s :: σ, i + 1 => by cases s <;> exact unEr_get σ i
theorem hide_len : ∀ σ : List Sl, (hideS σ).length = σ.length
  | [] => rfl
  | .er _ :: σ => congrArg (· + 1) (hide_len σ)
  | .no :: σ => congrArg (· + 1) (hide_len σ)
  | .lm :: σ => congrArg (· + 1) (hide_len σ)
  | .sh _ :: σ => congrArg (· + 1) (hide_len σ)
  | .ow _ :: σ => congrArg (· + 1) (hide_len σ)
theorem hide_get : ∀ (σ : List Sl) (i : Nat), gS (hideS σ) i = match gS σ i with | .sh d => .sh d | _ => .no
  | [], i => by cases i <;> rfl
  | s :: σ, 0 => by cases s <;> rfl
  | s :: σ, i + 1 => by cases s <;> exact hide_get σ i
section
variable {F : Fx} {A : Act} {ρ ρ1 : List Addr} {al : List (Option Addr)} {σ : List Sl} {R R1 : RH} {σV : L2.St} {H H1 : Hp} {a f : Addr} {c j : Nat}
/-- into an except suite -/
theorem Rel.toEr (r : Rel F A ρ al σ R σV H) (he : F.er = none) (hj : gS σ j = .no) (hl : j < σV.length) : Rel { F with er := some (a, c) } A ρ al (sS σ j (.er c)) R (σV.set j (some (.ref a))) H where
  ls := by rw [sS_length, List.length_set]; exact r.ls
  la := by rw [List.length_set]; exact r.la
  sl := fun i hi => by
    rw [List.length_set] at hi
    rw [gS_set, getD_set, r.ls]
    have z := r.sl i hi
    by_cases e : i = j
    · subst e
      rw [if_pos ⟨rfl, hl⟩, if_pos ⟨rfl, hl⟩]
      rw [hj] at z
      exact ⟨z, a, rfl, rfl⟩
    · rw [if_neg fun z => e z.1, if_neg fun z => e z.1]
      cases w : gS σ i with
      | no => rw [w] at z; exact z
      | lm => rw [w] at z; exact z
      | er c' =>
        rw [w] at z
        obtain ⟨_, b, z2, _⟩ := z
        rw [he] at z2
        cases z2
      | sh d =>
        rw [w] at z
        obtain ⟨z1, x, z2, z3⟩ := z
        exact ⟨z1, x, z2, RD.toF (F := F) (F' := { F with er := some (a, c) }) rfl rfl z3⟩
      | ow d =>
        rw [w] at z
        obtain ⟨b, z1, z2, z3⟩ := z
        exact ⟨b, z1, z2, OwR.toF (F := F) (F' := { F with er := some (a, c) }) rfl rfl z3⟩
  rl := r.rl
  rf := fun i b ds h1 h2 => let ⟨vs, h3, h4⟩ := r.rf i b ds h1 h2; ⟨vs, h3, RDs.toF (F := F) (F' := { F with er := some (a, c) }) rfl rfl h4⟩
  nd := r.nd
  pre := r.pre
  newO := r.newO
  newR := r.newR
  fr := r.fr
  o0 := r.o0
  frN := r.frN
  tb := r.tb
  cr := r.cr
/-- out of it -/
theorem Rel.ofEr (r : Rel { F with er := some (a, c) } A ρ al σ R σV H) : Rel F A ρ al (unEr σ) R σV H where
  ls := by rw [unEr_len]; exact r.ls
  la := r.la
  sl := fun i hi => by
    rw [unEr_get]
    have z := r.sl i hi
    cases w : gS σ i with
    | no => rw [w] at z; exact z
    | lm => rw [w] at z; exact z
    | er c' => rw [w] at z; exact z.1
    | sh d =>
      rw [w] at z
      obtain ⟨z1, x, z2, z3⟩ := z
      exact ⟨z1, x, z2, RD.toF (F := { F with er := some (a, c) }) (F' := F) rfl rfl z3⟩
    | ow d =>
      rw [w] at z
      obtain ⟨b, z1, z2, z3⟩ := z
      exact ⟨b, z1, z2, OwR.toF (F := { F with er := some (a, c) }) (F' := F) rfl rfl z3⟩
  rl := r.rl
  rf := fun i b ds h1 h2 => let ⟨vs, h3, h4⟩ := r.rf i b ds h1 h2; ⟨vs, h3, RDs.toF (F := { F with er := some (a, c) }) (F' := F) rfl rfl h4⟩
  nd := r.nd
  pre := r.pre
  newO := r.newO
  newR := r.newR
  fr := r.fr
  o0 := r.o0
  frN := r.frN
  tb := r.tb
  cr := r.cr
theorem sS_self : ∀ (σ : List Sl) (j : Nat), gS σ j = .no → sS σ j .no = σ
  | [], _, _ => rfl
  | _ :: _, 0, h => by
    have h : _ = Sl.no := h
    subst h
    rfl
  | _ :: σ, j + 1, h => by
    show _ :: sS σ j .no = _
    rw [sS_self σ j h]
/-- a catcher's lambda comes to slot 0 -/
theorem Rel.setLm (r : Rel F A ρ al σ R σV H) (hf : F.lm = some f) (h0 : gS σ 0 = .no) (hl : 0 < σV.length) : Rel F A ρ al (sS σ 0 .lm) R (σV.set 0 (some (.ref f))) H := by
  refine ⟨by rw [sS_length, List.length_set]; exact r.ls, by rw [List.length_set]; exact r.la, fun j hj => ?_, r.rl, r.rf, r.nd, r.pre, r.newO, r.newR, r.fr, r.o0, r.frN, r.tb, r.cr⟩
  rw [List.length_set] at hj
  rw [gS_set, getD_set, r.ls]
  have z := r.sl j hj
  by_cases e : j = 0
  · subst e
    rw [if_pos ⟨rfl, hl⟩, if_pos ⟨rfl, hl⟩]
    rw [h0] at z
    exact ⟨z, f, hf, rfl⟩
  · rw [if_neg fun z => e z.1, if_neg fun z => e z.1]
    exact z
/-- what a lambda's body reads, at its call -/
theorem Rel.lamS {O1 : List Addr} (r : Rel F A ρ al σ R σV H) (e : Ext ρ H ρ1 H1) (hO : ∀ a ∈ O1, a ∈ A.O0 ++ owns al ∨ H a = none) (o1 : ∀ a ∈ O1, a ∉ ρ1 ∧ H1 a ≠ none) (nd : ρ1.Nodup) (rf : Refs F ρ1 R1 (mask H1 (O1 ++ ρ1)) H1) (hc : F.cre = none) :
    Rel F ⟨O1, H1, ρ1⟩ ρ1 (List.replicate σV.length none) (hideS σ) R1 σV H1 := by
  have ow : owns (List.replicate σV.length (none : Option Addr)) = [] := by
    induction σV.length with
    | zero => rfl
    | succ n ih => exact ih
  have hm : mask H1 (OO ⟨O1, H1, ρ1⟩ ρ1 (List.replicate σV.length none)) = mask H1 (O1 ++ ρ1) := mask_congr fun a => by
    unfold OO
    rw [ow, List.append_nil]
  have k : ∀ a o, mask H (OO A ρ al) a = some o → mask H1 (O1 ++ ρ1) a = some o := fun a o h => by
    obtain ⟨h1, h2⟩ := mask_some h
    have n2 : a ∉ ρ := fun z => h2 (mem_OO.mpr (.inr (.inl z)))
    refine mask_mk (fun m => ?_) (e.keep a o h1 n2 (mask_nt h)) (mask_nt h)
    rcases List.mem_append.mp m with m | m
    · rcases hO a m with m | m
      · rcases List.mem_append.mp m with m | m
        · exact h2 (mem_OO.mpr (.inl m))
        · exact h2 (mem_OO.mpr (.inr (.inr m)))
      · rw [h1] at m; cases m
    · have := e.new a m n2
      rw [h1] at this
      cases this
  refine ⟨by rw [hide_len]; exact r.ls, by rw [List.length_replicate], fun i hi => ?_, rf.1, fun i b es h1 h2 => (by rw [hm]; exact rf.2.1 i b es h1 h2), by rw [ow, List.append_nil]; exact nd, ⟨[], by simp⟩, fun b h => (by rw [ow] at h; cases h), fun b h n => absurd h n, fun b o h _ _ => h, fun b h => ?_, fun b h => h, rf.2.2, fun _ _ _ z => (by rw [hc] at z; cases z)⟩
  · have hal : (List.replicate σV.length (none : Option Addr)).getD i none = none := by
      rw [List.getD_eq_getElem?_getD, List.getElem?_replicate]
      split <;> rfl
    rw [hide_get, hal, hm]
    have z := r.sl i hi
    cases w : gS σ i with
    | sh d =>
      rw [w] at z
      obtain ⟨_, x, z2, z3⟩ := z
      exact ⟨rfl, x, z2, z3.mono e.pre k⟩
    | _ => rfl
  · obtain ⟨h1, h2⟩ := o1 b h
    exact ⟨h2, h1, fun m => by rw [ow] at m; cases m⟩
end
/-- what is wanted behind a call -/
def postI (F : Fx) (r : Res D) (O0 ρ : List Addr) (H : Hp) (Q : VK) (E : XK) : Prop := match r with
  | .ok d R' => ∀ v H' ρ', Ext ρ H ρ' H' → ρ'.Nodup → Refs F ρ' R' (mask H' (O0 ++ ρ')) H' → RD F ρ' (mask H' (O0 ++ ρ')) v d → Q v H'
  | .exc c R' => ∀ H' ρ' C, Ext ρ H ρ' H' → ρ'.Nodup → Refs F ρ' R' (mask H' (O0 ++ ρ')) H' → F.ca c = some C → E (.ref C) none H'
  | .bad => False
/-- a lambda's word: its body's answer -/
def LamP (F : Fx) (cal : RH → Res D) (O0 ρ : List Addr) (H : Hp) (t : XK → Hp → VK → Prop) : Prop := ∀ (E' : XK) (H1 : Hp) (ρ1 : List Addr) (R1 : RH) (O1 : List Addr) (Q1 : VK), Ext ρ H ρ1 H1 → (∀ a ∈ O1, a ∈ O0 ∨ H a = none) → (∀ a ∈ O1, a ∉ ρ1 ∧ H1 a ≠ none) → ρ1.Nodup → Refs F ρ1 R1 (mask H1 (O1 ++ ρ1)) H1 → postI F (cal R1) O1 ρ1 H1 Q1 E' → t E' H1 Q1
end Cw

end
section
/-! CwLn: making and calling a lambda; the call of a catcher. -/
namespace Cw
open PySem PySem.Spec L2 PyProof.Rows PySem.W
abbrev lamQ (X : Cx) : Str := X.env.qual ++ "<lambda>"
/-- the lambda's object -/
abbrev lamO (X : Cx) (pa : Arguments) (body : Expr) (sc : Scope) (pm : Value) (c' : Addr) (ctv : Value) : Obj := kla_obj "<lambda>" (lamQ X) pa body sc (cloFrom X.env.cells sc.names []) pm c' ctv
section
variable {X : Cx} {pins : List (Addr × Obj)} {σV : L2.St} {H : Hp} {s : Shared}
/-- a lambda is made; besides what LamX tells: nothing that was there is gone -/
theorem lam_mk {T : List (Addr × Str)} {c P : Addr} {pa : Arguments} {body : Expr} {sc : Scope} {pos : Pos} {E Q : Value → Shared → Prop} (I : Inv X pins σV H s) (TB : LamX.TabB X.base X.mg c P) (hcode : X.env.code = .ref c)
    (hm : (P, lamQ X) ∈ T) (hu : ∀ p ∈ T, p.1 = P → p.2 = lamQ X) (hT : LamX.Tabs T H) (hdef : defaultsOf pa X.env = ([], [])) (hfree : ∀ y ∈ sc.names, y.2 = .free → ∃ c, X.env.cells.lookup y.1 = some c)
    (h : ∀ (f c' : Addr) (pm ctv : Value) (H1 : Hp) (s' : Shared), Inv X pins σV H1 s' → LamX.ExtN H H1 → (∀ b, H b ≠ none → H1 b ≠ none) → LamX.Tabs T H1 → s'.heap.get? f = some (lamO X pa body sc pm c' ctv) → H1 f = none → f ∉ frs X.stack →
      H1 c' = some (LamX.CodeO c' (lamQ X)) → Q (.ref f) s') : wpAny (model X.prog X.w) X.A (eval (.Lambda pa body sc pos) X.env) Q E s := by
  obtain ⟨ps, tP, tk, tc⟩ := hT _ hm
  refine kla_eval hdef ?_
  have gone : ∀ f, s.heap.objs.size ≤ f → f ∉ frs X.stack := fun f hf z => by
    rcases List.mem_cons.mp (I.stkSub _ z) with e | e
    · have l := I.lt
      rw [← e] at l
      exact Nat.lt_irrefl _ (Nat.lt_of_lt_of_le l hf)
    · exact I.nofs hf e
  have bP : s.heap.BuiltinsAt X.mg P := TB.bm.keeps I.bk
  have oP : s.heap.get? P = some { cls := .none, data := .fields ps } := I.hok P _ tP
  cases q : codeAmong pos ps.toList with
  | some cv =>
    obtain ⟨c', e, hco⟩ := tc pos cv q
    subst e
    refine kla_makeFunctionHit (mg := X.mg) (c := c) (P := P) (ps := ps) (closure_ok hfree) I.ok.glob (I.mod.glob.keeps I.bk) hcode (TB.code.keeps I.bk) oP tk q bP fun ctv h' tn hx hsz => ?_
    have J : Inv X pins σV H { s with heap := h'.push (lamO X pa body sc ((X.mg "__name__").getD .none) c' ctv), toks := tn } := I.kept fun b o e => Heap.get?_push_of_some _ (hx b o e)
    exact h h'.objs.size c' _ ctv H _ J (LamX.ExtN.refl H) (fun _ z => z) hT (Heap.get?_push_size _ rfl) (I.hok.fresh hsz) (gone _ hsz) hco
  | none =>
    refine kla_makeFunction (mg := X.mg) (c := c) (P := P) (ps := ps) (closure_ok hfree) I.ok.glob (I.mod.glob.keeps I.bk) hcode (TB.code.keeps I.bk) oP tk q TB.gP bP fun c' ctv h' tn hx hge hlt hrec htb => ?_
    obtain ⟨c2, oc, vs, t, e2, hoc, hd, hv⟩ := hrec
    cases e2
    have hsz : s.heap.objs.size ≤ h'.objs.size := Nat.le_trans hge (Nat.le_of_lt hlt)
    have nC : H c' = none := I.hok.fresh hge
    let o := lamO X pa body sc ((X.mg "__name__").getD .none) c' ctv
    have J := LamX.inv_table (t' := tn) (more := #[rawInt pos.line, rawInt pos.col, .ref c']) (h' := h'.push o) I tP (fun b o hb e => Heap.get?_push_of_some _ (hx b o hb e)) (Heap.get?_push_of_some _ htb) hge
      ⟨oc, vs, t, Heap.get?_push_of_some _ hoc, hd, hv⟩
    let H1 : Hp := upd (upd H P (.tbl (ps ++ #[rawInt pos.line, rawInt pos.col, .ref c']))) c' (LamX.CodeO c' (lamQ X))
    have eN : LamX.ExtN H H1 := fun b o e n => by
      show upd _ c' _ b = _
      rw [upd_ne (ne_of_none e nC), upd_ne (fun z => n ps (Option.some.inj (e.symm.trans (by rw [z]; exact tP))))]
      exact e
    have th : ∀ b, H b ≠ none → H1 b ≠ none := fun b hb => by
      have n : b ≠ c' := fun z => hb (by rw [z]; exact nC)
      show upd _ c' _ b ≠ _
      rw [upd_ne n]
      by_cases z : b = P
      · rw [z, upd_same]; simp
      · rw [upd_ne z]; exact hb
    have eL : (ps ++ #[rawInt pos.line, rawInt pos.col, .ref c']).toList = ps.toList ++ [rawInt pos.line, rawInt pos.col, .ref c'] := by simp
    refine h h'.objs.size c' _ ctv H1 _ J eN th (fun p hp => ?_) (Heap.get?_push_size _ rfl) ?_ (gone _ hsz) upd_same
    · by_cases hb : p.1 = P
      · rw [hu p hp hb, hb]
        refine ⟨_, (upd_ne (ne_of_none tP nC)).trans upd_same, by rw [eL]; exact TriplesOk_snoc _ _ _ _ tk, fun p' cv hcv => ?_⟩
        rw [eL] at hcv
        rcases LamX.among_app _ tk hcv with z | z
        · obtain ⟨c0, e1, e2⟩ := tc p' cv z
          exact ⟨c0, e1, eN _ _ e2 LamX.codeO_ne⟩
        · exact ⟨c', z, upd_same⟩
      · obtain ⟨ps', a1, a2, a3⟩ := hT p hp
        refine ⟨ps', (upd_ne (ne_of_none a1 nC)).trans ((upd_ne hb).trans a1), a2, fun p' cv hcv => ?_⟩
        obtain ⟨c0, e1, e2⟩ := a3 p' cv hcv
        exact ⟨c0, e1, eN _ _ e2 LamX.codeO_ne⟩
    · have n1 : h'.objs.size ≠ c' := Nat.ne_of_gt hlt
      have n2 : h'.objs.size ≠ P := Nat.ne_of_gt (Nat.lt_of_lt_of_le (Heap.lt_size oP) hsz)
      show upd _ c' _ h'.objs.size = none
      rw [upd_ne n1, upd_ne n2]
      exact I.hok.fresh hsz
/-- the catcher's place -/
abbrev catCx (X : Cx) (Ng : List Str) (x : Str) (sg : Scope) (g : Addr) (cdg : Value) (s : Shared) (H : Hp) : Cx := cxOf C8.CX0 X.prog X.w X.K X.mg X.base Ng x sg g cdg X.A X.stack s H C8.E0
/-- the lambda's call, in the catcher: what is raised is wished for at the catcher's slots -/
theorem lam_act {Ng : List Str} {x a : Str} {sg : Scope} {g f c' : Addr} {cdg pm ctv : Value} {pa : Arguments} {body : Expr} {sc : Scope} {k i : Nat} {t : XK → TE} (I : Inv X pins σV H s) (L : LamX.LamS X.env.scope sc)
    (hf : s.heap.get? f = some (lamO X pa body sc pm c' ctv)) (hfn : H f = none) (hfr : f ∉ frs X.stack) (hbind : bindArgs (kla_fn "<lambda>" (lamQ X) pa body sc (cloFrom X.env.cells sc.names []) pm (.ref c') ctv) ⟨[], []⟩ = pure [])
    (hr : Room (k + 1) (X.A.deeper (envOfC x sg s.heap.objs.size g cdg))) (hbody : ∀ (A : Around) (outer : List Env) (s : Shared) (H : Hp) (E : XK), Room k (A.deeper (LamX.lamEnv X sc s.heap.objs.size f c')) → PE (LamX.lamCx X A outer s H E sc f c') body (t E))
    (hN : Ng[i]? = some a) (hv : Vis sg a) (hd : (a == ("__debug__" : Str)) = false) (hcd : (a == ("__classdict__" : Str)) = false) (W : WX) (pn : List (Addr × Obj)) (xe : Value → Shared → Prop) (p1 p2 : Pos) (tk : Takes ((catCx X Ng x sg g cdg s H).tr pn xe) W) :
    PE ((catCx X Ng x sg g cdg s H).tr pn xe) (.Call (.Name a p1) [] [] p2) (fun σZ HZ Q => σZ[i]? = some (some (.ref f)) ∧ HZ c' = some (LamX.CodeO c' (lamQ X)) ∧ t (WE W σZ) σV HZ Q) := by
  refine ⟨fun pinsZ sZ σZ HZ Q IZ ⟨hs, hc, ht⟩ => ?_⟩
  refine wpAny_Call_Name_kw (thn ((pe_var (pos := p1) (i := i) hN hv hd hcd).run pinsZ sZ σZ HZ (fun v H1 => v = .ref f ∧ H1 = HZ) IZ ⟨.ref f, hs, rfl, rfl⟩) fun u s1 ⟨v, H1, J1, r1, q1⟩ => ?_)
  obtain ⟨rfl, rfl⟩ := q1
  obtain rfl : u = Value.ref f := r1
  have gf : s1.heap.get? f = some (lamO X pa body sc pm c' ctv) := J1.base.keep f _ hf hfn hfr (fun z => nomatch (show f ∈ ([] : List Addr) from z))
  refine callWith_F0 ⟨_, _, _, _, gf⟩ ?_
  have un : Un (frs X.stack) [] H H1 s.heap s1.heap := J1.base
  obtain ⟨⟨oc, vs, tq, hoc, hdc, hvc⟩, _, _⟩ := J1.hok c' _ hc
  have rc : codeAny (model X.prog X.w) (X.A.deeper (envOfC x sg s.heap.objs.size g cdg)) (.call (.ref f) ⟨[], []⟩) (CR (L2.CX X.prog X.w) (envOfC x sg s.heap.objs.size g cdg :: X.stack) X.prog X.w H1 s1 Q (WE W σZ)) s1 := by
    refine kla_callFunE hr.depth gf rfl L.co L.gen rfl ⟨c', oc, vs, tq, rfl, hoc, hdc, hvc⟩ ?_
    rw [hbind]
    refine wpAny_pure (wpAny_newFunctionEnv (fun y hy => (L.own y hy).2) (fun y hy => absurd hy (by simp)) (fun h₁ hns hsb => ⟨J1.nolimit.fresh _ hsb, ?_⟩) L.kind)
    show codeAny _ _ (.expr body (LamX.lamEnv X sc s1.heap.objs.size f c')) _ _
    have kp : ∀ b o, s1.heap.get? b = some o → h₁.get? b = some o := fun b o e => hsb.extBut b o (Nat.ne_of_lt (Heap.lt_size e)) (Heap.get?_push_of_some _ e)
    have J : Inv (LamX.lamCx X (X.A.deeper (envOfC x sg s.heap.objs.size g cdg)) (envOfC x sg s.heap.objs.size g cdg :: X.stack) s1 H1 (WE W σZ) sc f c') [] σV H1 { s1 with heap := h₁, toks := s1.toks + ([] : List (Str × Value)).length } :=
      LamX.lam_start2 I L J1.env0 hr.hd un hns kp
    exact kla_codeExpr (wpAny_mono ((hbody _ _ s1 H1 _ (hr.deeper _)).run [] _ _ H1 Q J ht) (fun v s' ⟨w', H', J', rv, q⟩ => ⟨w', H', J'.os, J'.bare, J'.base, J'.hok, rv, q⟩) fun _ _ hq => hq)
  refine wpAny_call (codeAny_mono rc fun r s' hq => ?_)
  cases r with
  | error e => exact passAt tk σZ pinsZ H1 s1 e s' J1 hq
  | ok fl => cases fl <;> first | exact False.elim hq | exact J1.after hq
end
/-- a catcher, at a place like X: its def's body takes a lambda's word to its own -/
structure CatAt (F : Fx) (X : Cx) (x : Str) (td : Td) (ws : List D) : Prop where
  at_ : ∃ (g : Addr) (pg : Arguments) (bg : List Stmt) (sg : Scope) (dV kV doc pm cdv ct oc : Value) (an od : Option Addr) (osl : Array (Option Value)) (Ng : List Str) (a : Str),
    X.mg x = some (.ref g) ∧ keepIn X.K (.ref g) = true ∧ X.K.lookup g = some ⟨oc, od, .func (fnOf x x pg bg sg dV kV doc pm an cdv ct), osl⟩ ∧ codeIn X.K cdv x = true ∧ L2.Binds X.K (fnOf x x pg bg sg dV kV doc pm an cdv ct) [a] [] ∧ FnScope Ng [a] sg ∧ Ng[0]? = some a ∧ Vis sg a ∧
    (a == ("__debug__" : Str)) = false ∧ (a == ("__classdict__" : Str)) = false ∧
    ∀ (Y : Cx) (s : Shared) (H : Hp) (f c' : Addr) (q : Str) (Q : VK) (cal : RH → Res D) (O0 ρ : List Addr) (R : RH) (t : XK → Hp → VK → Prop), Y.prog = X.prog → Y.w = X.w → Y.K = X.K → Y.mg = X.mg → Y.base = X.base → Room 1 (Y.A.deeper (envOfC x sg s.heap.objs.size g cdv)) →
      (∀ (W : WX) (pn : List (Addr × Obj)) (xe : Value → Shared → Prop) (p1 p2 : Pos), Takes ((catCx Y Ng x sg g cdv s H).tr pn xe) W → PE ((catCx Y Ng x sg g cdv s H).tr pn xe) (.Call (.Name a p1) [] [] p2) (fun σZ HZ Q => σZ[0]? = some (some (.ref f)) ∧ HZ c' = some (LamX.CodeO c' q) ∧ t (WE W σZ) HZ Q)) →
      H c' = some (LamX.CodeO c' q) → ρ.Nodup → (∀ b ∈ O0, b ∉ ρ ∧ H b ≠ none) → Refs F ρ R (mask H (O0 ++ ρ)) H → LamP F cal O0 ρ H t → postI F (triR td ws (cal R)) O0 ρ H Q C8.E0 →
      ∃ tt, PSs (catCx Y Ng x sg g cdv s H) bg tt ∧ tt { nx := fun _ H' => Q .non H', rt := Q } (L2.start Ng [.ref f]) H
/-- a lambda's place in its maker's text: what the maker's code object and table say -/
structure LamAt (F : Fx) (X : Cx) : Prop where
  at_ : ∃ (c P : Addr), LamX.TabB X.base X.mg c P ∧ X.env.code = .ref c ∧ (P, lamQ X) ∈ F.T ∧ ∀ p ∈ F.T, p.1 = P → p.2 = lamQ X
section
variable {F : Fx} {W : XW} {ck : Nat → List D → RH → Res D} {X : Cx} {k : Nat}
/-- x(lambda: body) -/
theorem snd_tri {x : Str} {td : Td} {ws : List D} {b : Ex} {f0 : Nat} {pa : Arguments} {body : Expr} {sc : Scope} {p lpos pos : Pos} (G : CatAt F X x td ws) (LA : LamAt F X) (hcre : F.cre = none) (hg : Gl X x) (hr : Room (k + 2) X.A) (L : LamX.LamS X.env.scope sc) (hdef : defaultsOf pa X.env = ([], []))
    (hbind : ∀ (q : Str) (cl : List (Str × Addr)) (pm cv ctv : Value), bindArgs (kla_fn "<lambda>" q pa body sc cl pm cv ctv) ⟨[], []⟩ = pure [])
    (hbody : ∀ (A : Around) (outer : List Env) (s : Shared) (H : Hp) (E : XK) (f c' : Addr), Room k (A.deeper (LamX.lamEnv X sc s.heap.objs.size f c')) → PE (LamX.lamCx X A outer s H E sc f c') body (tS F (fun c _ H' => ∀ C, F.ca c = some C → E (.ref C) none H') ck b)) (hd : (x == ("__debug__" : Str)) = false) :
    PE X (.Call (.Name x p) [.Lambda pa body sc lpos] [] pos) (tS F W ck (.tri f0 td ws b)) := by
  obtain ⟨g, pg, bg, sg, dV, kV, doc, pm, cdv, ct, oc, an, od, osl, Ng, a, hm, hk, lk, hcg, hb, Sg, hNg, hva, hda, hca, hG⟩ := G.at_
  obtain ⟨c, P, TB, hcode, hmT, hu⟩ := LA.at_
  refine ⟨fun pins s σV H Q I ⟨A, ρ, al, σ, R, r, p⟩ => ?_⟩
  refine wpAny_Call_Name_kw (ld_glob I hg hm ?_ hd)
  refine callWith_K (h₀ := X.base) I.ok.mod.kin hk ?_ (by rfl) (by rfl)
  refine Calls.spliced_cons (lam_mk I TB hcode hmT hu r.tb hdef (L.has I.ok) fun f c' pm' ctv H1 s' I1 eN th T1 hf hfn hfr hco => ?_)
  refine Calls.spliced_nil ⟨I1.kIn, ?_⟩
  have nt : ∀ a o, H a = some o → Nt o → H1 a = some o := fun a o h n => eN a o h n
  have e1 : Ext ρ H ρ H1 := ⟨⟨[], by simp⟩, fun a h n => absurd h n, fun a o h _ n => nt a o h n, th⟩
  have r1 : Rel F A ρ al σ R σV H1 := r.step e1 (List.nodup_append.mp r.nd).1 r.rl (fun i a ds h1 h2 => by
    obtain ⟨vs, h3, h4⟩ := r.rf i a ds h1 h2
    exact ⟨vs, nt _ _ h3 (fun _ z => by cases z), h4.mono e1.pre e1.mask⟩) T1
  have p : Post F A al W σ σV ρ H1 (triR td ws (stx b (hideS σ) (ev ck b (hideS σ) R))) (RM F A al) Q := Post.ext (show Post F A al W σ σV ρ H (triR td ws (stx b (hideS σ) (ev ck b (hideS σ) R))) (RM F A al) Q from p) e1
  have rc : codeAny (model X.prog X.w) X.A (.call (.ref g) ⟨[.ref f], []⟩) (CR C8.CX0 X.stack X.prog X.w H1 s' Q C8.E0) s' := by
    refine LamX.run_ofS (N := Ng) (ps := [a]) (us := [.ref f]) (vs := [.ref f]) lk hcg Sg hr I1.env0 (hb s' [.ref f] I1.kIn rfl) (.cons rfl .nil) rfl fun hr' => ?_
    refine hG X s' H1 f c' (lamQ X) Q (fun R => stx b (hideS σ) (ev ck b (hideS σ) R)) (A.O0 ++ owns al) ρ R (fun E H' Q' => tS F (fun c _ H' => ∀ C, F.ca c = some C → E (.ref C) none H') ck b σV H' Q') rfl rfl rfl rfl rfl (hr'.mono (by omega))
      (fun W pn xe p1 p2 tk => lam_act (i := 0) I1 L hf hfn hfr (hbind _ _ _ _ _) hr' (fun A outer s H E hr2 => hbody A outer s H E f c' hr2) hNg hva hda hca W pn xe p1 p2 tk) hco (List.nodup_append.mp r1.nd).1 (fun b hb => ?_) ⟨r1.rl, by rw [mask_oo]; exact r1.rf, r1.tb⟩ ?_ ?_
    · rcases List.mem_append.mp hb with h | h
      · exact ⟨(r1.o0 b h).2.1, r1.ltB h⟩
      · exact ⟨fun m => (List.nodup_append.mp r1.nd).2.2 b m b h rfl, r1.ltO h⟩
    · -- the lambda's word
      intro E' H2 ρ2 R2 O2 Q2 e2 hO o2 nd2 rf2 q
      have rl := r1.lamS e2 hO o2 nd2 rf2 hcre
      refine ⟨⟨O2, H2, ρ2⟩, ρ2, List.replicate σV.length none, hideS σ, R2, rl, ?_⟩
      have q : postI F (stx b (hideS σ) (ev ck b (hideS σ) R2)) O2 ρ2 H2 Q2 E' := q
      unfold postI at q
      cases z : stx b (hideS σ) (ev ck b (hideS σ) R2) with
      | bad => rw [z] at q; exact q.elim
      | ok d R3 =>
        rw [z] at q
        intro v H3 ρ3 r3 e3 q3
        obtain ⟨g1, g2, g3, g4⟩ := rel_end r3
        exact q v H3 ρ3 g1 g2 g3 (g4 q3)
      | exc c R3 =>
        rw [z] at q
        intro H3 ρ3 r3 e3 C hC
        obtain ⟨g1, g2, g3, g4⟩ := rel_end r3
        exact q H3 ρ3 C g1 g2 g3 hC
    · -- behind
      unfold postI
      have back : ∀ {H' : Hp} {ρ' : List Addr} {R' : RH}, Ext ρ H1 ρ' H' → ρ'.Nodup → Refs F ρ' R' (mask H' ((A.O0 ++ owns al) ++ ρ')) H' → Rel F A ρ' al σ R' σV H' := fun {H' ρ' R'} e nd rf => by
        rw [mask_oo] at rf
        exact r1.step e nd rf.1 rf.2.1 rf.2.2
      cases z : triR td ws (stx b (hideS σ) (ev ck b (hideS σ) R)) with
      | bad => rw [z] at p; exact p.elim
      | exc c R3 =>
        unfold triR at z
        split at z <;> first | (cases z; done) | (split at z <;> cases z)
      | ok d R3 =>
        rw [z] at p
        intro v H3 ρ3 e3 nd3 rf3 rd3
        rw [mask_oo] at rd3
        exact p v H3 ρ3 (back e3 nd3 rf3) e3 rd3
  refine wpAny_call (codeAny_mono rc fun r s2 hq => ?_)
  cases r with
  | error e => exact (show False from hq).elim
  | ok fl => cases fl <;> first | exact False.elim hq | exact I1.after hq
end
end Cw

end
section
/-! CwLo: the catcher's call of its lambda; isinstance of what is caught; try; defs held by names; small dicts; list.count. -/
namespace Cw
open PySem PySem.Spec L2 PyProof.Rows PySem.W
section
variable {F : Fx} {A : Act} {W : XW} {ck : Nat → List D → RH → Res D} {fu : Nat} {X : Cx} {e o a b : Expr} {x xa xo : Ex} {ρ ρ1 : List Addr} {al : List (Option Addr)} {σ : List Sl} {R R' : RH} {σV : L2.St} {H H1 H' : Hp} {Dn : Ends} {p pos apos cpos : Pos} {k i : Nat}
/-- the lambda's call as an own expression: F1 is the catcher's -/
theorem snd_lamc {O0 : List Addr} {f c' : Addr} {q : Str} {cal : RH → Res D} {t : XK → Hp → VK → Prop} (hck : ∀ ds R, ck 0 ds R = cal R) (hn : H c' = some (LamX.CodeO c' q)) (hρ : ∀ a ∈ ρ, ∃ vs, H a = some (.lst vs))
    (lp : LamP F cal O0 ρ H t) (h : PE X e (fun σZ HZ Q => σZ[0]? = some (some (.ref f)) ∧ HZ c' = some (LamX.CodeO c' q) ∧ t (WE (XW.wx { F with lm := some f, cre := some (O0, H, ρ) } W) σZ) HZ Q)) :
    PE X e (tS { F with lm := some f, cre := some (O0, H, ρ) } W ck .lamc) :=
  PE.by h fun σZ HZ Q ⟨A, ρ', al, σ, R', r, p⟩ => by
    have p : Post { F with lm := some f, cre := some (O0, H, ρ) } A al W σ σZ ρ' HZ (match gS σ 0 with | .lm => ck 0 [] R' | _ => .bad) (RM { F with lm := some f, cre := some (O0, H, ρ) } A al) Q := p
    obtain ⟨c1, c2⟩ := r.cr O0 H ρ rfl
    have ex : Ext ρ H ρ' HZ := c2.trans ⟨r.pre, r.newR, r.fr, r.frN⟩
    cases g : gS σ 0 <;> first | (rw [g] at p; exact p.elim) | skip
    rw [g] at p
    have h0 := slot_at g (by simp)
    have z := r.sl 0 (by rw [← r.ls]; exact h0)
    rw [g] at z
    obtain ⟨_, f', z1, z2⟩ := z
    cases z1
    refine ⟨getD_some z2, ex.keep c' _ hn (fun m => ?_) (LamX.codeO_ne), ?_⟩
    · obtain ⟨vs, hv⟩ := hρ c' m
      rw [hn] at hv
      unfold LamX.CodeO at hv
      cases hv
    · refine lp _ HZ ρ' R' (A.O0 ++ owns al) Q ex (fun b hb => ?_) (fun b hb => ?_) (List.nodup_append.mp r.nd).1 ⟨r.rl, fun j b ds e1 e2 => ?_, r.tb⟩ ?_
      · rcases List.mem_append.mp hb with m | m
        · exact c1 b m
        · exact .inr (Classical.byContradiction fun n => c2.there b n (r.newO b m))
      · rcases List.mem_append.mp hb with m | m
        · exact ⟨(r.o0 b m).2.1, r.ltB m⟩
        · exact ⟨fun n => (List.nodup_append.mp r.nd).2.2 b n b m rfl, r.ltO m⟩
      · obtain ⟨vs, h3, h4⟩ := r.rf j b ds e1 e2
        rw [mask_oo]
        exact ⟨vs, h3, RDs.toF (F := { F with lm := some f, cre := some (O0, H, ρ) }) (F' := F) rfl rfl h4⟩
      · rw [hck] at p
        have back : ∀ {H' : Hp} {ρ2 : List Addr} {R2 : RH}, Ext ρ' HZ ρ2 H' → ρ2.Nodup → Refs F ρ2 R2 (mask H' ((A.O0 ++ owns al) ++ ρ2)) H' → Rel { F with lm := some f, cre := some (O0, H, ρ) } A ρ2 al σ R2 σZ H' := fun {H' ρ2 R2} e nd rf => by
          rw [mask_oo] at rf
          have rf' := Refs.toF (F := F) (F' := { F with lm := some f, cre := some (O0, H, ρ) }) rfl rfl rfl rf
          exact r.step e nd rf'.1 rf'.2.1 rf'.2.2
        unfold postI
        cases z : cal R' with
        | bad => rw [z] at p; exact p.elim
        | ok d R3 =>
          rw [z] at p
          intro v H3 ρ3 e3 nd3 rf3 rd3
          rw [mask_oo] at rd3
          exact p v H3 ρ3 (back e3 nd3 rf3) e3 (RD.toF (F := F) (F' := { F with lm := some f, cre := some (O0, H, ρ) }) rfl rfl rd3)
        | exc c R3 =>
          rw [z] at p
          intro H3 ρ3 C e3 nd3 rf3 hC
          exact ⟨c, C, rfl, hC, rfl, p H3 ρ3 (back e3 nd3 rf3) e3⟩
/-- isinstance(the error, y) -/
theorem snd_ise {ad C : Addr} {c : Nat} {bs : List Bool} {y : Str} {cv : Value} {vc : V} (he : F.er = some (ad, c)) (hi : PE X a (tVar i)) (hcv : PE X b (L2.tC vc)) (rv : RelV vc cv) (huv : ∀ u, RelV vc u → u = cv) (hc : CallR X (.builtin "isinstance") (rIsE X.K C ad))
    (hk : ∀ w, bs[c]? = some w → kitOne X.K (.ref C) cv = some w) (hg : Gl X "isinstance") (hm : X.mg "isinstance" = none) (hs : isStar a = false) (hs2 : isStar b = false) : PE X (.Call (.Name "isinstance" p) [a, b] [] pos) (tS F W ck (.ise i y bs)) :=
  PE.by (pe_callB hc hg hm (by decide +kernel) (pa_cons hi (pa_cons hcv pa_nil (star_cons hs2)) (star_cons hs)) (by decide) (by decide) (star_cons hs) (by
    have e1 : starEach [b] X.env = [(false, eval b X.env)] := star_cons hs2
    rw [e1]
    rfl)) fun σV H Q ⟨A, ρ, al, σ, R, r, p⟩ => by
    have p : Post F A al W σ σV ρ H (match gS σ i with | .er c => Res.of (bs[c]?.map .bl) R | _ => .bad) (RM F A al) Q := p
    cases g : gS σ i <;> first | (rw [g] at p; exact p.elim) | skip
    rw [g] at p
    have h0 := slot_at g (by simp)
    have z := r.sl i (by rw [← r.ls]; exact h0)
    rw [g] at z
    obtain ⟨_, a', z1, z2⟩ := z
    rw [he] at z1
    cases z1
    obtain ⟨d, e', p⟩ := p.of
    cases w : bs[c]? with
    | none => rw [w] at e'; cases e'
    | some w' =>
      rw [w] at e'
      cases e'
      exact ⟨.ref ad, getD_some z2, vc, cv, w', rfl, huv, hk _ w, p.here r (RD.bl _)⟩
/-- what one statement in a try asks -/
def tkE (k : Tk) (D : Ends) (σV : L2.St) : VK := fun v H => match k with
  | .xpr => D.nx σV H
  | .ret => D.rt v H
  | .set i => D.nx (σV.set i (some v)) H
theorem Names.of {x : Str} {C : Addr} (hg : Gl X x) (hd : (x == ("__debug__" : Str)) = false) (hm : X.mg x = some (.ref C)) : Names X x (.ref C) := ⟨hg, hd, .inl hm⟩
/-- try: e .. except x as n: suite -/
theorem snd_tryx {st : Stmt} {b0 : Stmt} {suite : List Stmt} {xs : Sms} {tk : Tk} {y n : Str} {j : Nat} {np pos' : Pos} {cx : Value} (her : F.er = none) (hs : X.stack = X.env :: X.outer) (hf : X.env.frame = some X.env.locals) (hN : X.N.Nodup) (hj : X.N[j]? = some n) (hln : X.env.kindOf n = some .local) (hc : Names X y cx) (tkx : Takes X (XW.wx F W))
    (hset : ∀ i, tk = .set i → i < X.N.length)
    (hb : ∀ (W' : XW) (pn : List (Addr × Obj)) (xe : Value → Shared → Prop), Takes (X.tr pn xe) (XW.wx F W') → PS (X.tr pn xe) st (fun D σV H => tS F W' ck x σV H (tkE tk D σV)))
    (hsu : ∀ (a : Addr) (oe : Obj) (c : Nat) (C : Addr) (pn : List (Addr × Obj)), Zc (.ref C) none oe → (∃ vs, oe.data = .fields vs) → F.ca c = some C → PSs (X.suite a ((a, oe) :: pn)) (b0 :: suite) (tSts { F with er := some (a, c) } noXW ck fu xs))
    (hx : ∀ c C, F.ca c = some C → exmOne X.K (.ref C) cx = some true) :
    PS X (.Try [st] [.ExceptHandler (some (.Name y np)) (some n) (b0 :: suite) pos'] [] [] pos) (tSt F W ck fu (.tryx tk x j y xs)) := by
  refine ⟨fun pins s σV H Dn I ⟨A, ρ, al, σ, R, r, p⟩ => ?_⟩
  have lenN : σV.length = X.N.length := I.len
  refine (ps_try_as (ts := fun a cls d D σV H => ∃ c C, cls = .ref C ∧ d = none ∧ F.ca c = some C ∧ tSts { F with er := some (a, c) } noXW ck fu xs D σV H)
    (tb := fun W0 D σV H => tS F (fun c σ H => ∀ C, F.ca c = some C → W0 (.ref C) none σ H) ck x σV H (tkE tk D σV)) (i := j) hs hf hN hj hln hc tkx
    (fun W0 pn xe tk0 _ => ?_) (fun a oe cls d pn hz hd => ?_)).run pins s σV H Dn I ?_
  · have q := pss_one (hb (fun c σ H => ∀ C, F.ca c = some C → W0 (.ref C) none σ H) pn xe (Takes.imp tk0 fun cls dd σ H' ⟨c, C, e1, e2, e3, w⟩ => by subst e1; subst e3; exact w C e2))
    exact ⟨fun pins s σ H D I h => q.run pins s σ H D I h⟩
  · refine ⟨fun pins s σV H D I ⟨c, C, e1, e2, e3, h⟩ => ?_⟩
    subst e1
    subst e2
    exact (hsu a oe c C pn hz hd e3).run pins s σV H D I h
  · refine ⟨A, ρ, al, σ, R, r, ?_⟩
    have p : PostS F A W (match stx x σ (ev ck x σ R) with
      | .ok v R' => tkR tk v σ R'
      | .exc c R' => match gS σ j with
        | .no => endX j (execs ck fu xs (sS σ j (.er c)) R')
        | _ => .bad
      | .bad => .bad) Dn := p
    have jl : j < σV.length := by rw [lenN]; exact (List.getElem?_eq_some_iff.mp hj).1
    cases q : stx x σ (ev ck x σ R) with
    | bad => rw [q] at p; exact p.elim
    | ok d R' =>
      rw [q] at p
      intro v H' ρ' r' e' q'
      cases tk with
      | xpr => exact p ρ' al σV H' r'
      | ret => exact p v ρ' al σ σV H' r' q'
      | set i => exact p ρ' _ _ H' (r'.setSh (by rw [lenN]; exact hset i rfl) q')
    | exc c R' =>
      rw [q] at p
      cases g : gS σ j <;> first | (simp only [g] at p; exact p.elim) | skip
      simp only [g] at p
      intro H' ρ' r' e' C hC
      refine ⟨true, hx c C hC, fun _ ad nad => ⟨c, C, rfl, rfl, hC, A, ρ', al, sS σ j (.er c), R', r'.toEr her g jl, ?_⟩, fun z => by cases z⟩
      cases q2 : execs ck fu xs (sS σ j (.er c)) R' with
      | bad => rw [q2] at p; exact p.elim
      | exc c2 R2 => rw [q2] at p; exact p.elim
      | ok z R2 =>
        obtain ⟨f, σ2⟩ := z
        rw [q2] at p
        have kill : ∀ {ρ2 : List Addr} {al2 : List (Option Addr)} {σV2 : L2.St} {H2 : Hp} {c0 : Nat}, gS σ2 j = .er c0 → Rel { F with er := some (ad, c) } A ρ2 al2 σ2 R2 σV2 H2 → Rel F A ρ2 al2 (unEr σ2) R2 (σV2.set j none) H2 := fun {ρ2 al2 σV2 H2 c0} g2 r2 => by
          have r3 := r2.ofEr
          have g3 : gS (unEr σ2) j = .no := by rw [unEr_get, g2]
          have r4 := r3.kill1 (i := j) (r3.notOw (by rw [g3]; rfl))
          rw [sS_self _ _ g3] at r4
          exact r4
        cases f with
        | rt d =>
          intro v ρ2 al2 σ3 σV2 H2 r2 q3
          exact p v ρ2 al2 _ σV2 H2 r2.ofEr (RD.toF (F := { F with er := some (ad, c) }) (F' := F) rfl rfl q3)
        | nx =>
          simp only [endX] at p
          split at p
          · rename_i g2; exact fun ρ2 al2 σV2 H2 r2 => p ρ2 al2 _ H2 (kill g2 r2)
          · exact p.elim
        | bk =>
          simp only [endX] at p
          split at p
          · rename_i g2; exact fun ρ2 al2 σV2 H2 r2 => p ρ2 al2 _ H2 (kill g2 r2)
          · exact p.elim
        | ct =>
          simp only [endX] at p
          split at p
          · rename_i g2; exact fun ρ2 al2 σV2 H2 r2 => p ρ2 al2 _ H2 (kill g2 r2)
          · exact p.elim
end
section
variable {F : Fx} {W : XW} {ck : Nat → List D → RH → Res D} {X : Cx} {e o a : Expr} {es : List Expr} {x xa xo : Ex} {xs : Exs} {p pos apos cpos : Pos} {k i : Nat}
/-- a def held by a name -/
theorem snd_callv {fs : List Nat} {y : Str} (G : ∀ f ∈ fs, ∃ z a, FnAt F ck X k z f (lenX xs) ∧ X.mg z = some (.ref a) ∧ F.fa f = some a) (hr : Room k X.A) (hv : PE X (.Name y p) (tVar i)) (tk : Takes X (XW.wx F W)) (hs : noStar (e :: es) = true) (ha : PA X (e :: es) (tAs F W ck xs)) :
    PE X (.Call (.Name y p) (e :: es) [] pos) (tS F W ck (.callv i fs xs)) := by
  refine ⟨fun pins s σV H Q I ⟨A, ρ, al, σ, R, r, pp⟩ => ?_⟩
  have pp : Post F A al W σ σV ρ H (match gS σ i with
    | .sh (.fn f) => if f ∈ fs then (evs ck xs σ R).bind fun ds R => ck f ds R else .bad
    | _ => .bad) (RM F A al) Q := pp
  cases hg : gS σ i <;> first | (rw [hg] at pp; exact pp.elim) | skip
  rename_i d
  cases d <;> first | (rw [hg] at pp; exact pp.elim) | skip
  rename_i f
  rw [hg] at pp
  by_cases hm : f ∈ fs
  · simp only [hm, if_true] at pp
    obtain ⟨v, h1, h2⟩ := r.sh hg
    obtain ⟨z, a0, Gf, m1, m2⟩ := G f hm
    obtain ⟨fa, fd, ps, n1, n2, n3, n4⟩ := Gf.at_
    rw [m1] at n1
    cases n1
    have hva : v = .ref a0 := by
      cases h2 with
      | fn h => rw [m2] at h; cases h; rfl
    subst hva
    refine wpAny_Call_Name_kw (thn (hv.run pins s σV H (fun v H1 => v = .ref a0 ∧ H1 = H) I ⟨.ref a0, h1, rfl, rfl⟩) fun u s1 ⟨v, H1, I1, r1, q1⟩ => ?_)
    obtain ⟨rfl, rfl⟩ := q1
    obtain rfl : u = Value.ref a0 := r1
    refine callWith_K (h₀ := X.base) I.ok.mod.kin n3 (thn (ha.run pos pins s1 σV H1 (fun vs H2 => spI F (ck f) (lenX xs) vs H2 Q (WE (XW.wx F W) σV)) I1 ⟨A, ρ, al, σ, R, r, ?_⟩) fun us s2 ⟨vs, H2, I2, r2, q⟩ => ⟨I2.kIn, run_fnS (E := WE (XW.wx F W)) n2 hr n4 (passAt tk σV) I2 r2 q⟩) (star_of hs) (plain_of (noStar_tail hs))
    cases q : evs ck xs σ R with
    | ok ds R1 =>
      rw [q] at pp
      exact fun vs H2 ρ1 r1 e1 q1 => call_fin r1 q1 (evs_len q) (Post.ext (show Post F A al W σ σV ρ H1 (ck f ds R1) (RM F A al) Q from pp) e1)
    | exc c R1 => rw [q] at pp; exact pp
    | bad => rw [q] at pp; exact pp
  · simp only [hm, if_false] at pp
    exact pp.elim
/-- {} -/
theorem snd_dic0 : PE X (.Dict [] [] pos) (tS F W ck .dic0) :=
  PE.by pe_dnewK fun σV H Q ⟨A, ρ, al, σ, R, r, p⟩ => fun d hd => Post.new (show Post F A al W σ σV ρ H (.ok (.dK []) R) (RM F A al) Q from p) r hd (RD.dK (r.newMask hd) .nil)
/-- {k: e} -/
theorem snd_dic1 {n : Int} {t0 : Nat} {kp : Pos} (h : PE X e (tS F W ck x)) : PE X (.Dict [some (.Constant (.int n) t0 kp)] [e] pos) (tS F W ck (.dic1 n x)) :=
  PE.by (pe_disp (pps_cons pe_int h pps_nil) rfl rfl (by simp) (by simp)) fun σV H Q ⟨A, ρ, al, σ, R, r, p⟩ => fun d hd => by
    have p : Post F A al W σ σV ρ H ((stx x σ (ev ck x σ R)).bind fun x R => .ok (.dK [(.inl n, x)]) R) (RM F A al) Q := p
    have r1 := r.addO (o := .dK []) hd
    have dn := (r1.o0 d List.mem_cons_self).2.1
    refine ⟨A.add d, ρ, al, σ, R, r1, ?_⟩
    cases q : stx x σ (ev ck x σ R) with
    | bad => rw [q] at p; exact p.elim
    | exc c R1 =>
      rw [q] at p
      exact fun H2 ρ2 r2 e2 => p H2 ρ2 r2.dropO ((ext_grow (upd_keep hd)).trans e2)
    | ok dv R1 =>
      rw [q] at p
      intro v H2 ρ2 r2 e2 q2
      have h2 := e2.keep d _ upd_same dn (fun _ z => by cases z)
      refine ⟨h2, [(.inl n, v)], rfl, by simp, ?_⟩
      have r3 := (r2.updO (o := .dK (mergeK [] [(.inl n, v)])) List.mem_cons_self (r.he hd) (fun u z => by rw [h2] at z; cases z; exact ⟨fun _ z => (by cases z), fun _ _ z => (by unfold LamX.CodeO at z; cases z)⟩)).dropO
      have nO : d ∉ OO A ρ2 al := r2.notIn (r.notO0 hd)
      have k : ∀ a u, mask H2 (OO (A.add d) ρ2 al) a = some u → mask (upd H2 d (.dK (mergeK [] [(.inl n, v)]))) (OO A ρ2 al) a = some u := fun a u h => by
        obtain ⟨h1, h3⟩ := mask_some h
        have ne : a ≠ d := fun z => h3 (mem_add.mpr (.inl z))
        exact mask_mk (fun m => h3 (mem_add.mpr (.inr m))) (by rw [upd_ne ne]; exact h1) (mask_nt h)
      exact p (.ref d) _ ρ2 r3 (((ext_grow (upd_keep hd)).trans e2).updN hd) (RD.dK (mask_mk nO upd_same (fun _ z => by cases z)) (.cons (RD.mono ⟨[], by simp⟩ k q2) .nil))
/-- l.count(y) -/
def rCountD (K : PySem.W.Frag) : V → List V → Hp → VK → Prop := fun x xs H Q => ∃ (a : Addr) (y : V) (d : PyData) (ds : List PyData), x = V.ref a ∧ xs = [y] ∧ Dp K H (V.ref a) (.list ds) ∧ Dp K H y d ∧ SeqAt.shaped (.list ds) = true ∧ SeqAt.shaped d = true ∧ Q (.int ((ds.countP fun z => PyData.eqv z d : Nat) : Int)) H
theorem mt_countD (hu : X.A.units + 65 < cLine) : MtR X "list.count" (rCountD X.K) := by
  intro pins s σ H x xs v us Q I rx rxs ⟨a, y, d, ds, e1, e2, hl, hy, sl, sd, q⟩
  subst e1
  subst e2
  cases rx
  obtain ⟨uy, rfl, ry⟩ := rxs.one
  obtain ⟨bs, r1⟩ := Dp.reads I d y uy hy ry
  have hxs : PyData.canLayAll0 ds = true := SeqAt.canLay_of_shaped sl
  cases hl with
  | lst hs ha =>
    obtain ⟨its, rv, ⟨⟨cls, dd, data, sls⟩, n, ho, hc, hdn, hdt⟩, hlen⟩ := I.list hs
    simp only at hc hdt
    subst hc hdt
    obtain ⟨as, h4⟩ := Dp.readsAll I ds _ its ha rv
    have hmap : its.map (SeqAt.readOf s.heap) = ds := SeqAt.readsAll_map ds its as hxs h4
    refine call_meets PySem.F.slot_list_count ⟨_, ho, rfl⟩ PySem.F.entry_list_count (PySem.F.args_list_count_2 _ _) (SeqAt.list_countAt a its.toArray n dd sls uy fun u => PyData.eqv (SeqAt.readOf s.heap u) d)
      ⟨ho, SeqAt.items_eqAt (vs := its.toArray) (show ReadsAll s.heap its.toArray.toList ds as from h4) r1 hxs (SeqAt.canLay_of_shaped sd) (room_in_shaped sd hu), ?_⟩
    refine ⟨.int _, H, I.tok _, ⟨s.toks, ?_⟩, q⟩
    have ec : its.toArray.toList.countP (fun u => PyData.eqv (SeqAt.readOf s.heap u) d) = ds.countP fun z => PyData.eqv z d := by
      rw [← hmap, List.countP_map]
      rfl
    rw [ec]
theorem count_toPys {d : D} (hd : plain d = true) : ∀ l : List D, plains l = true → (toPys l).countP (fun z => PyData.eqv z (toPy d)) = l.countP fun z => deq z d
  | [], _ => rfl
  | x :: l, h => by
    simp only [plains, Bool.and_eq_true] at h
    simp only [toPys, List.countP_cons]
    rw [count_toPys hd l h.2, deq_of x d h.1 hd]
theorem snd_count (hK : F.K = X.K) (hu : X.A.units + 70 < cLine) (hs : isStar a = false) (hbase : attributeBase o "count" X.env (eval o X.env) = eval o X.env) (hline : (apos.endLine == cpos.line) = true) (ho : PE X o (tB F W ck xo)) (ha : PE X a (tB F W ck xa)) :
    PE X (.Call (.Attribute o "count" apos) [a] [] cpos) (tS F W ck (.meth .count xo (.cons xa .nil))) :=
  PE.by (pe_bm PySem.F.plainAttrs_list PySem.F.slot_list_count PySem.F.type_list_count (mt_countD (by omega)) ho (pa_cons ha pa_nil (star_cons hs)) hbase (few_one hs) hline (star_cons hs) rfl) fun σV H Q ⟨A, ρ, al, σ, R, r, p⟩ => ⟨A, ρ, al, σ, R, r, by
    have p : Post F A al W σ σV ρ H ((ev ck xo σ R).bind fun x R => if mthOn .count x = true then ((ev ck xa σ R).bind fun y R => (Res.ok [] R).bind fun xs R => .ok (y :: xs) R).bind fun ds R => .of (methD .count x ds) R else .bad) (RM F A al) Q := p
    cases q : ev ck xo σ R with
    | exc c R1 => rw [q] at p; exact p
    | bad => rw [q] at p; exact p
    | ok x R1 =>
      rw [q] at p
      simp only [Res.bind] at p
      refine Post.okI fun v H1 ρ1 r1 e1 q1 => ?_
      cases x <;> first | exact p.elim | skip
      rename_i l
      have p : Post F A al W σ σV ρ H ((ev ck xa σ R1).bind fun y R => .of (methD .count (.lst l) [y]) R) (RM F A al) Q := by
        cases q2 : ev ck xa σ R1 <;> (rw [q2] at p; exact p)
      obtain ⟨a0, vs, rfl, h1, h2⟩ := q1.lst
      refine ⟨ty_lst h1, A, ρ1, al, σ, R1, r1, Post.bind (p.ext e1) fun y R2 w H2 ρ2 r2 e2 q2 p2 => ?_⟩
      obtain ⟨d', e3, p3⟩ := p2.of
      simp only [methD] at e3
      split at e3
      · rename_i hf
        obtain ⟨f1, f2⟩ := Bool.and_eq_true_iff.mp hf
        cases e3
        have pl : plains l = true := by have := flt_plain f1; simpa [plain] using this
        refine ⟨a0, w, toPy y, toPys l, rfl, rfl, ?_, ?_, shaped_of f1, shaped_of f2, ?_⟩
        · rw [← hK]; exact (RT.ext q1 e2).dp (flt_plain f1)
        · rw [← hK]; exact q2.dp (flt_plain f2)
        · rw [count_toPys (flt_plain f2) l pl]
          exact p3.here r2 (RD.int _)
      · cases e3⟩
end
end Cw

end
section
/-! CwV: own syntax is the text's: expressions. -/
namespace Cw
open PySem L2 PyProof.Rows PySem.W
/-- what the module holds: its defs with their numbers of parameters, its exception classes, its constants, the built-in names that it leaves free -/
structure Gm where
  fns : List (Str × Nat)
  cls : List Str
  con : List (Str × D)
  free : List Str
  /-- its catchers; what isinstance says of its errors, class by class; the class that catchers catch -/
  cats : List (Str × Td × List D)
  sub : List (Str × List Bool)
  cx : Str
/-- calm: not in an except suite; lam: lambdas may be made; cat: in a catcher -/
structure Cs where
  G : Gm
  N : List Str
  sc : Scope
  fn : Str → Bool
  calm : Bool
  lam : Bool
  cat : Bool
def Cs.gl (C : Cs) (x : Str) : Bool := decide (C.sc.names.lookup x = some .globalImplicit)
def Cs.fre (C : Cs) (x : Str) : Bool := C.gl x && decide (x ∈ C.G.free)
def isVisK : Option NameKind → Bool
  | some .local => true
  | some .cell => true
  | some .free => true
  | _ => false
def Cs.vis (C : Cs) (i : Nat) (x : Str) : Bool := decide (C.N[i]? = some x) && (isVisK (C.sc.names.lookup x) && (!(x == ("__debug__" : Str)) && !(x == ("__classdict__" : Str))))
def isLocK (b : Bool) : Option NameKind → Bool
  | some .local => true
  | some .cell => b
  | _ => false
def Cs.loc (C : Cs) (i : Nat) (x : Str) : Bool := decide (C.N[i]? = some x) && isLocK (C.fn x) (C.sc.names.lookup x)
/-- a lambda's body -/
def Cs.lamB (C : Cs) (scope : Scope) : Cs := { C with sc := scope, fn := fun _ => false, calm := true, lam := false, cat := false }
/-- an except suite -/
def Cs.suite (C : Cs) : Cs := { C with calm := false, lam := false, cat := false }
def noPar (pa : Arguments) : Bool := pa.posonlyargs.isEmpty && (pa.args.isEmpty && (pa.vararg.isNone && (pa.kwonlyargs.isEmpty && (pa.kw_defaults.isEmpty && (pa.kwarg.isNone && pa.defaults.isEmpty)))))
def tdE : Td → Td → (D → D → Bool) → Bool
  | .con a, .con b, f => f a b
  | .val, .val, _ => true
  | .pair a, .pair b, f => f a b
  | _, _, _ => false
/-- a comprehension's block -/
def Cs.blk (C : Cs) (scope : Scope) : Cs := { C with sc := relS scope C.sc, fn := fun x => scope.names.lookup x == some .cell, cat := false }
mutual
def eqc : D → D → Bool
  | .non, .non => true
  | .bl a, .bl b => a == b
  | .int a, .int b => decide (a = b)
  | .str a, .str b => decide (a = b)
  | .tup a, .tup b => eqcs a b
  | .frz a, .frz b => eqcs a b
  | _, _ => false
def eqcs : List D → List D → Bool
  | [], [] => true
  | a :: l, b :: m => eqc a b && eqcs l m
  | _, _ => false
end
mutual
theorem eqc_eq : ∀ {a b : D}, eqc a b = true → a = b
  | .non, b, h => by cases b <;> first | rfl | (simp [eqc] at h; done)
  | .bl x, b, h => by
    cases b <;> first | (simp [eqc] at h; done) | skip
    simp only [eqc, beq_iff_eq] at h
    rw [h]
  | .int x, b, h => by
    cases b <;> first | (simp [eqc] at h; done) | skip
    simp only [eqc, decide_eq_true_eq] at h
    rw [h]
  | .str x, b, h => by
    cases b <;> first | (simp [eqc] at h; done) | skip
    simp only [eqc, decide_eq_true_eq] at h
    rw [h]
  | .tup x, b, h => by
    cases b <;> first | (simp [eqc] at h; done) | skip
    rw [eqcs_eq (show eqcs x _ = true from h)]
  | .frz x, b, h => by
    cases b <;> first | (simp [eqc] at h; done) | skip
    rw [eqcs_eq (show eqcs x _ = true from h)]
  | .lst x, b, h => by cases b <;> (simp [eqc] at h; done)
  | .dK x, b, h => by cases b <;> (simp [eqc] at h; done)
  | .dT x, b, h => by cases b <;> (simp [eqc] at h; done)
  | .ref x, b, h => by cases b <;> (simp [eqc] at h; done)
  | .fn x, b, h => by cases b <;> (simp [eqc] at h; done)
theorem eqcs_eq : ∀ {a b : List D}, eqcs a b = true → a = b
  | [], [], _ => rfl
  | [], _ :: _, h => by simp [eqcs] at h
  | _ :: _, [], h => by simp [eqcs] at h
  | a :: l, b :: m, h => by
    simp only [eqcs, Bool.and_eq_true] at h
    rw [eqc_eq h.1, eqcs_eq h.2]
end
/-- a constant, a def's name -/
def chCon (C : Cs) (d : D) (e : Expr) : Bool := match e with
  | .Constant .none _ _ => eqc d .non
  | .Constant (.bool b) _ _ => eqc d (.bl b)
  | .Constant (.int i) _ _ => eqc d (.int i)
  | .Constant (.str z) _ _ => eqc d (.str z)
  | .Name x _ => C.gl x && (!(x == ("__debug__" : Str)) && (match d with
    | .fn i => (match C.G.fns[i]? with
      | some (y, _) => decide (y = x)
      | none => false)
    | _ => C.G.con.any fun p => decide (p.1 = x) && eqc p.2 d))
  | _ => false
def isT (e : Expr) : Bool := match e with
  | .Name .. | .Call .. | .Constant .. | .Subscript .. | .Compare .. | .BoolOp .. | .UnaryOp .Not _ _ => true
  | _ => false
def isTs (es : List Expr) : Bool := es.all isT
def notSetE (e : Expr) : Bool := match e with
  | .Set .. => false
  | _ => true
def kdsOf (C : Cs) : List Kd → List Expr → Bool
  | [], [] => true
  | k :: ks, .Name n _ :: es => decide (n = kdN k) && (C.fre (kdN k) && kdsOf C ks es)
  | _, _ => false
def mthN : Mth → Str
  | .index => "index"
  | .count => "count"
  | .get => "get"
def isIx : Mth → Bool
  | .index => true
  | .count => true
  | _ => false
def notCallE (e : Expr) : Bool := match e with
  | .Call (.Name _ _) [] [] _ => false
  | _ => true
def bltE (f : Blt) (C : Cs) (e : Expr) (r : List Expr → Bool) : Bool := match e with
  | .Call (.Name n _) es [] _ => decide (n = bltN f) && (C.fre (bltN f) && (!es.isEmpty && (noStar es && r es)))
  | _ => false
def tgOwn (C : Cs) (t : Tg) : List (Str × Nat) := (tgs t).map fun i => (C.N.getD i Str.empty, i)
mutual
def chT : Tg → Cs → Expr → Bool
  | .nm i, C, e => (match e with
    | .Name x _ => C.loc i x
    | _ => false)
  | .tp ts, C, e => (match e with
    | .Tuple es _ _ => C.calm && (noStar es && chTs ts C es)
    | _ => false)
def chTs : Tgs → Cs → List Expr → Bool
  | .nil, _, es => es.isEmpty
  | .cons t ts, C, es => (match es with
    | e :: es => chT t C e && chTs ts C es
    | [] => false)
end
mutual
def chE : Ex → Cs → Expr → Bool
  | .var i, C, e => (match e with
    | .Name x _ => C.vis i x
    | _ => false)
  | .con d, C, e => chCon C d e
  | .tup xs, C, e => (match e with
    | .Tuple es _ _ => decide (lenX xs ≤ 1000) && chEs xs C es
    | _ => false)
  | .lst xs, C, e => (match e with
    | .List es _ => decide (lenX xs ≤ 1000) && chEs xs C es
    | _ => false)
  | .bin o a b, C, e => (match e with
    | .BinOp ea op eb _ => decide (op = opB o) && (chE a C ea && chE b C eb)
    | _ => false)
  | .neg a, C, e => (match e with
    | .UnaryOp .USub ea _ => chE a C ea
    | _ => false)
  | .cmp o a b, C, e => (match e with
    | .Compare ea [op] [eb] _ => decide (op = opC o) && (notSet eb && (chE a C ea && chE b C eb))
    | _ => false)
  | .ch2 o p a b c, C, e => (match e with
    | .Compare ea [op, op2] [eb, ec] _ => decide (op = opC o) && (decide (op2 = opC p) && (notSet ec && (chE a C ea && (chE b C eb && chE c C ec))))
    | _ => false)
  | .and a xs, C, e => (match e with
    | .BoolOp .And (ea :: eb :: es) _ => isT ea && (isTs (eb :: es) && (chE a C ea && chEs xs C (eb :: es)))
    | _ => false)
  | .or a xs, C, e => (match e with
    | .BoolOp .Or (ea :: eb :: es) _ => isT ea && (isTs (eb :: es) && (chE a C ea && chEs xs C (eb :: es)))
    | _ => false)
  | .not a, C, e => (match e with
    | .UnaryOp .Not ea _ => isT ea && chE a C ea
    | _ => false)
  | .ite c a b, C, e => (match e with
    | .IfExp ec ea eb _ => isT ec && (chE c C ec && (chE a C ea && chE b C eb))
    | _ => false)
  | .call f xs, C, e => (match e with
    | .Call (.Name x _) es [] _ => C.calm && (C.gl x && (!(x == ("__debug__" : Str)) && (decide (C.G.fns[f]? = some (x, lenX xs)) && (noStar es && chEs xs C es))))
    | _ => false)
  | .blt .lrange (.cons a .nil), C, e => (match e with
    | .Call (.Name n _) [.Call (.Name m _) [ea] [] _] [] _ => C.calm && (decide (n = "list") && (decide (m = "range") && (C.fre "list" && (C.fre "range" && (noStar [ea] && chE a C ea)))))
    | _ => false)
  | .blt .lrange (.cons a (.cons b .nil)), C, e => (match e with
    | .Call (.Name n _) [.Call (.Name m _) [ea, eb] [] _] [] _ => C.calm && (decide (n = "list") && (decide (m = "range") && (C.fre "list" && (C.fre "range" && (noStar [ea, eb] && (chE a C ea && chE b C eb))))))
    | _ => false)
  | .blt .lrange _, _, _ => false
  | .blt f xs, C, e => C.calm && bltE f C e fun es => chEs xs C es
  | .isi ks a, C, e => (match e with
    | .Call (.Name n _) [ea, .Name m _] [] _ => decide (n = "isinstance") && (C.fre "isinstance" && (!isStar ea && (kdsOf C ks [.Name m ⟨0, 0, 0, 0⟩] && chE a C ea)))
    | .Call (.Name n _) [ea, .Tuple es _ _] [] _ => decide (n = "isinstance") && (C.fre "isinstance" && (!isStar ea && (decide (ks.length ≤ 10) && (!ks.isEmpty && (kdsOf C ks es && chE a C ea)))))
    | _ => false)
  | .meth m o (.cons a .nil), C, e => (match e with
    | .Call (.Attribute eo n apos) [ea] [] cpos => decide (n = mthN m) && (isIx m && ((apos.endLine == cpos.line) && (notCallE eo && (!isStar ea && (chE o C eo && chE a C ea)))))
    | _ => false)
  | .meth _ _ _, _, _ => false
  | .lamc, C, e => (match e with
    | .Call (.Name x _) [] [] _ => C.cat && C.vis 0 x
    | _ => false)
  | .tri f td ws b, C, e => (match e with
    | .Call (.Name x _) [.Lambda pa body sc _] [] _ => C.lam && (C.gl x && (!(x == ("__debug__" : Str)) && ((match C.G.cats[f]? with
      | some (y, td', ws') => decide (y = x) && (tdE td' td eqc && eqcs ws' ws)
      | none => false) && (noPar pa && (LamX.lamSB C.sc sc && chE b (C.lamB sc) body)))))
    | _ => false)
  | .ise i x bs, C, e => (match e with
    | .Call (.Name n _) [.Name y _, .Name z _] [] _ => !C.calm && (decide (n = "isinstance") && (C.fre "isinstance" && (C.vis i y && (decide (z = x) && (C.gl z && (!(z == ("__debug__" : Str)) && decide ((x, bs) ∈ C.G.sub)))))))
    | _ => false)
  | .callv i fs xs, C, e => (match e with
    | .Call (.Name x _) (e0 :: es) [] _ => C.calm && (C.vis i x && ((fs.all fun f => match C.G.fns[f]? with
      | some (_, n) => decide (n = lenX xs)
      | none => false) && (noStar (e0 :: es) && chEs xs C (e0 :: es))))
    | _ => false)
  | .nev, _, e => notSetE e
  | .callb f xs, C, e => (match e with
    | .Call (.Name x _) (e0 :: es) [] _ => C.calm && (C.gl x && (!(x == ("__debug__" : Str)) && (decide (C.G.fns[f]? = some (x, lenX xs)) && (noStar (e0 :: es) && chEs xs C (e0 :: es)))))
    | _ => false)
  | .dic0, _, e => (match e with
    | .Dict [] [] _ => true
    | _ => false)
  | .dic1 n x, C, e => (match e with
    | .Dict [some (.Constant (.int m) _ _)] [ev] _ => decide (m = n) && chE x C ev
    | _ => false)
  | .idx a i, C, e => (match e with
    | .Subscript ea ei _ => plainI ei && (chE a C ea && chE i C ei)
    | _ => false)
  | .slc a lo hi, C, e => (match e with
    | .Subscript ea (.Slice el eh none _) _ => chE a C ea && (chO lo C el && chO hi C eh)
    | _ => false)
  | .rev a, C, e => (match e with
    | .Subscript ea (.Slice none none (some (.UnaryOp .USub (.Constant (.int k) _ _) _)) _) _ => decide (k = 1) && chE a C ea
    | _ => false)
  | .lc x t it cd, C, e => (match e with
    | .ListComp ex [⟨et, ei, ifs, isA⟩] scope _ => C.calm && (decide (isA = 0) && (notSetE ei && (blkC C.N C.sc scope (tgOwn C t) && (chI it C et ei && (chT t (C.blk scope) et && (chC cd (C.blk scope) ifs && chE x (C.blk scope) ex))))))
    | _ => false)
def chEs : Exs → Cs → List Expr → Bool
  | .nil, _, es => es.isEmpty
  | .cons x xs, C, es => (match es with
    | e :: es => !isStar e && (chE x C e && chEs xs C es)
    | [] => false)
def chO : Exo → Cs → Option Expr → Bool
  | .no, _, e => e.isNone
  | .so x, C, e => (match e with
    | some e => chE x C e
    | none => false)
def chC : Exo → Cs → List Expr → Bool
  | .no, _, es => es.isEmpty
  | .so x, C, es => (match es with
    | [e] => isT e && chE x C e
    | _ => false)
def chI : Itr → Cs → Expr → Expr → Bool
  | .ex x, C, _, e => chE x C e
  | .rng a, C, _, e => (match e with
    | .Call (.Name n _) [ea] [] _ => decide (n = "range") && (C.fre "range" && (!isStar ea && chE a C ea))
    | _ => false)
  | .rng2 a b, C, _, e => (match e with
    | .Call (.Name n _) [ea, eb] [] _ => decide (n = "range") && (C.fre "range" && (noStar [ea, eb] && (chE a C ea && chE b C eb)))
    | _ => false)
  | .rng3 a b c, C, _, e => (match e with
    | .Call (.Name n _) [ea, eb, ec] [] _ => decide (n = "range") && (C.fre "range" && (noStar [ea, eb, ec] && (chE a C ea && (chE b C eb && chE c C ec))))
    | _ => false)
  | .enu a, C, t, e => (match t, e with
    | .Tuple _ _ _, .Call (.Name n _) [ea] [] _ => decide (n = "enumerate") && (C.fre "enumerate" && (!isStar ea && chE a C ea))
    | _, _ => false)
  | .zip a b, C, t, e => (match t, e with
    | .Tuple _ _ _, .Call (.Name n _) [ea, eb] [] _ => decide (n = "zip") && (C.fre "zip" && (noStar [ea, eb] && (chE a C ea && chE b C eb)))
    | _, _ => false)
end
end Cw

end
section
/-! CwW: own syntax keeps its word: expressions. -/
namespace Cw
open PySem PySem.Spec L2 PyProof.Rows PySem.W
/-- a place where code of the text runs -/
structure Ok (F : Fx) (ck : Nat → List D → RH → Res D) (k : Nat) (W : XW) (C : Cs) (X : Cx) : Prop where
  K : F.K = X.K
  calm : C.calm = true → X.calm = true
  N : X.N = C.N
  nd : C.N.Nodup
  sc : X.env.scope = C.sc
  fn : X.fn = C.fn
  hu : X.A.units + 70 < cLine
  room : C.calm = true → Room k X.A
  tk : Takes X (XW.wx F W)
  fns : C.calm = true → ∀ (i : Nat) (x : Str) (np : Nat), C.G.fns[i]? = some (x, np) → FnAt F ck X k x i np
  fnv : ∀ (i : Nat) (x : Str) (np : Nat), C.G.fns[i]? = some (x, np) → ∃ a, X.mg x = some (.ref a) ∧ F.fa i = some a
  con : ∀ (x : Str) (d : D), (x, d) ∈ C.G.con → ∃ v u, X.mg x = some u ∧ RelV v u ∧ ConOk F v d
  free : ∀ x ∈ C.G.free, X.mg x = none
  lam : C.lam = true → LamAt F X ∧ Room (k + 2) X.A ∧ F.cre = none ∧ C.calm = true
  cats : C.lam = true → ∀ (i : Nat) (x : Str) (td : Td) (ws : List D), C.G.cats[i]? = some (x, td, ws) → CatAt F X x td ws
  act : C.cat = true → ∀ (W' : XW) (pn : List (Addr × Obj)) (xe : Value → Shared → Prop) (a : Str) (p1 p2 : Pos), Takes (X.tr pn xe) (XW.wx F W') → C.vis 0 a = true → PE (X.tr pn xe) (.Call (.Name a p1) [] [] p2) (tS F W' ck .lamc)
  err : C.calm = false → ∃ (ad : Addr) (c : Nat) (Cc : Addr), F.er = some (ad, c) ∧ F.ca c = some Cc ∧ CallR X (.builtin "isinstance") (rIsE X.K Cc ad)
  sub : ∀ (x : Str) (bs : List Bool), (x, bs) ∈ C.G.sub → ∃ cv, ((∃ D, X.mg x = some (.ref D) ∧ cv = .ref D) ∨ (X.mg x = none ∧ ∃ t, bootBuiltins x = some (.type t) ∧ x ≠ "__name__" ∧ cv = .type t)) ∧ ∀ (c : Nat) (Cc : Addr) (w : Bool), F.ca c = some Cc → bs[c]? = some w → kitOne X.K (.ref Cc) cv = some w
theorem pe_glob {X : Cx} {x : Str} {p : Pos} {v : V} {u : Value} (hg : Gl X x) (hm : X.mg x = some u) (r : RelV v u) (hd : (x == ("__debug__" : Str)) = false) : PE X (.Name x p) (L2.tC v) :=
  ⟨fun pins s σ H Q I q => ld_glob I hg hm ⟨v, H, I, r, q⟩ hd⟩
structure S3 (F : Fx) (ck : Nat → List D → RH → Res D) (W : XW) (X : Cx) (x : Ex) (e : Expr) : Prop where
  s : PE X e (tS F W ck x)
  b : PE X e (tB F W ck x)
  t : isT e = true → PT X e (tQ (tS F W ck x))
structure SL (F : Fx) (ck : Nat → List D → RH → Res D) (W : XW) (X : Cx) (xs : Exs) (es : List Expr) : Prop where
  as : PA X es (tAs F W ck xs)
  ab : PA X es (tAb F W ck xs)
  and : ∀ pos, isTs es = true → es ≠ [] → PE X (.BoolOp .And es pos) (tEA F W ck xs) ∧ PW X (.BoolOp .And es pos) (tQ (tEA F W ck xs))
  or : ∀ pos, isTs es = true → es ≠ [] → PE X (.BoolOp .Or es pos) (tEO F W ck xs) ∧ PW X (.BoolOp .Or es pos) (tQ (tEO F W ck xs))
theorem band {a b : Bool} (h : (a && b) = true) : a = true ∧ b = true := Bool.and_eq_true_iff.mp h
section
variable {F : Fx} {ck : Nat → List D → RH → Res D} {k : Nat} {W : XW} {C : Cs} {X : Cx} {x : Ex} {e : Expr} {es : List Expr} {xs : Exs}
theorem S3.plain (hv : isVar x = false) (s : PE X e (tS F W ck x)) (h : isT e = true → plainT e = true) : S3 F ck W X x e := ⟨s, tB_of hv s, fun ht => snd_val (h ht) s⟩
theorem S3.no (hv : isVar x = false) (s : PE X e (tS F W ck x)) (h : isT e = false) : S3 F ck W X x e := ⟨s, tB_of hv s, fun ht => by rw [h] at ht; cases ht⟩
theorem Ok.gl (ok : Ok F ck k W C X) {x : Str} (h : C.gl x = true) : Gl X x := by
  show X.env.scope.names.lookup x = _
  rw [ok.sc]
  exact of_decide_eq_true h
theorem Ok.fre (ok : Ok F ck k W C X) {x : Str} (h : C.fre x = true) : Gl X x ∧ X.mg x = none := by
  obtain ⟨h1, h2⟩ := band h
  exact ⟨ok.gl h1, ok.free x (of_decide_eq_true h2)⟩
theorem Ok.var (ok : Ok F ck k W C X) {i : Nat} {x : Str} {p : Pos} (h : C.vis i x = true) : PE X (.Name x p) (tVar i) := by
  obtain ⟨h1, h2⟩ := band h
  obtain ⟨h2, h3⟩ := band h2
  obtain ⟨h3, h4⟩ := band h3
  refine pe_var (by rw [ok.N]; exact of_decide_eq_true h1) ?_ (by simpa using h3) (by simpa using h4)
  show X.env.scope.names.lookup x = _ ∨ X.env.scope.names.lookup x = _ ∨ X.env.scope.names.lookup x = _
  rw [ok.sc]
  unfold isVisK at h2
  split at h2 <;> first | (cases h2; done) | skip
  · rename_i e; exact .inl e
  · rename_i e; exact .inr (.inl e)
  · rename_i e; exact .inr (.inr e)
theorem Ok.loc (ok : Ok F ck k W C X) {i : Nat} {x : Str} (h : C.loc i x = true) : X.N[i]? = some x ∧ Loc X.env.scope x ∧ (X.fn x = true ∨ X.env.scope.names.lookup x = some .local) := by
  obtain ⟨h1, h2⟩ := band h
  refine ⟨by rw [ok.N]; exact of_decide_eq_true h1, ?_⟩
  show (X.env.scope.names.lookup x = _ ∨ X.env.scope.names.lookup x = _) ∧ _
  rw [ok.sc, ok.fn]
  unfold isLocK at h2
  split at h2 <;> first | (cases h2; done) | skip
  · rename_i e; exact ⟨.inl e, .inr e⟩
  · rename_i e; exact ⟨.inr e, .inl h2⟩
theorem Ok.con' (ok : Ok F ck k W C X) {d : D} (h : chCon C d e = true) : PE X e (tS F W ck (.con d)) ∧ (isT e = true → plainT e = true) := by
  unfold chCon at h
  split at h
  · rw [eqc_eq h]; exact ⟨snd_con pe_non fun _ _ => .non, fun _ => rfl⟩
  · rw [eqc_eq h]; exact ⟨snd_con pe_bl fun _ _ => .bl _, fun _ => rfl⟩
  · rw [eqc_eq h]; exact ⟨snd_con pe_int fun _ _ => .int _, fun _ => rfl⟩
  · rw [eqc_eq h]; exact ⟨snd_con pe_str fun _ _ => .str _, fun _ => rfl⟩
  · rename_i x p
    obtain ⟨h1, h2⟩ := band h
    obtain ⟨h2, h3⟩ := band h2
    have hd : (x == ("__debug__" : Str)) = false := by simpa using h2
    refine ⟨?_, fun _ => rfl⟩
    split at h3
    · rename_i i
      split at h3
      · rename_i y np q
        have e := of_decide_eq_true h3
        subst e
        obtain ⟨a, m1, m2⟩ := ok.fnv i y np q
        exact snd_con (pe_glob (v := .ref a) (ok.gl h1) m1 rfl hd) fun _ _ => .fn m2
      · cases h3
    · obtain ⟨p, hp, q⟩ := List.any_eq_true.mp h3
      obtain ⟨q1, q2⟩ := band q
      obtain ⟨y, d'⟩ := p
      have e1 := of_decide_eq_true q1
      simp only at e1 q2
      subst e1
      rw [← eqc_eq q2]
      obtain ⟨v, u, m1, m2, m3⟩ := ok.con y d' hp
      exact snd_con (pe_glob (ok.gl h1) m1 m2 hd) m3
  · cases h
theorem Ok.blk (ok : Ok F ck k W C X) (h0 : C.calm = true) {s : Shared} {H : Hp} {scope : Scope} {Cc : Addr} {cl : List (Str × Addr)} {fp : List Addr} : Ok F ck k noXW (C.blk scope) (X.blk s H scope (compEnvC scope cl Cc X.env) fp) where
  K := ok.K
  calm := ok.calm
  N := ok.N
  nd := ok.nd
  sc := by
    show relabel scope X.env = relS scope C.sc
    rw [← ok.sc]
    rfl
  fn := rfl
  hu := ok.hu
  room := ok.room
  tk := fun u s' ⟨a, B, sI, pins, σ, H, cls, d, e, I, nb, up, sky, na, os, ag, c, C, _, _, _, w⟩ => w.elim
  fns := fun hc i x np h => ⟨(ok.fns h0 i x np h).at_⟩
  fnv := ok.fnv
  con := ok.con
  free := ok.free
  lam := fun h => ⟨⟨(ok.lam h).1.at_⟩, (ok.lam h).2⟩
  cats := fun h i x td ws e => ⟨(ok.cats h i x td ws e).at_⟩
  act := fun h => by cases h
  err := fun h => by
    rw [show (C.blk scope).calm = true from h0] at h
    cases h
  sub := ok.sub
/-- a lambda's body -/
theorem Ok.lamB (ok : Ok F ck k W C X) (hl : C.lam = true) {sc : Scope} (L : LamX.LamS X.env.scope sc) {A : Around} {outer : List Env} {s : Shared} {H : Hp} {E : XK} {f c' : Addr} (hr : Room k (A.deeper (LamX.lamEnv X sc s.heap.objs.size f c'))) :
    Ok F ck k (fun c _ H' => ∀ C, F.ca c = some C → E (.ref C) none H') (C.lamB sc) (LamX.lamCx X A outer s H E sc f c') where
  K := ok.K
  calm := fun _ => rfl
  N := ok.N
  nd := ok.nd
  sc := rfl
  fn := rfl
  hu := by have := hr.un; show (A.deeper _).units + 70 < cLine; omega
  room := fun _ => hr
  tk := Takes.imp (takes_of rfl rfl rfl rfl) fun cls dd σ H' ⟨c, C, e1, e2, e3, w⟩ => by
    subst e1
    subst e3
    exact w C e2
  fns := fun _ i x np h => ⟨(ok.fns (ok.lam hl).2.2.2 i x np h).at_⟩
  fnv := ok.fnv
  con := ok.con
  free := ok.free
  lam := fun h => by cases h
  cats := fun h => by cases h
  act := fun h => by cases h
  err := fun h => by cases h
  sub := ok.sub
theorem notCall_base {n : Str} {env : Env} (h : notCallE e = true) : attributeBase e n env (eval e env) = eval e env := by
  unfold attributeBase
  split
  · cases h
  · rfl
theorem notSet_iter {env : Env} (h : notSetE e = true) : ∀ x, foldedSetIterable e env x = pure x := by
  cases e <;> first | (intro x; rfl) | cases h
theorem kdsOf_kdsE (ok : Ok F ck k W C X) : ∀ {ks : List Kd} {es : List Expr}, kdsOf C ks es = true → kdsE ks es = true ∧ ∀ q ∈ ks, Gl X (kdN q) ∧ X.mg (kdN q) = none
  | [], [], _ => ⟨rfl, fun _ h => nomatch h⟩
  | [], _ :: _, h => by cases h
  | q :: ks, [], h => by cases h
  | q :: ks, e :: es, h => by
    unfold kdsOf at h
    split at h
    · cases ‹_ :: _ = []›
    · rename_i e1 e2
      cases e1
      cases e2
      obtain ⟨h1, h2⟩ := band h
      obtain ⟨h2, h3⟩ := band h2
      obtain ⟨g1, g2⟩ := kdsOf_kdsE ok h3
      refine ⟨?_, fun z hz => ?_⟩
      · simp only [kdsE, Bool.and_eq_true]
        exact ⟨h1, g1⟩
      · rcases List.mem_cons.mp hz with rfl | hz
        · exact ok.fre h2
        · exact g2 z hz
    · cases h
theorem setTs_len : ∀ {ts : Tgs} {ds : List D} {σ σ' : List Sl} {C : Cs} {es : List Expr}, setTs ts ds σ = some σ' → chTs ts C es = true → ds.length = es.length
  | .nil, ds, σ, σ', C, es, h, hc => by
    cases ds with
    | nil =>
      simp only [chTs] at hc
      rw [List.isEmpty_iff.mp hc]
      rfl
    | cons d ds => simp [setTs] at h
  | .cons t ts, ds, σ, σ', C, es, h, hc => by
    cases ds with
    | nil => simp [setTs] at h
    | cons d ds =>
      cases es with
      | nil => simp [chTs] at hc
      | cons e es =>
        simp only [chTs, Bool.and_eq_true] at hc
        simp only [setTs] at h
        cases z : setT t d σ with
        | none => rw [z] at h; cases h
        | some σ1 =>
          rw [z] at h
          exact congrArg (· + 1) (setTs_len h hc.2)
mutual
theorem sndT (ok : Ok F ck k W C X) : ∀ (t : Tg) {e : Expr}, chT t C e = true → PG X e (gT F t)
  | .nm i, e, h => by
    simp only [chT] at h
    split at h
    · obtain ⟨h1, h2, h3⟩ := ok.loc h
      exact snd_nm (by rw [ok.N]; exact ok.nd) h1 h2 h3
    · cases h
  | .tp ts, e, h => by
    simp only [chT] at h
    split at h
    · obtain ⟨h0, h⟩ := band h
      obtain ⟨h1, h2⟩ := band h
      exact snd_tp ok.K (ok.calm h0) h1 (fun ds σ σ' q => setTs_len q h2) (sndTs ok ts h1 h2)
    · cases h
theorem sndTs (ok : Ok F ck k W C X) : ∀ (ts : Tgs) {es : List Expr}, noStar es = true → chTs ts C es = true → PGs X es (gTs F ts)
  | .nil, es, _, h => by
    simp only [chTs] at h
    rw [List.isEmpty_iff.mp h]
    exact snd_tgNil
  | .cons t ts, es, hn, h => by
    simp only [chTs] at h
    split at h
    · obtain ⟨h1, h2⟩ := band h
      have hs := hn
      simp only [noStar, List.all_cons, Bool.and_eq_true, Bool.not_eq_true'] at hs
      exact snd_tgCons hs.1 (sndT ok t h1) (sndTs ok ts (noStar_tail hn) h2)
    · cases h
end
theorem SL.nil : SL F ck W X .nil [] := ⟨snd_nilS, snd_nilB, fun _ _ h => absurd rfl h, fun _ _ h => absurd rfl h⟩
theorem SL.cons (hs : isStar e = false) (h : S3 F ck W X x e) (hl : lenX xs = es.length) (t : SL F ck W X xs es) : SL F ck W X (.cons x xs) (e :: es) := by
  refine ⟨snd_consS hs h.s t.as, snd_consB hs h.b t.ab, fun pos ht _ => ?_, fun pos ht _ => ?_⟩
  all_goals
    simp only [isTs, List.all_cons, Bool.and_eq_true] at ht
    cases es with
    | nil =>
      cases xs with
      | nil => first | exact ⟨snd_and1 h.s, snd_and1T (h.t ht.1)⟩ | exact ⟨snd_or1 h.s, snd_or1T (h.t ht.1)⟩
      | cons => cases hl
    | cons b es =>
      cases xs with
      | nil => cases hl
      | cons xb xs =>
        first
        | (obtain ⟨a1, a2⟩ := t.and pos ht.2 (by simp); exact ⟨snd_andc h.b a1, snd_andcT (h.t ht.1) a2⟩)
        | (obtain ⟨a1, a2⟩ := t.or pos ht.2 (by simp); exact ⟨snd_orc h.b a1, snd_orcT (h.t ht.1) a2⟩)
theorem chEs_len : ∀ {xs : Exs} {C : Cs} {es : List Expr}, chEs xs C es = true → lenX xs = es.length ∧ noStar es = true
  | .nil, C, es, h => by
    simp only [chEs] at h
    rw [List.isEmpty_iff.mp h]
    exact ⟨rfl, rfl⟩
  | .cons x xs, C, es, h => by
    simp only [chEs] at h
    split at h
    · obtain ⟨h1, h2⟩ := band h
      obtain ⟨h2, h3⟩ := band h2
      obtain ⟨g1, g2⟩ := chEs_len h3
      refine ⟨congrArg (· + 1) g1, ?_⟩
      simp only [noStar, List.all_cons, Bool.and_eq_true]
      exact ⟨h1, g2⟩
    · cases h
theorem nb {a : Bool} (h : (!a) = true) : a = false := by simpa using h
theorem SL.one (h : S3 F ck W X x e) (hs : isStar e = false) : SL F ck W X (.cons x .nil) [e] := SL.cons hs h rfl SL.nil
theorem Ok.nd' (ok : Ok F ck k W C X) : X.N.Nodup := by rw [ok.N]; exact ok.nd
theorem tgOwn_snd (C : Cs) (t : Tg) : (tgOwn C t).map (·.2) = tgs t := by
  unfold tgOwn
  rw [List.map_map]
  exact List.map_id _
theorem ev_lc_own {elt : Ex} {tg : Tg} {it : Itr} {cd : Exo} {σ : List Sl} {R R' : RH} {d : D} (h : ev ck (.lc elt tg it cd) σ R = .ok d R') : ownable d = true := by
  rw [ev_lc] at h
  obtain ⟨ds, R1, _, h2⟩ := ok_bind h
  obtain ⟨l, R2, _, h4⟩ := ok_bind h2
  cases h4
  rfl
theorem bltE_spec {f : Blt} {r : List Expr → Bool} (h : bltE f C e r = true) : ∃ p e0 es pos, e = .Call (.Name (bltN f) p) (e0 :: es) [] pos ∧ C.fre (bltN f) = true ∧ noStar (e0 :: es) = true ∧ r (e0 :: es) = true := by
  cases e <;> first | (cases h; done) | skip
  rename_i fn args kws pos
  cases fn <;> first | (cases h; done) | skip
  rename_i n p
  cases kws <;> first | (cases h; done) | skip
  cases args with
  | nil =>
    have h : (decide (n = bltN f) && (C.fre (bltN f) && (false && (noStar [] && r [])))) = true := h
    simp at h
  | cons e0 es =>
    have h : (decide (n = bltN f) && (C.fre (bltN f) && (true && (noStar (e0 :: es) && r (e0 :: es))))) = true := h
    simp only [Bool.and_eq_true, decide_eq_true_eq] at h
    obtain ⟨rfl, h2, _, h3, h4⟩ := h
    exact ⟨p, e0, es, pos, rfl, h2, h3, h4⟩
mutual
theorem sndE : ∀ (x : Ex) {W : XW} {C : Cs} {X : Cx} {e : Expr}, Ok F ck k W C X → chE x C e = true → S3 F ck W X x e
  | .var i, W, C, X, e, ok, h => by
    simp only [chE] at h
    split at h
    · exact ⟨snd_varS (ok.var h), snd_varB (ok.var h), fun _ => snd_val rfl (snd_varS (ok.var h))⟩
    · cases h
  | .con d, W, C, X, e, ok, h => by
    simp only [chE] at h
    obtain ⟨h1, h2⟩ := ok.con' h
    exact S3.plain rfl h1 h2
  | .tup xs, W, C, X, e, ok, h => by
    simp only [chE] at h
    split at h
    · obtain ⟨h1, h2⟩ := band h
      exact S3.no rfl (snd_tup (sndL xs ok h2).as (of_decide_eq_true h1)) rfl
    · cases h
  | .lst xs, W, C, X, e, ok, h => by
    simp only [chE] at h
    split at h
    · obtain ⟨h1, h2⟩ := band h
      exact S3.no rfl (snd_lst (sndL xs ok h2).as (of_decide_eq_true h1)) rfl
    · cases h
  | .bin o a b, W, C, X, e, ok, h => by
    simp only [chE] at h
    split at h
    · obtain ⟨h1, h2⟩ := band h
      obtain ⟨h2, h3⟩ := band h2
      rw [of_decide_eq_true h1]
      exact S3.no rfl (snd_bin ok.K o (sndE a ok h2).b (sndE b ok h3).b) rfl
    · cases h
  | .neg a, W, C, X, e, ok, h => by
    simp only [chE] at h
    split at h
    · exact S3.no rfl (snd_neg (sndE a ok h).b) rfl
    · cases h
  | .cmp o a b, W, C, X, e, ok, h => by
    simp only [chE] at h
    split at h
    · obtain ⟨h1, h2⟩ := band h
      obtain ⟨h2, h3⟩ := band h2
      obtain ⟨h3, h4⟩ := band h3
      rw [of_decide_eq_true h1]
      have s := fun p => snd_cmp (pos := p) (o := o) ok.K ok.hu h2 (sndE a ok h3).b (sndE b ok h4).b
      exact ⟨s _, tB_of rfl (s _), fun _ => snd_cmpT ok.K ok.hu h2 (sndE a ok h3).b (sndE b ok h4).b⟩
    · cases h
  | .ch2 o p a b c, W, C, X, e, ok, h => by
    simp only [chE] at h
    split at h
    · obtain ⟨h1, h2⟩ := band h
      obtain ⟨h2, h3⟩ := band h2
      obtain ⟨h3, h4⟩ := band h3
      obtain ⟨h4, h5⟩ := band h4
      obtain ⟨h5, h6⟩ := band h5
      rw [of_decide_eq_true h1, of_decide_eq_true h2]
      have s := fun q => snd_ch (pos := q) (o := o) (o2 := p) ok.K ok.hu h3 (sndE a ok h4).b (sndE b ok h5).b (sndE c ok h6).b
      exact ⟨s _, tB_of rfl (s _), fun _ => snd_chT ok.K ok.hu h3 (sndE a ok h4).b (sndE b ok h5).b (sndE c ok h6).b⟩
    · cases h
  | .and a xs, W, C, X, e, ok, h => by
    simp only [chE] at h
    split at h
    · obtain ⟨h1, h2⟩ := band h
      obtain ⟨h2, h3⟩ := band h2
      obtain ⟨h3, h4⟩ := band h3
      obtain ⟨l1, l2⟩ := (sndL xs ok h4).and _ h2 (by simp)
      have s := snd_and (sndE a ok h3).b l1
      exact ⟨s, tB_of rfl s, fun _ => snd_andT ((sndE a ok h3).t h1) l2⟩
    · cases h
  | .or a xs, W, C, X, e, ok, h => by
    simp only [chE] at h
    split at h
    · obtain ⟨h1, h2⟩ := band h
      obtain ⟨h2, h3⟩ := band h2
      obtain ⟨h3, h4⟩ := band h3
      obtain ⟨l1, l2⟩ := (sndL xs ok h4).or _ h2 (by simp)
      have s := snd_or (sndE a ok h3).b l1
      exact ⟨s, tB_of rfl s, fun _ => snd_orT ((sndE a ok h3).t h1) l2⟩
    · cases h
  | .not a, W, C, X, e, ok, h => by
    simp only [chE] at h
    split at h
    · obtain ⟨h1, h2⟩ := band h
      have s := fun p => snd_not (pos := p) (sndE a ok h2).b
      exact ⟨s _, tB_of rfl (s _), fun _ => snd_notT ((sndE a ok h2).t h1)⟩
    · cases h
  | .ite c a b, W, C, X, e, ok, h => by
    simp only [chE] at h
    split at h
    · obtain ⟨h1, h2⟩ := band h
      obtain ⟨h2, h3⟩ := band h2
      obtain ⟨h3, h4⟩ := band h3
      exact S3.no rfl (snd_ite ((sndE c ok h2).t h1) (sndE a ok h3).s (sndE b ok h4).s) rfl
    · cases h
  | .call f xs, W, C, X, e, ok, h => by
    simp only [chE] at h
    split at h
    · rename_i es pos
      obtain ⟨h0, h⟩ := band h
      obtain ⟨h1, g1⟩ := band h
      obtain ⟨h2, g2⟩ := band g1
      obtain ⟨h3, g3⟩ := band g2
      obtain ⟨h4, h5⟩ := band g3
      clear h g1 g2 g3
      have G := ok.fns h0 _ _ _ (of_decide_eq_true h3)
      cases es with
      | nil =>
        have hl := (chEs_len h5).1
        cases xs with
        | nil => exact S3.plain rfl (snd_call0 G (ok.room h0) (ok.gl h1) ok.tk (nb h2)) fun _ => rfl
        | cons => cases hl
      | cons e0 es => exact S3.plain rfl (snd_call G (ok.room h0) (ok.gl h1) ok.tk (nb h2) h4 (sndL xs ok h5).as) fun _ => rfl
    · cases h
  | .blt f xs, W, C, X, e, ok, h => by
    by_cases hf : f = .lrange
    · subst hf
      match xs, h with
      | .cons a .nil, h =>
        simp only [chE] at h
        split at h
        · obtain ⟨h0, h⟩ := band h
          obtain ⟨h1, h2⟩ := band h
          obtain ⟨h2, h3⟩ := band h2
          obtain ⟨h3, h4⟩ := band h3
          obtain ⟨h4, h5⟩ := band h4
          obtain ⟨h5, h6⟩ := band h5
          rw [of_decide_eq_true h1, of_decide_eq_true h2]
          exact S3.plain rfl (snd_lrange1 (ok.calm h0) (ok.fre h3).1 (ok.fre h3).2 (ok.fre h4).1 (ok.fre h4).2 h5 (sndE a ok h6).b) fun _ => rfl
        · cases h
      | .cons a (.cons b .nil), h =>
        simp only [chE] at h
        split at h
        · obtain ⟨h0, h⟩ := band h
          obtain ⟨h1, h2⟩ := band h
          obtain ⟨h2, h3⟩ := band h2
          obtain ⟨h3, h4⟩ := band h3
          obtain ⟨h4, h5⟩ := band h4
          obtain ⟨h5, h6⟩ := band h5
          obtain ⟨h6, h7⟩ := band h6
          rw [of_decide_eq_true h1, of_decide_eq_true h2]
          exact S3.plain rfl (snd_lrange2 (ok.calm h0) (ok.fre h3).1 (ok.fre h3).2 (ok.fre h4).1 (ok.fre h4).2 h5 (sndE a ok h6).b (sndE b ok h7).b) fun _ => rfl
        · cases h
      | .nil, h => simp [chE] at h
      | .cons a (.cons b (.cons c xs)), h => simp [chE] at h
    · have h : (C.calm && bltE f C e (fun es => chEs xs C es)) = true := by
        cases f <;> first | exact absurd rfl hf | (simpa only [chE] using h)
      obtain ⟨h0, h⟩ := band h
      obtain ⟨p, e0, es, pos, rfl, h2, h4, h5⟩ := bltE_spec h
      exact S3.plain rfl (snd_blt ok.K (ok.calm h0) ok.hu hf (ok.fre h2).1 (ok.fre h2).2 h4 (sndL xs ok h5).ab) fun _ => rfl
  | .isi ks a, W, C, X, e, ok, h => by
    simp only [chE] at h
    split at h
    · obtain ⟨h1, z1⟩ := band h
      rw [of_decide_eq_true h1]
      obtain ⟨h2, z2⟩ := band z1
      obtain ⟨h3, z3⟩ := band z2
      obtain ⟨h4, h5⟩ := band z3
      clear h z1 z2 z3
      obtain ⟨g1, g2⟩ := kdsOf_kdsE ok h4
      match ks, g1, g2 with
      | [q], g1, g2 =>
        simp only [kdsE, Bool.and_eq_true] at g1
        rw [of_decide_eq_true g1.1]
        exact S3.plain rfl (snd_isi1 ok.K q (ok.fre h2).1 (ok.fre h2).2 (g2 q List.mem_cons_self).1 (g2 q List.mem_cons_self).2 (nb h3) (sndE a ok h5).b) fun _ => rfl
      | [], g1, _ => simp [kdsE] at g1
      | _ :: _ :: _, g1, _ => simp [kdsE] at g1
    · obtain ⟨h1, h2⟩ := band h
      obtain ⟨h2, h3⟩ := band h2
      obtain ⟨h3, h4⟩ := band h3
      obtain ⟨h4, h5⟩ := band h4
      obtain ⟨h5, h6⟩ := band h5
      obtain ⟨h6, h7⟩ := band h6
      rw [of_decide_eq_true h1]
      obtain ⟨g1, g2⟩ := kdsOf_kdsE ok h6
      exact S3.plain rfl (snd_isiT ok.K g1 (of_decide_eq_true h4) (by intro z; subst z; cases h5) (ok.fre h2).1 (ok.fre h2).2 (fun q hq => (g2 q hq).1) (fun q hq => (g2 q hq).2) (nb h3) (sndE a ok h7).b) fun _ => rfl
    · cases h
  | .meth m o xs, W, C, X, e, ok, h => by
    match xs, h with
    | .cons a .nil, h =>
      simp only [chE] at h
      split at h
      · obtain ⟨h1, h2⟩ := band h
        obtain ⟨h2, h3⟩ := band h2
        obtain ⟨h3, h4⟩ := band h3
        obtain ⟨h4, h5⟩ := band h4
        obtain ⟨h5, h6⟩ := band h5
        obtain ⟨h6, h7⟩ := band h6
        rw [of_decide_eq_true h1]
        cases m <;> first | (cases h2; done) | skip
        · exact S3.plain rfl (snd_index ok.K ok.hu (nb h5) (notCall_base h4) h3 (sndE o ok h6).b (sndE a ok h7).b) fun _ => rfl
        · exact S3.plain rfl (snd_count ok.K ok.hu (nb h5) (notCall_base h4) h3 (sndE o ok h6).b (sndE a ok h7).b) fun _ => rfl
      · cases h
    | .nil, h => simp [chE] at h
    | .cons a (.cons b xs), h => simp [chE] at h
  | .lamc, W, C, X, e, ok, h => by
    simp only [chE] at h
    split at h
    · obtain ⟨h1, h2⟩ := band h
      exact S3.plain rfl (ok.act h1 W X.pn X.xe _ _ _ ok.tk h2) fun _ => rfl
    · cases h
  | .tri f td ws b, W, C, X, e, ok, h => by
    simp only [chE] at h
    split at h
    · rename_i x p pa body sc lpos pos
      obtain ⟨h1, z1⟩ := band h
      obtain ⟨h2, z2⟩ := band z1
      obtain ⟨h3, z3⟩ := band z2
      obtain ⟨h4, z4⟩ := band z3
      obtain ⟨h5, z5⟩ := band z4
      obtain ⟨h6, h7⟩ := band z5
      clear h z1 z2 z3 z4 z5
      split at h4
      · rename_i y td' ws' q
        obtain ⟨w1, w2⟩ := band h4
        obtain ⟨w2, w3⟩ := band w2
        have e1 := of_decide_eq_true w1
        subst e1
        rw [eqcs_eq w3] at q
        have e2 : td' = td := by
          cases td' <;> cases td <;> simp [tdE] at w2 <;> first | rfl | (rw [eqc_eq w2])
        subst e2
        have L := LamX.lamS_by h6
        rw [← ok.sc] at L
        obtain ⟨po, ar, va, ko, kd, kw, df⟩ := pa
        simp only [noPar, Bool.and_eq_true, List.isEmpty_iff, Option.isNone_iff_eq_none] at h5
        obtain ⟨rfl, rfl, rfl, rfl, rfl, rfl, rfl⟩ := h5
        obtain ⟨l1, l2, l3, _⟩ := ok.lam h1
        exact S3.plain rfl (snd_tri (ok.cats h1 f y td' ws q) l1 l3 (ok.gl h2) l2 L rfl (fun _ _ _ _ _ => rfl) (fun A outer s H E f0 c' hr => (sndE b (ok.lamB h1 L hr) h7).s) (nb h3)) fun _ => rfl
      · cases h4
    · cases h
  | .ise i x bs, W, C, X, e, ok, h => by
    simp only [chE] at h
    split at h
    · rename_i n p1 y p2 z p3 pos
      obtain ⟨h1, z1⟩ := band h
      obtain ⟨h2, z2⟩ := band z1
      obtain ⟨h3, z3⟩ := band z2
      obtain ⟨h4, z4⟩ := band z3
      obtain ⟨h5, z5⟩ := band z4
      obtain ⟨h6, z6⟩ := band z5
      obtain ⟨h7, h8⟩ := band z6
      clear h z1 z2 z3 z4 z5 z6
      have e1 := of_decide_eq_true h2
      have e2 := of_decide_eq_true h5
      subst e1
      subst e2
      obtain ⟨ad, c, Cc, r1, r2, r3⟩ := ok.err (nb h1)
      obtain ⟨cv, hcv, hk⟩ := ok.sub z bs (of_decide_eq_true h8)
      rcases hcv with ⟨D, m1, rfl⟩ | ⟨m1, t, m2, m3, rfl⟩
      · exact S3.plain rfl (snd_ise (vc := .ref D) r1 (ok.var h4) (pe_glob (v := .ref D) (ok.gl h6) m1 rfl (nb h7)) rfl (fun u h => h) r3 (fun w hw => hk c Cc w r2 hw) (ok.fre h3).1 (ok.fre h3).2 rfl rfl) fun _ => rfl
      · exact S3.plain rfl (snd_ise (vc := .ty t) r1 (ok.var h4) (pe_bltn (ok.gl h6) m1 m2 rfl m3 (nb h7)) rfl (fun u h => h) r3 (fun w hw => hk c Cc w r2 hw) (ok.fre h3).1 (ok.fre h3).2 rfl rfl) fun _ => rfl
    · cases h
  | .callv i fs xs, W, C, X, e, ok, h => by
    simp only [chE] at h
    split at h
    · obtain ⟨h0, h⟩ := band h
      obtain ⟨h1, h2⟩ := band h
      obtain ⟨h2, h3⟩ := band h2
      obtain ⟨h3, h4⟩ := band h3
      refine S3.plain rfl (snd_callv (k := k) (fun f hf => ?_) (ok.room h0) (ok.var h1) ok.tk h3 (sndL xs ok h4).as) fun _ => rfl
      have q := List.all_eq_true.mp h2 f hf
      split at q
      · rename_i z n w
        rw [of_decide_eq_true q] at w
        obtain ⟨a, m1, m2⟩ := ok.fnv f z _ w
        exact ⟨z, a, ok.fns h0 f z _ w, m1, m2⟩
      · cases q
    · cases h
  | .callb f xs, W, C, X, e, ok, h => by
    simp only [chE] at h
    split at h
    · rename_i e0 es pos
      obtain ⟨h0, h⟩ := band h
      obtain ⟨h1, g1⟩ := band h
      obtain ⟨h2, g2⟩ := band g1
      obtain ⟨h3, g3⟩ := band g2
      obtain ⟨h4, h5⟩ := band g3
      clear h g1 g2 g3
      exact S3.plain rfl (snd_callb (ok.fns h0 _ _ _ (of_decide_eq_true h3)) (ok.room h0) (ok.gl h1) ok.tk (nb h2) h4 (sndL xs ok h5).ab) fun _ => rfl
    · cases h
  | .nev, W, C, X, e, ok, h => by
    have z : ∀ {t : TE}, (∀ σ H Q, t σ H Q → False) → PE X e t := fun hz => ⟨fun pins s σ H Q I q => (hz σ H Q q).elim⟩
    have h1 : ∀ σ H Q, tS F W ck .nev σ H Q → False := fun σ H Q ⟨_, _, _, _, _, _, p⟩ => p
    exact ⟨z h1, z fun σ H Q ⟨_, _, _, _, _, _, p⟩ => p, fun _ => ⟨fun pins s σ H Q I q => (h1 σ H _ q).elim⟩⟩
  | .dic0, W, C, X, e, ok, h => by
    simp only [chE] at h
    split at h
    · exact S3.no rfl snd_dic0 rfl
    · cases h
  | .dic1 n x, W, C, X, e, ok, h => by
    simp only [chE] at h
    split at h
    · obtain ⟨h1, h2⟩ := band h
      rw [of_decide_eq_true h1]
      exact S3.no rfl (snd_dic1 (sndE x ok h2).s) rfl
    · cases h
  | .idx a i, W, C, X, e, ok, h => by
    simp only [chE] at h
    split at h
    · obtain ⟨h1, h2⟩ := band h
      obtain ⟨h2, h3⟩ := band h2
      exact S3.plain rfl (snd_idx ok.K h1 (sndE a ok h2).b (sndE i ok h3).b) fun _ => rfl
    · cases h
  | .slc a lo hi, W, C, X, e, ok, h => by
    simp only [chE] at h
    split at h
    · obtain ⟨h1, h2⟩ := band h
      obtain ⟨h2, h3⟩ := band h2
      exact S3.plain rfl (snd_slc ok.K (sndE a ok h1).b (sndO lo ok h2) (sndO hi ok h3)) fun _ => rfl
    · cases h
  | .rev a, W, C, X, e, ok, h => by
    simp only [chE] at h
    split at h
    · obtain ⟨h1, h2⟩ := band h
      rw [of_decide_eq_true h1]
      exact S3.plain rfl (snd_rev ok.K (sndE a ok h2).b) fun _ => rfl
    · cases h
  | .lc x t it cd, W, C, X, e, ok, h => by
    simp only [chE] at h
    split at h
    · obtain ⟨h0, h⟩ := band h
      obtain ⟨h1, h2⟩ := band h
      obtain ⟨h2, h3⟩ := band h2
      obtain ⟨h3, h4⟩ := band h3
      obtain ⟨h4, h5⟩ := band h4
      obtain ⟨h5, h6⟩ := band h5
      obtain ⟨h6, h7⟩ := band h6
      rw [of_decide_eq_true h1]
      exact S3.no rfl (tS_ofF rfl (fun _ _ _ _ h => ev_lc_own h) (snd_lcF (ok.calm h0) ok.nd' (sndI it ok h4 false) (by rw [ok.N, ok.sc]; exact blkOk_by h3) (tgOwn_snd C t)
        (fun s H Cc cl fp => sndT (ok.blk h0) t h5) (fun s H Cc cl fp => sndC cd (ok.blk h0) h6) (fun s H Cc cl fp => (sndE x (ok.blk h0) h7).s) (notSet_iter h2))) rfl
    · cases h
theorem sndL : ∀ (xs : Exs) {W : XW} {C : Cs} {X : Cx} {es : List Expr}, Ok F ck k W C X → chEs xs C es = true → SL F ck W X xs es
  | .nil, W, C, X, es, ok, h => by
    simp only [chEs] at h
    rw [List.isEmpty_iff.mp h]
    exact SL.nil
  | .cons x xs, W, C, X, es, ok, h => by
    simp only [chEs] at h
    split at h
    · obtain ⟨h1, h2⟩ := band h
      obtain ⟨h2, h3⟩ := band h2
      exact SL.cons (nb h1) (sndE x ok h2) (chEs_len h3).1 (sndL xs ok h3)
    · cases h
theorem sndO : ∀ (x : Exo) {W : XW} {C : Cs} {X : Cx} {e : Option Expr}, Ok F ck k W C X → chO x C e = true → PO X e (tO F W ck x)
  | .no, W, C, X, e, ok, h => by
    simp only [chO] at h
    cases e with
    | none => exact snd_noPart
    | some e => cases h
  | .so x, W, C, X, e, ok, h => by
    simp only [chO] at h
    split at h
    · exact snd_part (sndE x ok h).b
    · cases h
theorem sndC : ∀ (x : Exo) {C : Cs} {X : Cx} {es : List Expr}, Ok F ck k noXW C X → chC x C es = true → PTs X es (tC F ck x)
  | .no, C, X, es, ok, h => by
    simp only [chC] at h
    rw [List.isEmpty_iff.mp h]
    exact pts_nil
  | .so x, C, X, es, ok, h => by
    simp only [chC] at h
    split at h
    · obtain ⟨h1, h2⟩ := band h
      exact pts_one ((sndE x ok h2).t h1)
    · cases h
theorem sndI : ∀ (x : Itr) {W : XW} {C : Cs} {X : Cx} {t e : Expr}, Ok F ck k W C X → chI x C t e = true → ∀ st, PI X t e (tI F W ck st x)
  | .ex x, W, C, X, t, e, ok, h, st => by
    simp only [chI] at h
    exact snd_itEx ok.K (tX_of (sndE x ok h).b (sndE x ok h).s)
  | .rng a, W, C, X, t, e, ok, h, st => by
    simp only [chI] at h
    split at h
    · obtain ⟨h1, h2⟩ := band h
      obtain ⟨h2, h3⟩ := band h2
      obtain ⟨h3, h4⟩ := band h3
      rw [of_decide_eq_true h1]
      exact snd_itRng1 (ok.fre h2).1 (ok.fre h2).2 (nb h3) (sndE a ok h4).b
    · cases h
  | .rng2 a b, W, C, X, t, e, ok, h, st => by
    simp only [chI] at h
    split at h
    · obtain ⟨h1, h2⟩ := band h
      obtain ⟨h2, h3⟩ := band h2
      obtain ⟨h3, h4⟩ := band h3
      obtain ⟨h4, h5⟩ := band h4
      rw [of_decide_eq_true h1]
      exact snd_itRng2 (ok.fre h2).1 (ok.fre h2).2 h3 (sndE a ok h4).b (sndE b ok h5).b
    · cases h
  | .rng3 a b c, W, C, X, t, e, ok, h, st => by
    simp only [chI] at h
    split at h
    · obtain ⟨h1, h2⟩ := band h
      obtain ⟨h2, h3⟩ := band h2
      obtain ⟨h3, h4⟩ := band h3
      obtain ⟨h4, h5⟩ := band h4
      obtain ⟨h5, h6⟩ := band h5
      rw [of_decide_eq_true h1]
      exact snd_itRng3 (ok.fre h2).1 (ok.fre h2).2 h3 (sndE a ok h4).b (sndE b ok h5).b (sndE c ok h6).b
    · cases h
  | .enu a, W, C, X, t, e, ok, h, st => by
    simp only [chI] at h
    split at h
    · obtain ⟨h1, h2⟩ := band h
      obtain ⟨h2, h3⟩ := band h2
      obtain ⟨h3, h4⟩ := band h3
      rw [of_decide_eq_true h1]
      exact snd_itEnu ok.K (ok.fre h2).1 (ok.fre h2).2 (nb h3) (tX_of (sndE a ok h4).b (sndE a ok h4).s)
    · cases h
  | .zip a b, W, C, X, t, e, ok, h, st => by
    simp only [chI] at h
    split at h
    · obtain ⟨h1, h2⟩ := band h
      obtain ⟨h2, h3⟩ := band h2
      obtain ⟨h3, h4⟩ := band h3
      obtain ⟨h4, h5⟩ := band h4
      rw [of_decide_eq_true h1]
      exact snd_itZip ok.K (ok.fre h2).1 (ok.fre h2).2 h3 (tX_of (sndE a ok h4).b (sndE a ok h4).s) (tX_of (sndE b ok h5).b (sndE b ok h5).s)
    · cases h
end
end
end Cw

end
section
/-! CwX: own syntax is the text's: statements. -/
namespace Cw
open PySem L2 PyProof.Rows PySem.W
def notComp (e : Expr) : Bool := match e with
  | .ListComp .. | .SetComp .. | .DictComp .. => false
  | _ => true
def bkOf (k : ScopeKind) : ScopeKind := if k.isAnnotationScope then .function else k
/-- the stores of a, b = x, y -/
def swp (C : Cs) (ts vs : List Expr) : Option (Option (List Str)) :=
  if (!(ts.length == 2 || ts.length == 3) || vs.length != ts.length || bkOf C.sc.kind != .function) = true then some none
  else if (vs.any fun | .Starred .. => true | _ => false) = true then some none
  else
    let line := (ts.head?.map (·.pos.line)).getD 0
    let names := ts.filterMap fun
      | .Name id pos => if C.sc.names.lookup id == some .local && pos.line == line then some id else none
      | _ => none
    if (names.length != ts.length || names.eraseDups.length != names.length) = true then some none
    else if vs.all (foldedForSure 8) = true then some none
    else if vs.all (constantsAlone 8) = true then none
    else some (some names)
theorem swp_ok {C : Cs} {env : Env} {ts vs : List Expr} {k k2 : Nat} {p p2 : Pos} {r : Option (List Str)} (hs : env.scope = C.sc) (h : swp C ts vs = some r) : swappedStores [.Tuple ts k p] (.Tuple vs k2 p2) env = pure r := by
  unfold swp at h
  unfold swappedStores
  have hb : env.blockKind = bkOf C.sc.kind := by rw [← hs]; rfl
  have hk : ∀ id, env.kindOf id = C.sc.names.lookup id := fun id => by rw [← hs]; rfl
  simp only [hb, hk]
  split at h
  · rename_i q
    cases h
    exact if_pos q
  · rename_i q
    refine (if_neg q).trans ?_
    split at h
    · rename_i q2
      cases h
      exact if_pos q2
    · rename_i q2
      refine (if_neg q2).trans ?_
      dsimp only at h
      split at h
      · rename_i q3
        cases h
        exact if_pos q3
      · rename_i q3
        refine (if_neg q3).trans ?_
        split at h
        · rename_i q4
          cases h
          exact if_pos q4
        · rename_i q4
          refine (if_neg q4).trans ?_
          split at h
          · cases h
          · rename_i q5
            cases h
            exact if_neg q5
/-- name = [..]: does it swap -/
def swl (C : Cs) (scope : Scope) (y : Str) (py vp : Pos) : Bool := bkOf C.sc.kind == .function && C.sc.names.lookup y == some .local && py.line == vp.line && !(scope.names.any fun (n, k) => n == y && (k == .local || k == .cell))
theorem swl_ok {C : Cs} {env : Env} {ex : Expr} {gs : List Comprehension} {scope : Scope} {pos py : Pos} {y : Str} {l : Nat} (hs : env.scope = C.sc) : swapsWith (.ListComp ex gs scope pos) (some (.Name y py)) l env = pure (swl C scope y py pos) := by
  have hb : env.blockKind = bkOf C.sc.kind := by rw [← hs]; rfl
  have hk : ∀ id, env.kindOf id = C.sc.names.lookup id := fun id => by rw [← hs]; rfl
  unfold swapsWith swl
  simp only [hb, hk]
  rfl
/-- a tuple for unpacking: no swapped stores -/
def unpOk (C : Cs) (es : List Expr) (e : Expr) : Bool := match e with
  | .Tuple vs _ _ => decide (swp C es vs = some none)
  | _ => true
theorem unpOk_sw {C : Cs} {env : Env} {es : List Expr} {e : Expr} {k : Nat} {p : Pos} (hs : env.scope = C.sc) (h : unpOk C es e = true) : swappedStores [.Tuple es k p] e env = pure none := by
  cases e <;> first | rfl | exact swp_ok hs (of_decide_eq_true h)
theorem sw_not {e : Expr} {t : Option Expr} {l : Nat} {env : Env} (h : notComp e = true) : swapsWith e t l env = pure false := by
  cases e <;> first | rfl | cases h
theorem sw_tup {e : Expr} {ts : List Expr} {k : Nat} {p : Pos} {l : Nat} {env : Env} : swapsWithSole [.Tuple ts k p] e l env = pure false := by
  cases e <;> rfl
/-! ### new lists -/
def chF (x : Ex) (C : Cs) (e : Expr) : Bool := match x with
  | .lst xs => (match e with
    | .List es _ => decide (lenX xs ≤ 1000) && chEs xs C es
    | _ => false)
  | .bin .mul a b => (match e with
    | .BinOp ea .Mult eb _ => chE a C ea && chE b C eb
    | _ => false)
  | .bin .add a b => (match e with
    | .BinOp ea .Add eb _ => chE a C ea && chE b C eb
    | _ => false)
  | .blt .list (.cons a .nil) => (match e with
    | .Call (.Name n _) [ea] [] _ => C.calm && (decide (n = "list") && (C.fre "list" && (!isStar ea && chE a C ea)))
    | _ => false)
  | .lc .. => (match e with
    | .ListComp .. => chE x C e
    | _ => false)
  | _ => false
section
variable {F : Fx} {ck : Nat → List D → RH → Res D} {k : Nat} {W : XW} {C : Cs} {X : Cx} {x : Ex} {e : Expr} {es : List Expr} {xs : Exs}
theorem sndLc {xe : Ex} {t : Tg} {it : Itr} {cd : Exo} (ok : Ok F ck k W C X) (h : chE (.lc xe t it cd) C e = true) : PE X e (tF F W ck (.lc xe t it cd)) := by
  simp only [chE] at h
  split at h
  · obtain ⟨h0, h⟩ := band h
    obtain ⟨h1, h2⟩ := band h
    obtain ⟨h2, h3⟩ := band h2
    obtain ⟨h3, h4⟩ := band h3
    obtain ⟨h4, h5⟩ := band h4
    obtain ⟨h5, h6⟩ := band h5
    obtain ⟨h6, h7⟩ := band h6
    rw [of_decide_eq_true h1]
    exact snd_lcF (ok.calm h0) ok.nd' (sndI it ok h4 false) (by rw [ok.N, ok.sc]; exact blkOk_by h3) (tgOwn_snd C t)
      (fun s H Cc cl fp => sndT (ok.blk h0) t h5) (fun s H Cc cl fp => sndC cd (ok.blk h0) h6) (fun s H Cc cl fp => (sndE xe (ok.blk h0) h7).s) (notSet_iter h2)
  · cases h
/-- name = [..], swapping -/
theorem sndLcSw {xe : Ex} {t : Tg} {it : Itr} {cd : Exo} {ex : Expr} {gs : List Comprehension} {scope : Scope} {pos py spos : Pos} {y : Str} {i : Nat} (ok : Ok F ck k W C X) (h : chE (.lc xe t it cd) C (.ListComp ex gs scope pos) = true) (hl : C.loc i y = true) (hs : swl C scope y py pos = true) :
    PS X (.Assign [.Name y py] (.ListComp ex gs scope pos) spos) (tAsg (tF F W ck (.lc xe t it cd)) (gName i)) := by
  have hy : X.env.scope.names.lookup y = some .local := by
    rw [ok.sc]
    unfold swl at hs
    simp only [Bool.and_eq_true, beq_iff_eq] at hs
    exact hs.1.1.2
  have sw := swl_ok (ex := ex) (gs := gs) (scope := scope) (pos := pos) (py := py) (y := y) (l := spos.line) ok.sc
  rw [hs] at sw
  simp only [chE] at h
  split at h
  · rename_i q
    cases q
    obtain ⟨h0, h⟩ := band h
    obtain ⟨h1, h2⟩ := band h
    obtain ⟨h2, h3⟩ := band h2
    obtain ⟨h3, h4⟩ := band h3
    obtain ⟨h4, h5⟩ := band h4
    obtain ⟨h5, h6⟩ := band h5
    obtain ⟨h6, h7⟩ := band h6
    have e1 := of_decide_eq_true h1
    subst e1
    exact snd_setLc (ok.calm h0) ok.nd' (ok.loc hl).1 hy sw (sndI it ok h4 false) (by rw [ok.N, ok.sc]; exact blkOk_by h3) (tgOwn_snd C t)
      (fun s H Cc cl fp => sndT (ok.blk h0) t h5) (fun s H Cc cl fp => sndC cd (ok.blk h0) h6) (fun s H Cc cl fp => (sndE xe (ok.blk h0) h7).s) (notSet_iter h2)
  · cases h
theorem sndF (ok : Ok F ck k W C X) (h : chF x C e = true) : PE X e (tF F W ck x) := by
  unfold chF at h
  split at h
  · split at h
    · obtain ⟨h1, h2⟩ := band h
      exact fr_lst (sndL _ ok h2).as (of_decide_eq_true h1)
    · cases h
  · split at h
    · obtain ⟨h1, h2⟩ := band h
      exact fr_rep (sndE _ ok h1).b (sndE _ ok h2).b
    · cases h
  · split at h
    · obtain ⟨h1, h2⟩ := band h
      exact fr_add (sndE _ ok h1).b (sndE _ ok h2).b
    · cases h
  · split at h
    · obtain ⟨h0, h⟩ := band h
      obtain ⟨h1, h2⟩ := band h
      obtain ⟨h2, h3⟩ := band h2
      obtain ⟨h3, h4⟩ := band h3
      rw [of_decide_eq_true h1]
      exact fr_list ok.K (ok.calm h0) (ok.fre h2).1 (ok.fre h2).2 (nb h3) (sndE _ ok h4).b
    · cases h
  · split at h
    · exact sndLc ok h
    · cases h
  · cases h
end
/-! ### statements -/
def chSE (s : SE) (C : Cs) (e : Expr) : Bool := match s with
  | .ex x => chE x C e
  | .pop i => (match e with
    | .Call (.Attribute (.Name x _) n apos) [] [] cpos => decide (n = "pop") && (C.vis i x && (apos.endLine == cpos.line))
    | _ => false)
  | .popAt i a => (match e with
    | .Call (.Attribute (.Name x _) n apos) [ea] [] cpos => decide (n = "pop") && (C.vis i x && ((apos.endLine == cpos.line) && (!isStar ea && chE a C ea)))
    | _ => false)
  | .nref x => chF x C e
section
variable {F : Fx} {ck : Nat → List D → RH → Res D} {k : Nat} {W : XW} {C : Cs} {X : Cx} {x : Ex} {e : Expr} {es : List Expr} {xs : Exs}
theorem sndSE {s : SE} (ok : Ok F ck k W C X) (h : chSE s C e = true) : PE X e (tSE F W ck s) := by
  unfold chSE at h
  split at h
  · exact seEx (sndE _ ok h).s
  · split at h
    · obtain ⟨h1, h2⟩ := band h
      obtain ⟨h2, h3⟩ := band h2
      rw [of_decide_eq_true h1]
      exact sePop (ok.var h2) rfl h3
    · cases h
  · split at h
    · obtain ⟨h1, h2⟩ := band h
      obtain ⟨h2, h3⟩ := band h2
      obtain ⟨h3, h4⟩ := band h3
      obtain ⟨h4, h5⟩ := band h4
      rw [of_decide_eq_true h1]
      exact sePopAt ok.K (ok.var h2) (nb h4) rfl h3 (sndE _ ok h5).b
    · cases h
  · exact seNref (sndF ok h)
end
def chP : List (Nat × Bool) → Exs → Cs → List Expr → Bool
  | [], .nil, _, es => es.isEmpty
  | (_, b) :: is, .cons x xs, C, e :: es => !isStar e && ((if b = true then chF x C e else chE x C e) && chP is xs C es)
  | _, _, _, _ => false
def chNs : List (Nat × Bool) → Cs → List Expr → Bool
  | [], _, es => es.isEmpty
  | (i, _) :: is, C, e :: es => (match e with
    | .Name x _ => C.loc i x
    | _ => false) && chNs is C es
  | _, _, _ => false
def tsNames (ts : List Expr) : List Str := ts.map fun
  | .Name x _ => x
  | _ => Str.empty
def isTup (e : Expr) : Bool := match e with
  | .Tuple .. => true
  | _ => false
def isVar' : SE → Bool
  | .ex (.var _) => true
  | _ => false
/-- the statement in a try -/
def chTk (tk : Tk) (x : Ex) (C : Cs) (st : Stmt) : Bool := match tk with
  | .xpr => (match st with
    | .Expr e _ => notComp e && chE x C e
    | _ => false)
  | .ret => (match st with
    | .Return (some e) _ => chE x C e
    | _ => false)
  | .set i => (match st with
    | .Assign [.Name y _] e _ => C.loc i y && (notComp e && chE x C e)
    | _ => false)
mutual
def chS : Sm → Cs → Stmt → Bool
  | .set i s, C, st => (match st with
    | .Assign [.Name y py] e _ => C.loc i y && (chSE s C e && (match e with
      | .ListComp _ _ scope pos => (match s with
        | .ex (.lc ..) => true
        | .nref (.lc ..) => true
        | .ex _ => false
        | _ => !swl C scope y py pos)
      | _ => notComp e))
    | _ => false)
  | .own i x, C, st => (match st with
    | .Assign [.Name y _] e _ => C.loc i y && chF x C e
    | _ => false)
  | .unp ts s, C, st => (match st with
    | .Assign [.Tuple es k p] e _ => unpOk C es e && (chSE s C e && chT (.tp ts) C (.Tuple es k p))
    | _ => false)
  | .par is xs, C, st => (match st with
    | .Assign [.Tuple ts _ _] (.Tuple es _ _) _ => C.calm && (chP is xs C es && (chNs is C ts && (noStar ts && (decide (is.length ≤ 1000) && (match swp C ts es with
      | some none => true
      | some (some ns) => decide (ns = tsNames ts) && (decide (is.length = 2 ∨ is.length = 3) && (decide ((is.map (·.1)).Nodup) && (ns.all fun y => decide (C.sc.names.lookup y = some .local))))
      | none => false)))))
    | _ => false)
  | .xpr s, C, st => (match st with
    | .Expr e _ => notComp e && chSE s C e
    | _ => false)
  | .app i s, C, st => (match st with
    | .Expr (.Call (.Attribute (.Name x _) n apos) [e] [] cpos) _ => decide (n = "append") && (C.vis i x && ((apos.endLine == cpos.line) && (!isStar e && chSE s C e)))
    | _ => false)
  | .ext i a, C, st => (match st with
    | .Expr (.Call (.Attribute (.Name x _) n apos) [e] [] cpos) _ => decide (n = "extend") && (C.vis i x && ((apos.endLine == cpos.line) && (!isStar e && chE a C e)))
    | _ => false)
  | .sub i a x, C, st => (match st with
    | .Assign [.Subscript (.Name n _) ea _] e _ => C.vis i n && (notSlc ea && (notComp e && (chE a C ea && chE x C e)))
    | _ => false)
  | .aug i o x, C, st => (match st with
    | .AugAssign (.Name y _) op e _ => decide (op = opA o) && (C.loc i y && chE x C e)
    | _ => false)
  | .rsb r a x, C, st => (match st with
    | .Assign [.Subscript er ea _] e _ => notSlc ea && (notComp e && (chE r C er && (chE a C ea && chE x C e)))
    | _ => false)
  | .rpp r a, C, st => (match st with
    | .Expr (.Call (.Attribute er n apos) [e] [] cpos) _ => decide (n = "pop") && (notCallE er && ((apos.endLine == cpos.line) && (!isStar e && (chE r C er && chE a C e))))
    | _ => false)
  | .ite c a b, C, st => (match st with
    | .If ec sa sb _ => isT ec && (chE c C ec && (chSs a C sa && chSs b C sb))
    | _ => false)
  | .for_ t it b, C, st => (match st with
    | .For et ei sb [] _ => C.calm && (notSetE ei && (chI it C et ei && (chT t C et && chSs b C sb)))
    | _ => false)
  | .whl c b, C, st => (match st with
    | .While ec sb [] _ => C.calm && (isT ec && (chE c C ec && chSs b C sb))
    | _ => false)
  | .ret s, C, st => (match st with
    | .Return (some e) _ => chSE s C e
    | _ => false)
  | .retN, _, st => (match st with
    | .Return none _ => true
    | _ => false)
  | .raise c, C, st => (match st with
    | .Raise (some (.Call (.Name x _) [] [] _)) none _ => C.calm && (C.gl x && (!(x == ("__debug__" : Str)) && decide (C.G.cls[c]? = some x)))
    | _ => false)
  | .pas, _, st => (match st with
    | .Pass _ => true
    | _ => false)
  | .brk, _, st => (match st with
    | .Break _ => true
    | _ => false)
  | .cnt, _, st => (match st with
    | .Continue _ => true
    | _ => false)
  | .su2 .., _, _ => false
  | .asb i a o x, C, st => (match st with
    | .AugAssign (.Subscript (.Name n _) ea _) op e _ => decide (op = opA o) && (C.vis i n && (notSlc ea && (chE a C ea && chE x C e)))
    | _ => false)
  | .esc _, _, _ => false
  | .kil _, _, _ => true
  | .tryx tk x j y xs, C, st => (match st with
    | .Try [b] [.ExceptHandler (some (.Name z _)) (some n) (b0 :: suite) _] [] [] _ => C.cat && (C.calm && (decide (z = y) && (decide (y = C.G.cx) && (C.gl y && (!(y == ("__debug__" : Str)) && (decide (C.N[j]? = some n) && (decide (C.sc.names.lookup n = some .local) && (chTk tk x C b && chSs xs C.suite (b0 :: suite)))))))))
    | _ => false)
def chSs : Sms → Cs → List Stmt → Bool
  | .nil, _, ss => ss.isEmpty
  | .cons s ss, C, ts => (match s with
    | .esc _ => chSs ss C ts
    | _ => (match ts with
      | t :: ts => chS s C t && chSs ss C ts
      | [] => false))
end
end Cw

end
section
/-! CwY: own syntax keeps its word: statements. -/
namespace Cw
open PySem L2 PyProof.Rows PySem.W
/-- a def's body -/
structure OkS (F : Fx) (ck : Nat → List D → RH → Res D) (k : Nat) (W : XW) (C : Cs) (X : Cx) : Prop where
  ok : Ok F ck k W C X
  pass : C.calm = true → PassesOwn (model X.prog X.w) X.A X.env X.xe
  try_ : C.cat = true → F.er = none ∧ X.stack = X.env :: X.outer ∧ X.env.frame = some X.env.locals ∧ ∃ Cx, X.mg C.G.cx = some (.ref Cx) ∧ ∀ c Cc, F.ca c = some Cc → exmOne X.K (.ref Cc) (.ref Cx) = some true ∧
    ∀ (a : Addr) (oe : Obj) (pn : List (Addr × Obj)), Zc (.ref Cc) none oe → (∃ vs, oe.data = .fields vs) → CallR (X.suite a ((a, oe) :: pn)) (.builtin "isinstance") (rIsE X.K Cc a)
  cls : C.calm = true → ∀ (c : Nat) (x : Str), C.G.cls[c]? = some x → ∃ Cc, X.mg x = some (.ref Cc) ∧ F.ca c = some Cc ∧ PySem.W.excIn X.K Cc He.veBase "ValueError.__new__" = true ∧ PySem.W.keepIn X.K (.ref Cc) = true ∧ Raises X (.ref Cc)
section
variable {F : Fx} {ck : Nat → List D → RH → Res D} {fu k : Nat} {W : XW} {C : Cs} {X : Cx} {e : Expr} {es : List Expr} {pos : Pos}
theorem snd_retE {s : SE} (hs : ∀ σ R, exec ck fu (.ret s) σ R = (evSE ck s σ R).bind fun p R => .ok (.rt p.1, p.2) R) (h : PE X e (tSE F W ck s)) : PS X (.Return (some e) pos) (tSt F W ck fu (.ret s)) :=
  PS.by (ps_ret h) fun Dn σV H ⟨A, ρ, al, σ, R, r, p⟩ => ⟨A, ρ, al, σ, R, r, by
    rw [hs] at p
    cases q : evSE ck s σ R with
    | ok a R' =>
      obtain ⟨d, σ'⟩ := a
      rw [q] at p
      exact fun v H' ρ' r' q' => p v ρ' al σ' σV H' r' q'
    | exc c R' => rw [q] at p; exact fun H' ρ' σ' a => p ρ' al σ' σV H' a
    | bad => rw [q] at p; exact p⟩
theorem chP_ok (ok : Ok F ck k W C X) : ∀ {is : List (Nat × Bool)} {xs : Exs} {es : List Expr}, chP is xs C es = true → PA X es (tP F W ck is xs)
  | [], .nil, es, h => by
    simp only [chP] at h
    rw [List.isEmpty_iff.mp h]
    exact snd_nilP
  | [], .cons _ _, es, h => by simp [chP] at h
  | _ :: _, .nil, es, h => by simp [chP] at h
  | (i, b) :: is, .cons x xs, [], h => by simp [chP] at h
  | (i, b) :: is, .cons x xs, e :: es, h => by
    simp only [chP] at h
    obtain ⟨h1, h2⟩ := band h
    obtain ⟨h2, h3⟩ := band h2
    cases b with
    | true =>
      rw [if_pos rfl] at h2
      exact snd_consPo (nb h1) (sndF ok h2) (chP_ok ok h3)
    | false =>
      rw [if_neg Bool.false_ne_true] at h2
      exact snd_consPs (nb h1) (sndE x ok h2).s (chP_ok ok h3)
theorem chNs_ok (ok : Ok F ck k W C X) : ∀ {is : List (Nat × Bool)} {ts : List Expr}, chNs is C ts = true → PGs X ts (gN is) ∧ is.length = ts.length ∧ ∀ z ∈ is, z.1 < X.N.length
  | [], ts, h => by
    simp only [chNs] at h
    rw [List.isEmpty_iff.mp h]
    exact ⟨gN_nil, rfl, fun _ h => nomatch h⟩
  | (i, b) :: is, [], h => by simp [chNs] at h
  | (i, b) :: is, e :: ts, h => by
    simp only [chNs] at h
    obtain ⟨h1, h2⟩ := band h
    split at h1
    · obtain ⟨l1, l2, l3⟩ := ok.loc h1
      obtain ⟨g1, g2, g3⟩ := chNs_ok ok h2
      refine ⟨gN_cons ok.nd' l1 l2 l3 g1, congrArg (· + 1) g2, fun z hz => ?_⟩
      rcases List.mem_cons.mp hz with rfl | hz
      · exact (List.getElem?_eq_some_iff.mp l1).1
      · exact g3 z hz
    · cases h1
theorem name_of {i : Nat} {e : Expr} (h : (match e with
    | .Name x _ => C.loc i x
    | _ => false) = true) : ∃ x p, e = .Name x p ∧ C.loc i x = true := by
  split at h
  · exact ⟨_, _, rfl, h⟩
  · cases h
theorem chP_len : ∀ {is : List (Nat × Bool)} {xs : Exs} {es : List Expr}, chP is xs C es = true → es.length = is.length
  | [], .nil, es, h => by
    simp only [chP] at h
    rw [List.isEmpty_iff.mp h] <;> rfl
  | [], .cons _ _, es, h => by simp [chP] at h
  | _ :: _, .nil, es, h => by simp [chP] at h
  | (i, b) :: is, .cons x xs, [], h => by simp [chP] at h
  | (i, b) :: is, .cons x xs, e :: es, h => by
    simp only [chP] at h
    obtain ⟨h1, h2⟩ := band h
    obtain ⟨h2, h3⟩ := band h2
    exact congrArg (· + 1) (chP_len h3)
theorem len2 {α : Type} : ∀ {l : List α}, l.length = 2 → ∃ a b, l = [a, b]
  | [a, b], _ => ⟨a, b, rfl⟩
theorem len3 {α : Type} : ∀ {l : List α}, l.length = 3 → ∃ a b c, l = [a, b, c]
  | [a, b, c], _ => ⟨a, b, c, rfl⟩
/-- within a try -/
theorem Ok.tr (ok : Ok F ck k W C X) (h0 : C.calm = true) {W' : XW} {pn : List (Addr × Obj)} {xe : Value → Shared → Prop} (tk : Takes (X.tr pn xe) (XW.wx F W')) : Ok F ck k W' C (X.tr pn xe) where
  K := ok.K
  calm := ok.calm
  N := ok.N
  nd := ok.nd
  sc := ok.sc
  fn := ok.fn
  hu := ok.hu
  room := ok.room
  tk := tk
  fns := fun _ i x np h => ⟨(ok.fns h0 i x np h).at_⟩
  fnv := ok.fnv
  con := ok.con
  free := ok.free
  lam := fun h => ⟨⟨(ok.lam h).1.at_⟩, (ok.lam h).2⟩
  cats := fun h i x td ws e => ⟨(ok.cats h i x td ws e).at_⟩
  act := ok.act
  err := fun h => by
    rw [h0] at h
    cases h
  sub := ok.sub
theorem chTk_ok (ok : Ok F ck k W C X) (h0 : C.calm = true) {tk : Tk} {x : Ex} {st : Stmt} (h : chTk tk x C st = true) : (∀ i, tk = .set i → i < X.N.length) ∧ ∀ (W' : XW) (pn : List (Addr × Obj)) (xe : Value → Shared → Prop), Takes (X.tr pn xe) (XW.wx F W') → PS (X.tr pn xe) st (fun D σV H => tS F W' ck x σV H (tkE tk D σV)) := by
  unfold chTk at h
  cases tk with
  | xpr =>
    simp only at h
    split at h
    · obtain ⟨h1, h2⟩ := band h
      exact ⟨fun i e => (by cases e), fun W' pn xe t => PS.by (ps_expr (sndE x (ok.tr h0 t) h2).s (sw_not h1)) fun D σV H q => q⟩
    · cases h
  | ret =>
    simp only at h
    split at h
    · exact ⟨fun i e => (by cases e), fun W' pn xe t => PS.by (ps_ret (sndE x (ok.tr h0 t) h).s) fun D σV H q => q⟩
    · cases h
  | set i =>
    simp only at h
    split at h
    · obtain ⟨h1, h2⟩ := band h
      obtain ⟨h2, h3⟩ := band h2
      obtain ⟨l1, l2, l3⟩ := ok.loc h1
      exact ⟨fun j e => (by cases e; exact (List.getElem?_eq_some_iff.mp l1).1), fun W' pn xe t => PS.by (ps_set (i := i) (ok.nd') l1 l2 (sndE x (ok.tr h0 t) h3).s (sw_not h2) l3) fun D σV H q => q⟩
    · cases h
mutual
theorem sndS : ∀ (s : Sm) {F : Fx} {W : XW} {C : Cs} {X : Cx} {st : Stmt}, OkS F ck k W C X → chS s C st = true → PS X st (tSt F W ck fu s)
  | .set i s, F, W, C, X, st, O, h => by
    have ok := O.ok
    simp only [chS] at h
    split at h
    · rename_i yn yp e0 pos0
      obtain ⟨h1, h2⟩ := band h
      obtain ⟨h2, h3⟩ := band h2
      obtain ⟨l1, l2, l3⟩ := ok.loc h1
      split at h3
      · rename_i sc ps hh
        split at h3
        · rename_i xe t it cd
          by_cases hs : swl C sc yn yp ps = true
          · exact snd_setLcS rfl (fun _ _ _ _ h => ev_lc_own h) (List.getElem?_eq_some_iff.mp l1).1 (sndLcSw ok h2 h1 hs)
          · refine snd_set ok.nd' l1 l2 l3 (sndSE ok h2) ?_
            rw [swl_ok ok.sc]
            exact congrArg _ (by simpa using hs)
        · rename_i xe t it cd
          by_cases hs : swl C sc yn yp ps = true
          · exact snd_setLcN (List.getElem?_eq_some_iff.mp l1).1 (sndLcSw ok h2 h1 hs)
          · refine snd_set ok.nd' l1 l2 l3 (sndSE ok h2) ?_
            rw [swl_ok ok.sc]
            exact congrArg _ (by simpa using hs)
        · cases h3
        · refine snd_set ok.nd' l1 l2 l3 (sndSE ok h2) ?_
          rw [swl_ok ok.sc]
          exact congrArg _ (nb h3)
      · exact snd_set ok.nd' l1 l2 l3 (sndSE ok h2) (sw_not h3)
    · cases h
  | .own i x, F, W, C, X, st, O, h => by
    have ok := O.ok
    simp only [chS] at h
    split at h
    · rename_i y py e pos
      obtain ⟨h1, h2⟩ := band h
      obtain ⟨l1, l2, l3⟩ := ok.loc h1
      by_cases hc : notComp e = true
      · exact snd_own ok.nd' l1 l2 l3 (sndF ok h2) (sw_not hc)
      · have hl : ∃ ex gs scope p, e = .ListComp ex gs scope p := by
          unfold chF at h2
          split at h2
          · split at h2 <;> first | exact absurd rfl hc | cases h2
          · split at h2 <;> first | exact absurd rfl hc | cases h2
          · split at h2 <;> first | exact absurd rfl hc | cases h2
          · split at h2 <;> first | exact absurd rfl hc | cases h2
          · split at h2
            · exact ⟨_, _, _, _, rfl⟩
            · cases h2
          · cases h2
        obtain ⟨ex, gs, scope, p, rfl⟩ := hl
        by_cases hs : swl C scope y py p = true
        · cases x <;> first | (cases h2; done) | skip
          · rename_i o a b
            cases o <;> cases h2
          · rename_i f xs
            cases f <;> first | (cases h2; done) | skip
            cases xs <;> first | (cases h2; done) | skip
            rename_i a xs
            cases xs <;> cases h2
          · exact snd_ownLc (t := fun _ _ _ => True) (List.getElem?_eq_some_iff.mp l1).1 (sndLcSw ok h2 h1 hs)
        · refine snd_own ok.nd' l1 l2 l3 (sndF ok h2) ?_
          rw [swl_ok ok.sc]
          exact congrArg _ (by simpa using hs)
    · cases h
  | .unp ts s, F, W, C, X, st, O, h => by
    have ok := O.ok
    simp only [chS] at h
    split at h
    · rename_i es kk p e pos
      obtain ⟨h1, h2⟩ := band h
      obtain ⟨h2, h3⟩ := band h2
      exact snd_unp (sndSE ok h2) (sndT ok (.tp ts) h3) sw_tup (unpOk_sw ok.sc h1) rfl
    · cases h
  | .par is xs, F, W, C, X, st, O, h => by
    have ok := O.ok
    simp only [chS] at h
    split at h
    · rename_i ts kt pt es k2 p2 pos
      obtain ⟨h0, h⟩ := band h
      obtain ⟨h1, z1⟩ := band h
      obtain ⟨h2, z2⟩ := band z1
      obtain ⟨h3, z3⟩ := band z2
      obtain ⟨h4, h5⟩ := band z3
      clear h z1 z2 z3
      obtain ⟨g1, g2, g3⟩ := chNs_ok ok h2
      have ha := chP_ok ok h1
      split at h5
      · rename_i q
        exact snd_parN ok.K (ok.calm h0) g3 (of_decide_eq_true h4) g2 h3 g1 ha (swp_ok ok.sc q)
      · rename_i ns q
        obtain ⟨m1, z1⟩ := band h5
        obtain ⟨m2, z2⟩ := band z1
        obtain ⟨m3, m4⟩ := band z2
        have e1 := of_decide_eq_true m1
        subst e1
        have nd := of_decide_eq_true m3
        have hw := swp_ok (k := kt) (p := pt) (k2 := k2) (p2 := p2) ok.sc q
        have hlo : ∀ y ∈ tsNames ts, X.env.scope.names.lookup y = some .local := fun y hy => by
          rw [ok.sc]
          exact of_decide_eq_true (List.all_eq_true.mp m4 y hy)
        have le := chP_len h1
        rcases of_decide_eq_true m2 with hl | hl
        · obtain ⟨⟨i, b⟩, ⟨j, c⟩, rfl⟩ := len2 hl
          obtain ⟨t1, t2, rfl⟩ := len2 (g2.symm.trans hl)
          obtain ⟨a, a2, rfl⟩ := len2 (le.trans hl)
          simp only [chNs] at h2
          obtain ⟨n1, z⟩ := band h2
          obtain ⟨n2, _⟩ := band z
          obtain ⟨x, px, rfl, lx⟩ := name_of n1
          obtain ⟨y, py, rfl, ly⟩ := name_of n2
          exact snd_par2 (ok.calm h0) ok.nd' (ok.loc lx).1 (ok.loc ly).1 (by simpa using nd) (hlo x (by simp [tsNames])) (hlo y (by simp [tsNames])) ha hw
        · obtain ⟨⟨i, b⟩, ⟨j, c⟩, ⟨l, d⟩, rfl⟩ := len3 hl
          obtain ⟨t1, t2, t3, rfl⟩ := len3 (g2.symm.trans hl)
          obtain ⟨a, a2, a3, rfl⟩ := len3 (le.trans hl)
          simp only [chNs] at h2
          obtain ⟨n1, z⟩ := band h2
          obtain ⟨n2, z⟩ := band z
          obtain ⟨n3, _⟩ := band z
          obtain ⟨x, px, rfl, lx⟩ := name_of n1
          obtain ⟨y, py, rfl, ly⟩ := name_of n2
          obtain ⟨w, pw, rfl, lw⟩ := name_of n3
          have nd : (i ≠ j ∧ i ≠ l) ∧ j ≠ l := by simpa using nd
          exact snd_par3 (ok.calm h0) ok.nd' (ok.loc lx).1 (ok.loc ly).1 (ok.loc lw).1 nd.1.1 nd.1.2 nd.2 (hlo x (by simp [tsNames])) (hlo y (by simp [tsNames])) (hlo w (by simp [tsNames])) ha hw
      · cases h5
    · cases h
  | .xpr s, F, W, C, X, st, O, h => by
    have ok := O.ok
    simp only [chS] at h
    split at h
    · obtain ⟨h1, h2⟩ := band h
      exact snd_xpr (sndSE ok h2) (sw_not h1)
    · cases h
  | .app i s, F, W, C, X, st, O, h => by
    have ok := O.ok
    simp only [chS] at h
    split at h
    · obtain ⟨h1, h2⟩ := band h
      obtain ⟨h2, h3⟩ := band h2
      obtain ⟨h3, h4⟩ := band h3
      obtain ⟨h4, h5⟩ := band h4
      rw [of_decide_eq_true h1]
      exact snd_app (ok.var h2) (nb h4) rfl h3 (sndSE ok h5)
    · cases h
  | .ext i a, F, W, C, X, st, O, h => by
    have ok := O.ok
    simp only [chS] at h
    split at h
    · obtain ⟨h1, h2⟩ := band h
      obtain ⟨h2, h3⟩ := band h2
      obtain ⟨h3, h4⟩ := band h3
      obtain ⟨h4, h5⟩ := band h4
      rw [of_decide_eq_true h1]
      exact snd_ext (ok.var h2) (nb h4) rfl h3 (sndE a ok h5).b
    · cases h
  | .sub i a x, F, W, C, X, st, O, h => by
    have ok := O.ok
    simp only [chS] at h
    split at h
    · obtain ⟨h1, h2⟩ := band h
      obtain ⟨h2, h3⟩ := band h2
      obtain ⟨h3, h4⟩ := band h3
      obtain ⟨h4, h5⟩ := band h4
      exact snd_sub h2 (ok.var h1) (sndE a ok h4).b (sndE x ok h5).s (sw_not h3) rfl
    · cases h
  | .aug i o x, F, W, C, X, st, O, h => by
    have ok := O.ok
    simp only [chS] at h
    split at h
    · obtain ⟨h1, h2⟩ := band h
      obtain ⟨h2, h3⟩ := band h2
      obtain ⟨l1, l2, l3⟩ := ok.loc h2
      rw [of_decide_eq_true h1]
      exact snd_aug ok.nd' l1 l2 l3 (sndE x ok h3).b
    · cases h
  | .rsb r a x, F, W, C, X, st, O, h => by
    have ok := O.ok
    simp only [chS] at h
    split at h
    · obtain ⟨h1, h2⟩ := band h
      obtain ⟨h2, h3⟩ := band h2
      obtain ⟨h3, h4⟩ := band h3
      obtain ⟨h4, h5⟩ := band h4
      exact snd_rsb h1 (sndE r ok h3).b (sndE a ok h4).b (sndE x ok h5).s (sw_not h2) rfl
    · cases h
  | .rpp r a, F, W, C, X, st, O, h => by
    have ok := O.ok
    simp only [chS] at h
    split at h
    · obtain ⟨h1, h2⟩ := band h
      obtain ⟨h2, h3⟩ := band h2
      obtain ⟨h3, h4⟩ := band h3
      obtain ⟨h4, h5⟩ := band h4
      obtain ⟨h5, h6⟩ := band h5
      rw [of_decide_eq_true h1]
      exact snd_rpp ok.K (sndE r ok h5).b (nb h4) (notCall_base h2) h3 (sndE a ok h6).b
    · cases h
  | .ite c a b, F, W, C, X, st, O, h => by
    have ok := O.ok
    simp only [chS] at h
    split at h
    · obtain ⟨h1, h2⟩ := band h
      obtain ⟨h2, h3⟩ := band h2
      obtain ⟨h3, h4⟩ := band h3
      exact snd_if ((sndE c ok h2).t h1) (sndSs a O h3) (sndSs b O h4)
    · cases h
  | .for_ t it b, F, W, C, X, st, O, h => by
    have ok := O.ok
    simp only [chS] at h
    split at h
    · obtain ⟨h0, h⟩ := band h
      obtain ⟨h1, h2⟩ := band h
      obtain ⟨h2, h3⟩ := band h2
      obtain ⟨h3, h4⟩ := band h3
      exact snd_for (O.pass h0) (ok.calm h0) (sndI it ok h2 true) (sndT ok t h3) (sndSs b O h4) (notSet_iter h1)
    · cases h
  | .whl c b, F, W, C, X, st, O, h => by
    have ok := O.ok
    simp only [chS] at h
    split at h
    · obtain ⟨h0, h⟩ := band h
      obtain ⟨h1, h2⟩ := band h
      obtain ⟨h2, h3⟩ := band h2
      exact snd_while (O.pass h0) ((sndE c ok h2).t h1) (sndSs b O h3)
    · cases h
  | .ret s, F, W, C, X, st, O, h => by
    have ok := O.ok
    simp only [chS] at h
    split at h
    · cases s with
      | ex x =>
        by_cases hv : isVar x = true
        · cases x <;> first | (cases hv; done) | skip
          simp only [chSE, chE] at h
          split at h
          · exact snd_retV (ok.var h)
          · cases h
        · exact snd_retS (by simpa using hv) (sndE x ok h).s
      | pop i => exact snd_retE (fun _ _ => rfl) (sndSE ok h)
      | popAt i a => exact snd_retE (fun _ _ => rfl) (sndSE ok h)
      | nref x => exact snd_retE (fun _ _ => rfl) (sndSE ok h)
    · cases h
  | .retN, F, W, C, X, st, O, h => by
    simp only [chS] at h
    split at h
    · exact snd_retN
    · cases h
  | .raise c, F, W, C, X, st, O, h => by
    have ok := O.ok
    simp only [chS] at h
    split at h
    · obtain ⟨h0, h⟩ := band h
      obtain ⟨h1, h2⟩ := band h
      obtain ⟨h2, h3⟩ := band h2
      obtain ⟨Cc, m1, m2, m3, m4, m5⟩ := O.cls h0 c _ (of_decide_eq_true h3)
      exact snd_raise (ok.calm h0) ok.tk (pmk_own0 PySem.F.excBase_ValueError m3 m1 m4 m5 (ok.gl h1) (nb h2)) m2
    · cases h
  | .pas, F, W, C, X, st, O, h => by
    simp only [chS] at h
    split at h
    · exact snd_pas
    · cases h
  | .brk, F, W, C, X, st, O, h => by
    simp only [chS] at h
    split at h
    · exact snd_brk
    · cases h
  | .cnt, F, W, C, X, st, O, h => by
    simp only [chS] at h
    split at h
    · exact snd_cnt
    · cases h
  | .su2 .., F, W, C, X, st, O, h => by simp [chS] at h
  | .asb i a o x, F, W, C, X, st, O, h => by
    have ok := O.ok
    simp only [chS] at h
    split at h
    · obtain ⟨h1, h2⟩ := band h
      obtain ⟨h2, h3⟩ := band h2
      obtain ⟨h3, h4⟩ := band h3
      obtain ⟨h4, h5⟩ := band h4
      rw [of_decide_eq_true h1]
      exact snd_asb ok.K h3 (ok.var h2) (sndE a ok h4).b (sndE x ok h5).b
    · cases h
  | .esc _, F, W, C, X, st, O, h => by simp [chS] at h
  | .kil _, F, W, C, X, st, O, h => ⟨fun pins s σ H D I ⟨_, _, _, _, _, _, p⟩ => p.elim⟩
  | .tryx tk x j y xs, F, W, C, X, st, O, h => by
    have ok := O.ok
    simp only [chS] at h
    split at h
    · rename_i b z zp n b0 suite hp pos
      obtain ⟨h1, z1⟩ := band h
      obtain ⟨h2, z2⟩ := band z1
      obtain ⟨h3, z3⟩ := band z2
      obtain ⟨h4, z4⟩ := band z3
      obtain ⟨h5, z5⟩ := band z4
      obtain ⟨h6, z6⟩ := band z5
      obtain ⟨h7, z7⟩ := band z6
      obtain ⟨h8, z8⟩ := band z7
      obtain ⟨h9, h10⟩ := band z8
      clear h z1 z2 z3 z4 z5 z6 z7 z8
      have e1 := of_decide_eq_true h3
      subst e1
      obtain ⟨t1, t2, t3, Cx, t4, t5⟩ := O.try_ h1
      obtain ⟨s1, s2⟩ := chTk_ok ok h2 h9
      have hN : X.N[j]? = some n := by rw [ok.N]; exact of_decide_eq_true h7
      have hln : X.env.kindOf n = some .local := by
        show X.env.scope.names.lookup n = _
        rw [ok.sc]
        exact of_decide_eq_true h8
      refine snd_tryx t1 t2 t3 ok.nd' hN hln (Names.of (ok.gl h5) (nb h6) (by rw [of_decide_eq_true h4]; exact t4)) ok.tk s1 s2 (fun a oe c Cc pn hz hf hc => ?_) (fun c Cc hc => (t5 c Cc hc).1)
      have hT : Takes (X.suite a ((a, oe) :: pn)) (XW.wx { F with er := some (a, c) } noXW) := fun u s' ⟨_, _, _, _, _, _, _, _, _, _, _, _, _, _, _, _, ⟨_, _, _, _, _, w⟩⟩ => w.elim
      have okS : Ok { F with er := some (a, c) } ck k noXW C.suite (X.suite a ((a, oe) :: pn)) := {
        K := ok.K
        calm := fun h => absurd (show false = true from h) Bool.false_ne_true
        N := ok.N
        nd := ok.nd
        sc := ok.sc
        fn := ok.fn
        hu := ok.hu
        room := fun h => absurd (show false = true from h) Bool.false_ne_true
        tk := hT
        fns := fun h => absurd (show false = true from h) Bool.false_ne_true
        fnv := ok.fnv
        con := fun x d h => let ⟨v, u, h1, h2, h3⟩ := ok.con x d h; ⟨v, u, h1, h2, fun ρ H => RD.toF (F := F) (F' := { F with er := some (a, c) }) rfl rfl (h3 ρ H)⟩
        free := ok.free
        lam := fun h => absurd (show false = true from h) Bool.false_ne_true
        cats := fun h => absurd (show false = true from h) Bool.false_ne_true
        act := fun h => absurd (show false = true from h) Bool.false_ne_true
        err := fun _ => ⟨a, c, Cc, rfl, hc, (t5 c Cc hc).2 a oe pn hz hf⟩
        sub := ok.sub }
      exact sndSs xs ⟨okS, fun h => absurd (show false = true from h) Bool.false_ne_true, fun h => absurd (show false = true from h) Bool.false_ne_true, fun h => absurd (show false = true from h) Bool.false_ne_true⟩ h10
    · cases h
theorem sndSs : ∀ (s : Sms) {F : Fx} {W : XW} {C : Cs} {X : Cx} {st : List Stmt}, OkS F ck k W C X → chSs s C st = true → PSs X st (tSts F W ck fu s)
  | .nil, F, W, C, X, st, O, h => by
    simp only [chSs] at h
    rw [List.isEmpty_iff.mp h]
    exact snd_nilSts
  | .cons s ss, F, W, C, X, st, O, h => by
    by_cases he : ∃ is, s = .esc is
    · obtain ⟨is, rfl⟩ := he
      simp only [chSs] at h
      exact snd_esc (sndSs ss O h)
    · cases st with
      | nil => cases s <;> first | (simp [chSs] at h; done) | exact absurd ⟨_, rfl⟩ he
      | cons t ts =>
        have h : chS s C t = true ∧ chSs ss C ts = true := by
          cases s <;> first | exact absurd ⟨_, rfl⟩ he | (simpa only [chSs, Bool.and_eq_true] using h)
        exact snd_consSts (sndS s O h.1) (sndSs ss O h.2)
end
end
end Cw

end
section
/-! CwZ: defs that call one another. -/
namespace Cw
open PySem PySem.Spec L2 PyProof.Rows PySem.W
/-! ### binding -/
theorem lookup_zip : ∀ {ps : List Str} {us : List Value} (pre : List (Str × Value)), us.length = ps.length → ps.Nodup → (∀ p ∈ ps, p ∉ pre.map (·.1)) →
    ps.filterMap (fun n => ((pre ++ ps.zip us).lookup n).map fun v => (n, v)) = ps.zip us
  | [], us, pre, _, _, _ => by cases us <;> rfl
  | p :: ps, [], pre, h, _, _ => by cases h
  | p :: ps, u :: us, pre, h, nd, hp => by
    obtain ⟨n1, n2⟩ := List.nodup_cons.mp nd
    have e : (pre ++ (p :: ps).zip (u :: us)).lookup p = some u := by
      have hn := hp p List.mem_cons_self
      clear hp h nd
      induction pre with
      | nil => simp [List.lookup_cons]
      | cons q pre ih =>
        obtain ⟨a, b⟩ := q
        simp only [List.map_cons, List.mem_cons, not_or] at hn
        rw [List.cons_append, List.lookup_cons]
        have : (p == a) = false := by simpa using hn.1
        rw [this]
        exact ih hn.2
    rw [List.filterMap_cons, e]
    show (p, u) :: _ = _
    rw [List.zip_cons_cons]
    congr 1
    have := lookup_zip (ps := ps) (us := us) (pre ++ [(p, u)]) (Nat.succ.inj h) n2 (fun q hq m => by
      rw [List.map_append, List.mem_append] at m
      rcases m with m | m
      · exact hp q (List.mem_cons_of_mem _ hq) m
      · have : q = p := by simpa using m
        subst this
        exact n1 hq)
    simpa using this
theorem lookup_some {ps : List Str} {us : List Value} (h : us.length = ps.length) {n : Str} (hn : n ∈ ps) : ((ps.zip us).lookup n).isNone = false := by
  induction ps generalizing us with
  | nil => cases hn
  | cons p ps ih =>
    cases us with
    | nil => cases h
    | cons u us =>
      rw [List.zip_cons_cons, List.lookup_cons]
      cases q : n == p with
      | true => rfl
      | false =>
        rcases List.mem_cons.mp hn with rfl | hn
        · simp at q
        · exact ih (Nat.succ.inj h) hn
/-- names alone -/
def plainP (pa : Arguments) (ps : List Str) : Bool := pa.posonlyargs.isEmpty && (decide (pa.args.map (·.arg) = ps) && (pa.vararg.isNone && (pa.kwonlyargs.isEmpty && (pa.kwarg.isNone && decide ps.Nodup))))
theorem bind_plain {x qual : Str} {pa : Arguments} {bd : List Stmt} {sc : Scope} {ps : List Str} (h : plainP pa ps = true) (kV doc pm : Value) (an : Option Addr) (cdv ct : Value) (us : List Value) (hl : us.length = ps.length) :
    bindArgs (PySem.W.fnOf x qual pa bd sc .none kV doc pm an cdv ct) ⟨us, []⟩ = pure (ps.zip us) := by
  unfold plainP at h
  simp only [Bool.and_eq_true, decide_eq_true_eq, List.isEmpty_iff, Option.isNone_iff_eq_none] at h
  obtain ⟨h1, h2, h3, h4, h5, h6⟩ := h
  obtain ⟨po, ar, va, ko, kd, kw, df⟩ := pa
  simp only at h1 h2 h3 h4 h5
  subst h1 h3 h4 h5
  unfold bindArgs
  have e0 : (PySem.W.fnOf x qual ⟨[], ar, none, [], kd, none, df⟩ bd sc .none kV doc pm an cdv ct).params = ⟨[], ar, none, [], kd, none, df⟩ := rfl
  have e1 : (PySem.W.fnOf x qual ⟨[], ar, none, [], kd, none, df⟩ bd sc .none kV doc pm an cdv ct).defaults = .none := rfl
  have e2 : seqItems? Value.none = pure none := rfl
  have e3 : ¬ (us.length > ps.length) := by omega
  have e4 : (ps.filter fun n => ((ps.zip us).lookup n).isNone) = [] := List.filter_eq_nil_iff.mpr fun n hn => by rw [lookup_some hl hn]; simp
  have e5 := lookup_zip (us := us) [] hl h6 (fun _ _ h => nomatch h)
  rw [List.nil_append] at e5
  simp only [e0, e1, e2, h2, List.map_nil, List.nil_append, List.append_nil, List.forIn_nil, pure_bind, Option.getD_none]
  rw [if_neg (by simp [hl])]
  simp only [List.drop_nil, List.length_nil, Nat.sub_zero, List.take_length, e4, List.isEmpty_nil, Bool.not_true, Bool.false_eq_true, if_false, List.zip_nil_right, List.forIn_nil, pure_bind, e5]
/-! ### defs -/
/-- a def of the text; lam: it makes lambdas; cat: it is a catcher, and what it tells -/
structure Df where
  x : Str
  ps : List Str
  N : List Str
  code : Sms
  lam : Bool := false
  cat : Option (Td × List D) := none
def runD (ck : Nat → List D → RH → Res D) (fu : Nat) (d : Df) (args : List D) (R : RH) : Res D :=
  if args.length = d.ps.length then
    match execs ck fu d.code (args.map Sl.sh ++ List.replicate (d.N.length - args.length) Sl.no) R with
    | .ok (.rt v, _) R' => .ok v R'
    | .ok (.nx, _) R' => .ok .non R'
    | .exc c R' => .exc c R'
    | _ => .bad
  else .bad
def callN (defs : List Df) (fu : Nat) : Nat → Nat → List D → RH → Res D
  | 0, _, _, _ => .bad
  | k + 1, f, args, R => match defs[f]? with
    | some d => if d.cat.isSome = true then .bad else runD (callN defs fu k) fu d args R
    | none => .bad
def fnScB (N ps : List Str) (sc : Scope) : Bool := decide (sc.kind = .function) && (!sc.isCoroutine && (!sc.isGenerator && (decide N.Nodup && (decide (N.take ps.length = ps) && ((ps.all fun x => isLocK true (sc.names.lookup x)) && (sc.names.all fun y => !(y.2 == .free)))))))
theorem fnSc_ok {N ps : List Str} {sc : Scope} (h : fnScB N ps sc = true) : FnScope N ps sc := by
  unfold fnScB at h
  simp only [Bool.and_eq_true, decide_eq_true_eq, Bool.not_eq_true', List.all_eq_true] at h
  obtain ⟨h1, h2, h3, h4, h5, h6, h7⟩ := h
  refine ⟨h1, h2, h3, h4, h5, fun x hx => ?_, fun y hy e => ?_⟩
  · have := h6 x hx
    unfold isLocK at this
    split at this
    · rename_i q; exact .inl q
    · rename_i q; exact .inr q
    · cases this
  · have := h7 y hy
    rw [e] at this
    cases this
/-- what a def's body is checked by -/
def Df.cs (G : Gm) (d : Df) (sc : Scope) : Cs := match d.cat with
  | none => ⟨G, d.N, sc, fun _ => true, true, d.lam, false⟩
  | some _ => ⟨{ G with fns := [] }, d.N, sc, fun _ => true, true, false, true⟩
def catOk (G : Gm) (d : Df) (sc : Scope) : Bool := match d.cat with
  | none => true
  | some _ => match d.ps with
    | [a] => (d.cs G sc).vis 0 a
    | _ => false
/-- a catcher's code tells what is told -/
def CatEv (fu : Nat) (d : Df) : Prop := ∀ (td : Td) (ws : List D), d.cat = some (td, ws) → ∀ (cal : RH → Res D) (R : RH), match cal R with
  | .ok v R' => ∃ σ, execs (fun _ _ => cal) fu d.code (.lm :: List.replicate (d.N.length - 1) .no) R = .ok (.rt (td.of v), σ) R'
  | .exc c R' => ∀ w, ws[c]? = some w → ∃ σ, execs (fun _ _ => cal) fu d.code (.lm :: List.replicate (d.N.length - 1) .no) R = .ok (.rt w, σ) R'
  | .bad => True
abbrev lamN (x : Str) : Str := x ++ ".<locals>." ++ "<lambda>"
/-- what an error's class must say -/
def excCB (K : PySem.W.Frag) (D : Addr) : Bool := decide (findIn K (.ref D) "__getattribute__" = some (some (.builtin "BaseException.__getattribute__"))) && (decide (findIn K (.ref D) "__getattr__" = some none) && (decide (subIn K (.ref D) (.type "BaseException") = some true) && (hasDictIn K D && (decide (findIn K (.ref D) "__class__" = some (some (.builtin "object.__class__"))) &&
  (decide (specialIn K (.builtin "object.__class__") "__get__" = some (some (.builtin "getset_descriptor.__get__"))) && (decide (takesIn K (.builtin "object.__class__") = some true) && decide (mroIn K D (.type "object") = some true)))))))
theorem excCB_ok {K : PySem.W.Frag} {D : Addr} (h : excCB K D = true) : ExcC K D := by
  unfold excCB at h
  simp only [Bool.and_eq_true, decide_eq_true_eq] at h
  obtain ⟨h1, h2, h3, h4, h5, h6, h7, h8⟩ := h
  exact ⟨h1, h2, h3, h4, h5, h6, h7, h8⟩
/-- a text's defs, as they stand -/
structure Text (P : Program) (w : World) (K : PySem.W.Frag) (mg : Str → Option Value) (base : Heap) (F : Fx) (G : Gm) (defs : List Df) (fu : Nat) : Prop where
  hK : F.K = K
  cre : F.cre = none
  er : F.er = none
  fns : G.fns = defs.map fun d => (d.x, d.ps.length)
  df : ∀ (i : Nat) (d : Df), defs[i]? = some d → ∃ (fa : Addr) (fd : FuncData) (pa : Arguments) (bd : List Stmt) (sc : Scope), mg d.x = some (.ref fa) ∧ F.fa i = some fa ∧ FunD K d.x d.x pa bd sc [] [] fa fd ∧ plainP pa d.ps = true ∧ fnScB d.N d.ps sc = true ∧ chSs d.code (d.cs G sc) bd = true ∧ catOk G d sc = true ∧
    (d.lam = true → ∃ c P, fd.code = .ref c ∧ LamX.TabB base mg c P ∧ (P, lamN d.x) ∈ F.T ∧ ∀ p ∈ F.T, p.1 = P → p.2 = lamN d.x)
  con : ∀ (x : Str) (d : D), (x, d) ∈ G.con → ∃ v u, mg x = some u ∧ RelV v u ∧ ConOk F v d
  free : ∀ x ∈ G.free, mg x = none
  cls : ∀ (c : Nat) (x : Str), G.cls[c]? = some x → ∃ Cc, mg x = some (.ref Cc) ∧ F.ca c = some Cc ∧ PySem.W.excIn K Cc He.veBase "ValueError.__new__" = true ∧ PySem.W.keepIn K (.ref Cc) = true ∧ PySem.W.subIn K (.ref Cc) (.type "BaseException") = some true ∧ PySem.W.typeIn K (.ref Cc) = some (.type "type")
  cats : ∀ (i : Nat) (x : Str) (td : Td) (ws : List D), G.cats[i]? = some (x, td, ws) → ∃ (j : Nat) (d : Df), defs[j]? = some d ∧ d.x = x ∧ d.cat = some (td, ws)
  sub : ∀ (x : Str) (bs : List Bool), (x, bs) ∈ G.sub → ∃ cv, ((∃ D, mg x = some (.ref D) ∧ cv = .ref D) ∨ (mg x = none ∧ ∃ t, bootBuiltins x = some (.type t) ∧ x ≠ "__name__" ∧ cv = .type t)) ∧ ∀ (c : Nat) (Cc : Addr) (w : Bool), F.ca c = some Cc → bs[c]? = some w → kitOne K (.ref Cc) cv = some w
  cx : (∃ d ∈ defs, d.cat.isSome = true) → ∃ Cx, mg G.cx = some (.ref Cx) ∧ ∀ c Cc, F.ca c = some Cc → exmOne K (.ref Cc) (.ref Cx) = some true ∧ ExcC K Cc
  ev : ∀ d ∈ defs, CatEv fu d
section
variable {P : Program} {w : World} {K : PySem.W.Frag} {mg : Str → Option Value} {base : Heap} {F : Fx} {G : Gm} {defs : List Df} {fu : Nat}
theorem start_lm : ∀ {N : List Str} {f : Addr}, 1 ≤ N.length → (L2.start N []).set 0 (some (.ref f)) = L2.start N [.ref f]
  | n :: N, f, _ => by
    unfold L2.start
    simp [List.replicate_succ]
/-- catchers keep their word -/
theorem cat_at (T : Text P w K mg base F G defs fu) {X : Cx} (hP : X.prog = P) (hw : X.w = w) (hK : X.K = K) (hm : X.mg = mg) (hb : X.base = base) {i : Nat} {x : Str} {td : Td} {ws : List D} (h : G.cats[i]? = some (x, td, ws)) : CatAt F X x td ws := by
  subst hP hw hK hm hb
  obtain ⟨j, d, hd, rfl, hc⟩ := T.cats i x td ws h
  obtain ⟨fa, fd, pa, bd, sc, h1, h2, h3, h4, h5, h6, h7, _⟩ := T.df j d hd
  have S := fnSc_ok h5
  have hcs : d.cs G sc = ⟨{ G with fns := [] }, d.N, sc, fun _ => true, true, false, true⟩ := by unfold Df.cs; rw [hc]
  unfold catOk at h7
  rw [hc] at h7
  cases hps : d.ps with
  | nil => rw [hps] at h7; cases h7
  | cons a l =>
  cases l with
  | cons b l => rw [hps] at h7; cases h7
  | nil =>
  rw [hps] at h7
  rw [hcs] at h6 h7
  obtain ⟨v1, v2⟩ := band h7
  obtain ⟨v2, v3⟩ := band v2
  obtain ⟨v3, v4⟩ := band v3
  have hN : d.N[0]? = some a := of_decide_eq_true v1
  have B := FunD.bindsN h3 (fun kV doc pm an cdv ct us hl => bind_plain h4 kV doc pm an cdv ct us hl)
  obtain ⟨oc, od, dV, kV, doc, pm, an, cdv, ct, osl, rfl, lk, hcd, _, _⟩ := h3.ex
  have hv : Vis sc a := by
    rcases S.par a (by rw [hps]; exact List.mem_cons_self) with e | e
    · exact .inl e
    · exact .inr (.inl e)
  have n1 : 1 ≤ d.N.length := (List.getElem?_eq_some_iff.mp hN).1
  refine ⟨fa, pa, bd, sc, dV, kV, doc, pm, cdv, ct, oc, an, od, osl, d.N, a, h1, h3.kp, lk, hcd, by rw [← hps]; exact B, by rw [← hps]; exact S, hN, hv, nb v3, nb v4, ?_⟩
  intro Y s H f c' q Q cal O0 ρ R t yP yw yK ym yb hroom hact hc' nd o0 rf lp post
  let F1 : Fx := { F with lm := some f, cre := some (O0, H, ρ) }
  let X1 : Cx := catCx Y d.N d.x sc fa cdv s H
  let C1 : Cs := ⟨{ G with fns := [] }, d.N, sc, fun _ => true, true, false, true⟩
  obtain ⟨Cx, x1, x2⟩ := T.cx ⟨d, List.mem_of_getElem? hd, by rw [hc]; rfl⟩
  have ok : Ok F1 (fun _ _ => cal) 0 noXW C1 X1 := {
    K := T.hK.trans yK.symm
    calm := fun _ => rfl
    N := rfl
    nd := S.nd
    sc := rfl
    fn := rfl
    hu := by have := hroom.un; show (Y.A.deeper _).units + 70 < cLine; omega
    room := fun _ => hroom.mono (by decide)
    tk := fun u s' ⟨_, _, _, _, _, _, _, _, _, _, _, _, _, _, _, _, ⟨_, _, _, _, _, w⟩⟩ => w.elim
    fns := fun _ j x np e => by
      have e : ([] : List (Str × Nat))[j]? = some (x, np) := e
      simp at e
    fnv := fun j x np e => by
      have e : ([] : List (Str × Nat))[j]? = some (x, np) := e
      simp at e
    con := fun x d h => by
      obtain ⟨v, u, g1, g2, g3⟩ := T.con x d h
      exact ⟨v, u, by show Y.mg x = _; rw [ym]; exact g1, g2, fun ρ H => RD.toF (F := F) (F' := F1) rfl rfl (g3 ρ H)⟩
    free := fun x h => by show Y.mg x = none; rw [ym]; exact T.free x h
    lam := fun h => absurd (show false = true from h) Bool.false_ne_true
    cats := fun h => absurd (show false = true from h) Bool.false_ne_true
    act := fun _ W' pn xe a' p1 p2 tk hv' => by
      obtain ⟨w1, _⟩ := band hv'
      have e : d.N[0]? = some a' := of_decide_eq_true w1
      rw [hN] at e
      cases e
      refine snd_lamc (fun _ _ => rfl) hc' (fun b m => ?_) lp (hact (XW.wx F1 W') pn xe p1 p2 tk)
      obtain ⟨k, hk⟩ := List.getElem?_of_mem m
      have hl : k < R.length := by rw [← rf.1]; exact (List.getElem?_eq_some_iff.mp hk).1
      obtain ⟨vs, g1, _⟩ := rf.2.1 k b _ hk (List.getElem?_eq_getElem hl)
      exact ⟨vs, g1⟩
    err := fun h => absurd (show true = false from h) (by simp)
    sub := fun x bs h => by
      obtain ⟨cv, g1, g2⟩ := T.sub x bs h
      refine ⟨cv, ?_, fun c Cc w e1 e2 => by show kitOne Y.K _ _ = _; rw [yK]; exact g2 c Cc w e1 e2⟩
      show (∃ D, Y.mg x = _ ∧ _) ∨ (Y.mg x = _ ∧ _)
      rw [ym]
      exact g1 }
  have O : OkS F1 (fun _ _ => cal) 0 noXW C1 X1 := ⟨ok, fun _ => passes_of rfl, fun _ => ⟨T.er, rfl, rfl, Cx, by show Y.mg G.cx = _; rw [ym]; exact x1, fun c Cc e => ⟨by show exmOne Y.K _ _ = _; rw [yK]; exact (x2 c Cc e).1, fun a oe pn hz hf => by
    have ec : ExcC X1.K Cc := by show ExcC Y.K Cc; rw [yK]; exact (x2 c Cc e).2
    exact call_isE ec hz hf⟩⟩, fun _ c x e => by
    obtain ⟨Cc, m1, m2, m3, m4, m5, m6⟩ := T.cls c x e
    refine ⟨Cc, by show Y.mg x = _; rw [ym]; exact m1, m2, by show excIn Y.K _ _ _ = _; rw [yK]; exact m3, by show keepIn Y.K _ = _; rw [yK]; exact m4, ?_⟩
    have m5' : subIn X1.K (.ref Cc) (.type "BaseException") = some true := by show subIn Y.K _ _ = _; rw [yK]; exact m5
    have m6' : typeIn X1.K (.ref Cc) = some (.type "type") := by show typeIn Y.K _ = _; rw [yK]; exact m6
    exact raises_own m5' m6'⟩
  refine ⟨tSts F1 noXW (fun _ _ => cal) fu d.code, sndSs d.code O h6, ?_⟩
  have r0 := rel_start (F := F1) (N := d.N) (vs := []) (ds := []) nd o0 (Refs.toF (F := F) (F' := F1) rfl rfl rfl rf) .nil (Nat.zero_le _) (fun O1 H1 ρ1 e => by
    cases e
    exact ⟨fun b hb => .inl hb, Ext.refl⟩)
  have r1 := r0.setLm (f := f) rfl (by rw [gS_start]; rfl) (by
    show 0 < (L2.start d.N []).length
    unfold L2.start
    simp
    omega)
  rw [start_lm n1] at r1
  have eσ : sS (([] : List D).map Sl.sh ++ List.replicate (d.N.length - ([] : List D).length) Sl.no) 0 .lm = .lm :: List.replicate (d.N.length - 1) .no := by
    obtain ⟨n, hn⟩ : ∃ n, d.N.length = n + 1 := ⟨d.N.length - 1, by omega⟩
    rw [hn]
    rfl
  rw [eσ] at r1
  refine ⟨⟨O0, H, ρ⟩, ρ, _, _, R, r1, ?_⟩
  have ev := T.ev d (List.mem_of_getElem? hd) td ws hc cal R
  have fin : ∀ {dv : D} {σ' : List Sl} {R' : RH}, (∀ v H' ρ', Ext ρ H ρ' H' → ρ'.Nodup → Refs F ρ' R' (mask H' (O0 ++ ρ')) H' → RD F ρ' (mask H' (O0 ++ ρ')) v dv → Q v H') → PostS F1 ⟨O0, H, ρ⟩ noXW (.ok (.rt dv, σ') R') { nx := fun _ H' => Q .non H', rt := Q } := fun {dv σ' R'} hq => by
    intro v ρ' al' σ'' σV' H' r' q'
    obtain ⟨g1, g2, g3, g4⟩ := rel_end r'
    exact hq v H' ρ' g1 g2 (Refs.toF (F := F1) (F' := F) rfl rfl rfl g3) (RD.toF (F := F1) (F' := F) rfl rfl (g4 q'))
  unfold postI triR at post
  cases z : cal R with
  | bad => rw [z] at post; exact post.elim
  | ok v R' =>
    rw [z] at post ev
    obtain ⟨σ', e⟩ := ev
    rw [e]
    exact fin post
  | exc c R' =>
    rw [z] at post ev
    cases z2 : ws[c]? with
    | none => simp only [z2] at post
    | some wd =>
      simp only [z2] at post
      obtain ⟨σ', e⟩ := ev wd z2
      rw [e]
      exact fin post
theorem defs_ok (T : Text P w K mg base F G defs fu) : ∀ (k i : Nat) (d : Df), defs[i]? = some d → ∃ (fa : Addr) (fd : FuncData), mg d.x = some (.ref fa) ∧ F.fa i = some fa ∧ FnOk P w K mg base (L2.CX P w) (3 * k) fa fd d.ps (spI F (callN defs fu k i) d.ps.length) ∧ PySem.W.keepIn K (.ref fa) = true ∧ Binds K fd d.ps [] ∧ ∃ (oc : Value) (od : Option Addr) (osl : Array (Option Value)), K.lookup fa = some ⟨oc, od, .func fd, osl⟩
  | 0, i, d, h => by
    obtain ⟨fa, fd, pa, bd, sc, h1, h2, h3, h4, h5, h6, _⟩ := T.df i d h
    refine ⟨fa, fd, h1, h2, ⟨fun vs H Q E q => ?_, fun A outer s H args us vs Q E _ _ _ _ q => ?_⟩, h3.kp, FunD.bindsN h3 (fun kV doc pm an cdv ct us hl => bind_plain h4 kV doc pm an cdv ct us hl), let ⟨oc, od, _, _, _, _, _, _, _, osl, _, lk, _⟩ := h3.ex; ⟨oc, od, osl, lk⟩⟩
    · obtain ⟨O0, ρ, R, ds, _, _, _, _, hl, _⟩ := q
      exact hl
    · obtain ⟨O0, ρ, R, ds, _, _, _, _, hl, z⟩ := q
      exact z.elim
  | k + 1, i, d, h => by
    obtain ⟨fa, fd, pa, bd, sc, h1, h2, h3, h4, h5, h6, h7, h8⟩ := T.df i d h
    have S := fnSc_ok h5
    have hz : ∀ ds R, callN defs fu (k + 1) i ds R = if d.cat.isSome = true then Res.bad else runD (callN defs fu k) fu d ds R := fun ds R => by
      show (match defs[i]? with
        | some d => if d.cat.isSome = true then Res.bad else runD (callN defs fu k) fu d ds R
        | none => .bad) = _
      rw [h]
    refine ⟨fa, fd, h1, h2, ?_, h3.kp, FunD.bindsN h3 (fun kV doc pm an cdv ct us hl => bind_plain h4 kV doc pm an cdv ct us hl), let ⟨oc, od, _, _, _, _, _, _, _, osl, _, lk, _⟩ := h3.ex; ⟨oc, od, osl, lk⟩⟩
    have len : ∀ vs H Q E, spI F (callN defs fu (k + 1) i) d.ps.length vs H Q E → vs.length = d.ps.length := fun vs H Q E ⟨O0, ρ, R, ds, _, _, _, _, hl, _⟩ => hl
    obtain ⟨oc, od, dV, kV, doc, pm, an, cdv, ct, osl, rfl, lk, hcd, _, _⟩ := h3.ex
    refine (show FnOk P w K mg base (L2.CX P w) (3 * k + 2 + 1) fa _ d.ps (spI F (callN defs fu (k + 1) i) d.ps.length) from fn_of lk hcd S len fun A outer s H vs Q E hr q => ?_)
    obtain ⟨O0, ρ, R, ds, nd, o0, rf, rd, hl, z⟩ := q
    cases hcat : d.cat with
    | some p =>
      rw [hz, hcat] at z
      exact z.elim
    | none =>
    have hcs : d.cs G sc = ⟨G, d.N, sc, fun _ => true, true, d.lam, false⟩ := by unfold Df.cs; rw [hcat]
    rw [hcs] at h6
    -- what is let out
    let W : XW := fun c _ H' => ∀ C, F.ca c = some C → E (.ref C) none H'
    have tk : Takes (cxOf (L2.CX P w) P w K mg base d.N d.x sc fa cdv A outer s H E) (XW.wx F W) := Takes.imp (takes_of rfl rfl rfl rfl) fun cls dd σ H' ⟨c, C, e1, e2, e3, w⟩ => by
      subst e1
      subst e3
      exact w C e2
    have ok : Ok F (callN defs fu k) (3 * k) W ⟨G, d.N, sc, fun _ => true, true, d.lam, false⟩ (cxOf (L2.CX P w) P w K mg base d.N d.x sc fa cdv A outer s H E) := {
      K := T.hK
      calm := fun _ => rfl
      N := rfl
      nd := S.nd
      sc := rfl
      fn := rfl
      hu := by have := hr.un; show (A.deeper _).units + 70 < cLine; omega
      room := fun _ => hr.mono (by omega)
      tk := tk
      fns := fun _ j x np e => by
        have e : G.fns[j]? = some (x, np) := e
        rw [T.fns, List.getElem?_map] at e
        cases z : defs[j]? with
        | none => rw [z] at e; cases e
        | some d' =>
          rw [z] at e
          cases e
          obtain ⟨fa', fd', m1, m2, m3, m4, m5, _⟩ := defs_ok T k j d' z
          exact ⟨fa', fd', d'.ps, m1, m3, m4, m5⟩
      fnv := fun j x np e => by
        have e : G.fns[j]? = some (x, np) := e
        rw [T.fns, List.getElem?_map] at e
        cases z : defs[j]? with
        | none => rw [z] at e; cases e
        | some d' =>
          rw [z] at e
          cases e
          obtain ⟨fa', fd', pa', bd', sc', m1, m2, _⟩ := T.df j d' z
          exact ⟨fa', m1, m2⟩
      con := T.con
      free := T.free
      lam := fun hl => by
        obtain ⟨c, P', e1, e2, e3, e4⟩ := h8 hl
        have e1 : cdv = .ref c := e1
        exact ⟨⟨c, P', e2, e1, e3, e4⟩, hr, T.cre, rfl⟩
      cats := fun _ j x td ws e => cat_at T rfl rfl rfl rfl rfl e
      act := fun h => absurd (show false = true from h) Bool.false_ne_true
      err := fun h => absurd (show true = false from h) (by simp)
      sub := T.sub }
    have O : OkS F (callN defs fu k) (3 * k) W ⟨G, d.N, sc, fun _ => true, true, d.lam, false⟩ (cxOf (L2.CX P w) P w K mg base d.N d.x sc fa cdv A outer s H E) := ⟨ok, fun _ => passes_of rfl, fun h => absurd (show false = true from h) Bool.false_ne_true, fun _ c x e => by
      obtain ⟨Cc, m1, m2, m3, m4, m5, m6⟩ := T.cls c x e
      exact ⟨Cc, m1, m2, m3, m4, raises_own m5 m6⟩⟩
    refine ⟨tSts F W (callN defs fu k) fu d.code, sndSs d.code O h6, ?_⟩
    have hps : d.ps.length ≤ d.N.length := by
      have := congrArg List.length S.pre
      rw [List.length_take] at this
      omega
    have r0 := rel_start (N := d.N) nd o0 rf rd (by rw [hl]; exact hps) (fun _ _ _ e => by rw [T.cre] at e; cases e)
    refine ⟨⟨O0, H, ρ⟩, ρ, _, _, R, r0, ?_⟩
    rw [hz, hcat] at z
    have z : (match runD (callN defs fu k) fu d ds R with
      | .ok d R' => ∀ v H' ρ', Ext ρ H ρ' H' → ρ'.Nodup → Refs F ρ' R' (mask H' (O0 ++ ρ')) H' → RD F ρ' (mask H' (O0 ++ ρ')) v d → Q v H'
      | .exc c R' => ∀ H' ρ' C, Ext ρ H ρ' H' → ρ'.Nodup → Refs F ρ' R' (mask H' (O0 ++ ρ')) H' → F.ca c = some C → E (.ref C) none H'
      | .bad => False) := z
    unfold runD at z
    have hda : ds.length = d.ps.length := by rw [← rd.length]; exact hl
    rw [if_pos hda] at z
    cases q : execs (callN defs fu k) fu d.code (ds.map Sl.sh ++ List.replicate (d.N.length - ds.length) Sl.no) R with
    | bad => rw [q] at z; exact z
    | exc c R' =>
      rw [q] at z
      intro ρ' al' σ'' σV' H' r' C hc
      obtain ⟨g1, g2, g3, g4⟩ := rel_end r'
      exact z H' ρ' C g1 g2 g3 hc
    | ok a R' =>
      obtain ⟨f, σ'⟩ := a
      rw [q] at z
      cases f with
      | nx =>
        intro ρ' al' σV' H' r'
        obtain ⟨g1, g2, g3, g4⟩ := rel_end r'
        exact z .non H' ρ' g1 g2 g3 .non
      | bk => exact z.elim
      | ct => exact z.elim
      | rt dv =>
        intro v ρ' al' σ'' σV' H' r' q'
        obtain ⟨g1, g2, g3, g4⟩ := rel_end r'
        exact z v H' ρ' g1 g2 g3 (g4 q')
end
end Cw

end
section
/-! CwEnd: the head's facts; the law. -/
namespace Cw
open PySem PySem.Spec L2 PyProof.Rows PySem.W
/-! ### constants of the module -/
mutual
def conB (K : PySem.W.Frag) : D → Value → Bool
  | .non, u => (match u with
    | .none => true
    | _ => false)
  | .bl b, u => (match u with
    | .bool c => b == c
    | _ => false)
  | .int i, u => (match u with
    | .int j _ => decide (j = i)
    | _ => false)
  | .str z, u => (match u with
    | .str y _ => decide (y = z)
    | _ => false)
  | .tup ds, u => (match u with
    | .ref a => (match K.lookup a with
      | some ⟨.type c, _, .seq its _, _⟩ => decide (c = "tuple") && (decide (its.size ≤ sizeLine) && conBs K ds its.toList)
      | _ => false)
    | _ => false)
  | _, _ => false
def conBs (K : PySem.W.Frag) : List D → List Value → Bool
  | [], us => us.isEmpty
  | d :: ds, us => (match us with
    | u :: us => conB K d u && conBs K ds us
    | [] => false)
end
mutual
theorem conB_ok {F : Fx} {K : PySem.W.Frag} (hK : F.K = K) : ∀ (d : D) {u : Value}, conB K d u = true → ∃ v, RelV v u ∧ ConOk F v d
  | .non, u, h => by
    unfold conB at h
    split at h
    · exact ⟨.non, rfl, fun _ _ => .non⟩
    · cases h
  | .bl b, u, h => by
    unfold conB at h
    split at h
    · exact ⟨.bl b, by rw [beq_iff_eq.mp h]; rfl, fun _ _ => .bl b⟩
    · cases h
  | .int i, u, h => by
    unfold conB at h
    split at h
    · rw [of_decide_eq_true h]
      exact ⟨.int i, ⟨_, rfl⟩, fun _ _ => .int i⟩
    · cases h
  | .str z, u, h => by
    unfold conB at h
    split at h
    · rw [of_decide_eq_true h]
      exact ⟨.str z, ⟨_, rfl⟩, fun _ _ => .str z⟩
    · cases h
  | .tup ds, u, h => by
    unfold conB at h
    split at h
    · rename_i a
      split at h
      · rename_i c dd its n sl q
        obtain ⟨h1, h2⟩ := band h
        obtain ⟨h2, h3⟩ := band h2
        obtain ⟨vs, r, k⟩ := conBs_ok hK ds h3
        refine ⟨.ref a, rfl, fun ρ H => .tup (vs := vs) ?_ (k ρ H)⟩
        rw [hK]
        exact .inr ⟨_, its, n, q, congrArg Value.type (of_decide_eq_true h1), rfl, of_decide_eq_true h2, r⟩
      · cases h
    · cases h
  | .lst _, u, h => by simp [conB] at h
  | .frz _, u, h => by simp [conB] at h
  | .dK _, u, h => by simp [conB] at h
  | .dT _, u, h => by simp [conB] at h
  | .ref _, u, h => by simp [conB] at h
  | .fn _, u, h => by simp [conB] at h
theorem conBs_ok {F : Fx} {K : PySem.W.Frag} (hK : F.K = K) : ∀ (ds : List D) {us : List Value}, conBs K ds us = true → ∃ vs, Vals vs us ∧ ∀ ρ H, RDs F ρ H vs ds
  | [], us, h => by
    unfold conBs at h
    rw [List.isEmpty_iff.mp h]
    exact ⟨[], .nil, fun _ _ => .nil⟩
  | d :: ds, us, h => by
    unfold conBs at h
    split at h
    · obtain ⟨h1, h2⟩ := band h
      obtain ⟨v, r, k⟩ := conB_ok hK d h1
      obtain ⟨vs, rs, ks⟩ := conBs_ok hK ds h2
      exact ⟨v :: vs, .cons r rs, fun ρ H => .cons (k ρ H) (ks ρ H)⟩
    · cases h
end
def conG (K : PySem.W.Frag) (p : Str × D) : Bool := match PySem.W.nsIn K mainGlobals p.1 with
  | some (some u) => conB K p.2 u
  | _ => false
/-! ### the Hook -/
/-- all but the empty tables -/
def noTab (g : Addr → Option Obj) : Addr → Option Obj := fun a => match g a with
  | some o => (match o.data with
    | .fields vs => if vs.size = 0 then none else some o
    | _ => some o)
  | none => none
theorem noTab_at {g : Addr → Option Obj} {a : Addr} {o : Obj} (h : noTab g a = some o) : g a = some o ∧ o.data ≠ .fields #[] := by
  unfold noTab at h
  split at h
  · rename_i u e
    split at h
    · rename_i vs q
      split at h
      · cases h
      · rename_i n
        cases h
        refine ⟨e, fun z => n ?_⟩
        rw [q] at z
        cases z
        rfl
    · rename_i n
      cases h
      exact ⟨e, fun z => n _ z⟩
  · cases h
def emptyTab (g : Addr → Option Obj) (P : Addr) : Bool := match g P with
  | some ⟨.none, none, .fields vs, sl⟩ => decide (vs.size = 0) && decide (sl.size = 0)
  | _ => false
theorem emptyTab_ok {g : Addr → Option Obj} {P : Addr} (h : emptyTab g P = true) : g P = some { cls := .none, data := .fields #[] } := by
  unfold emptyTab at h
  split at h
  · rename_i vs sl e
    obtain ⟨h1, h2⟩ := band h
    have e1 := Array.eq_empty_of_size_eq_zero (of_decide_eq_true h1)
    have e2 := Array.eq_empty_of_size_eq_zero (of_decide_eq_true h2)
    subst e1 e2
    exact e
  · cases h
/-- a def's code object and its table -/
def tabOf (K : PySem.W.Frag) (x : Str) : Option (Addr × Addr) := match K.lookup (He.ga K x) with
  | some o => (match o.data with
    | .func fd => (match fd.code with
      | .ref c => (match K.lookup c with
        | some oc => (match oc.data with
          | .fields vs => (match (vs[11]? : Option Value) with
            | some (.ref P) => some (c, P)
            | _ => none)
          | _ => none)
        | none => none)
      | _ => none)
    | _ => none)
  | none => none
theorem tabOf_ok {K : PySem.W.Frag} {x : Str} {c P : Addr} {oc : Value} {od : Option Addr} {fd : FuncData} {osl : Array (Option Value)} (h : tabOf K x = some (c, P)) (lk : K.lookup (He.ga K x) = some ⟨oc, od, .func fd, osl⟩) : fd.code = .ref c := by
  unfold tabOf at h
  rw [lk] at h
  simp only at h
  split at h
  · rename_i c' e
    split at h
    · split at h
      · split at h
        · cases h; exact e
        · cases h
      · cases h
    · cases h
  · cases h
def lams (defs : List Df) : List Df := defs.filter (·.lam)
def tabsOf (K : PySem.W.Frag) (defs : List Df) : List (Addr × Str) := (lams defs).filterMap fun d => (tabOf K d.x).map fun p => (p.2, lamN d.x)
def clsOf (K : PySem.W.Frag) (G : Gm) (c : Nat) : Option Addr := (G.cls[c]?).map fun x => He.ga K x
/-- isinstance of errors, class by class -/
def subB (K : PySem.W.Frag) (G : Gm) (p : Str × List Bool) : Bool :=
  (match PySem.W.nsIn K mainGlobals p.1 with
    | some (some (.ref D)) => (List.range p.2.length).all fun c => (match clsOf K G c with
      | some Cc => decide (kitOne K (.ref Cc) (.ref D) = p.2[c]?)
      | none => true)
    | some none => (match bootBuiltins p.1 with
      | some (.type t) => decide (p.1 ≠ "__name__") && ((He.Fa.free p.1).ok K && (List.range p.2.length).all fun c => (match clsOf K G c with
        | some Cc => decide (kitOne K (.ref Cc) (.type t) = p.2[c]?)
        | none => true))
      | _ => false)
    | _ => false)
def cxB (K : PySem.W.Frag) (G : Gm) : Bool := (match PySem.W.nsIn K mainGlobals G.cx with
  | some (some (.ref D)) => (List.range G.cls.length).all fun c => (match clsOf K G c with
    | some Cc => decide (exmOne K (.ref Cc) (.ref D) = some true) && excCB K Cc
    | none => true)
  | _ => false)
def catsB (G : Gm) (defs : List Df) : Bool := G.cats.all fun c => defs.any fun d => decide (d.x = c.1) && (match d.cat with
  | some (td, ws) => tdE td c.2.1 eqc && eqcs ws c.2.2
  | none => false)
def exB (G : Gm) (defs : List Df) (g : Addr → Option Obj) (K : PySem.W.Frag) : Bool := (defs.all fun d => (He.Fa.glo d.x).ok K) && ((G.free.all fun x => (He.Fa.free x).ok K) && ((G.cls.all fun x => (He.Fa.glo x).ok K && (He.Fa.exc x).ok K) && ((G.con.all fun p => conG K p) &&
  (((lams defs).all fun d => match tabOf K d.x with
    | some (c, P) => codeHdIn K c P && emptyTab g P
    | none => false) && ((G.sub.all fun p => subB K G p) && ((!(defs.any fun d => d.cat.isSome) || cxB K G) && ((tabsOf K defs).all fun p => (tabsOf K defs).all fun q => !(decide (p.1 = q.1)) || decide (p.2 = q.2))))))))
/-- what of it stays true -/
def exK (G : Gm) (defs : List Df) (K : PySem.W.Frag) (h : Heap) : Prop := exB G defs h.get? K = true
abbrev AlC : Type := He.AlD × Bool
def obsC (n : Nat) (fn : List He.DefD) (ex : (Addr → Option Obj) → PySem.W.Frag → Bool) (g : Addr → Option Obj) : AlC := (He.obsD [] fn (He.frG (noTab g) (He.asD g n)), ex g (He.frG (noTab g) (He.asD g n)))
theorem frT_in {as : List Addr} {h : Heap} : PySem.W.Frag.In (He.frG (noTab h.get?) as) h := fun _ _ e => (noTab_at (He.frG_at as e)).1
theorem exB_keeps {G : Gm} {defs : List Df} {h h' : Heap} {K : PySem.W.Frag} (k : ∀ b o, h.get? b = some o → h'.get? b = some o) (e : exB G defs h.get? K = true) : exB G defs h'.get? K = true := by
  unfold exB at e ⊢
  simp only [Bool.and_eq_true] at e ⊢
  obtain ⟨e1, e2, e3, e4, e5, e6⟩ := e
  refine ⟨e1, e2, e3, e4, ?_, e6⟩
  rw [List.all_eq_true] at e5 ⊢
  intro d hd
  have := e5 d hd
  split at this
  · rename_i c P q
    obtain ⟨h1, h2⟩ := band this
    simp only [Bool.and_eq_true]
    refine ⟨h1, ?_⟩
    have z := k _ _ (emptyTab_ok h2)
    unfold emptyTab
    rw [z]
    rfl
  · cases this
def hookC (n : Nat) (fn : List He.DefD) (G : Gm) (defs : List Df) : PySem.W.Hook where
  α := AlC
  obs := fun s => obsC n fn (exB G defs) s.heap.get?
  val := fun _ => (He.valD fn, true)
  says := fun _ h => ∃ (K : PySem.W.Frag), K.In h ∧ (∀ a o, K.lookup a = some o → o.data ≠ .fields #[]) ∧ He.SaysD [] fn K ∧ exB G defs h.get? K = true
  of := fun _ _ e => ⟨_, frT_in, fun _ _ e => (noTab_at (He.frG_at _ e)).2, congrArg (fun z : AlC => z.1) e, congrArg (fun z : AlC => z.2) e⟩
  keeps := fun _ _ _ ⟨K, hK, n, c, e⟩ k => ⟨K, PySem.W.Frag.In.keeps hK k, n, c, exB_keeps k e⟩
theorem obsC_eq {n : Nat} {fn : List He.DefD} {G : Gm} {defs : List Df} {g : Addr → Option Obj} {s : Shared} (h : ∀ a, g a = s.heap.get? a) : obsC n fn (exB G defs) g = (hookC n fn G defs).obs s := by
  have e : g = s.heap.get? := funext h
  rw [e] <;> rfl
/-- own defs are the text's -/
def alB (G : Gm) : List Df → List He.DefD → Bool
  | [], [] => true
  | d :: ds, e :: es => (decide (e.at_ = (d.x, none)) && (decide (e.name = d.x) && (decide (e.qual = d.x) && (e.dfl.isEmpty && (e.kwd.isEmpty && (plainP e.params d.ps && (fnScB d.N d.ps e.scope && (chSs d.code (d.cs G e.scope) e.body && catOk G d e.scope)))))))) && alB G ds es
  | _, _ => false
def fxOf (K : PySem.W.Frag) (G : Gm) (defs : List Df) : Fx := { K := K, fa := fun i => (defs[i]?).map fun d => He.ga K d.x, ca := clsOf K G, T := tabsOf K defs }
theorem alB_at {G : Gm} : ∀ {defs : List Df} {fn : List He.DefD} {i : Nat} {d : Df}, alB G defs fn = true → defs[i]? = some d → ∃ e, fn[i]? = some e ∧ e.at_ = (d.x, none) ∧ e.name = d.x ∧ e.qual = d.x ∧ e.dfl = [] ∧ e.kwd = [] ∧ plainP e.params d.ps = true ∧ fnScB d.N d.ps e.scope = true ∧ chSs d.code (d.cs G e.scope) e.body = true ∧ catOk G d e.scope = true
  | [], _, _, _, _, h => by simp at h
  | _ :: _, [], _, _, h, _ => by cases h
  | d :: ds, e :: es, 0, d', h, hd => by
    obtain ⟨h1, _⟩ := band h
    cases hd
    simp only [Bool.and_eq_true, decide_eq_true_eq, List.isEmpty_iff] at h1
    exact ⟨e, rfl, h1⟩
  | d :: ds, e :: es, i + 1, d', h, hd => by
    obtain ⟨_, h2⟩ := band h
    obtain ⟨e', g⟩ := alB_at (i := i) h2 (by simpa using hd)
    exact ⟨e', by simpa using g.1, g.2⟩
theorem mem_lams {defs : List Df} {d : Df} : d ∈ lams defs ↔ d ∈ defs ∧ d.lam = true := by
  unfold lams
  rw [List.mem_filter]
theorem tdE_eq : ∀ {a b : Td}, tdE a b eqc = true → a = b := by
  intro a b h
  cases a <;> cases b <;> simp [tdE] at h <;> first | rfl | (rw [eqc_eq h])
theorem text_of {P : Program} {w : World} {K : PySem.W.Frag} {h base : Heap} {mg : Str → Option Value} {G : Gm} {defs : List Df} {fn : List He.DefD} {fu : Nat} (X : K.In h) (N : h.Ns mainGlobals mg) (c : He.SaysD [] fn K) (x : exB G defs h.get? K = true) (al : alB G defs fn = true) (hf : G.fns = defs.map fun d => (d.x, d.ps.length))
    (hc : catsB G defs = true) (hev : ∀ d ∈ defs, CatEv fu d) (TB : ∀ d ∈ lams defs, ∀ cc P, tabOf K d.x = some (cc, P) → LamX.TabB base mg cc P) :
    Text P w K mg base (fxOf K G defs) G defs fu := by
  obtain ⟨x1, x2⟩ := band x
  obtain ⟨x2, x3⟩ := band x2
  obtain ⟨x3, x4⟩ := band x3
  obtain ⟨x4, x5⟩ := band x4
  obtain ⟨x5, x6⟩ := band x5
  obtain ⟨x6, x7⟩ := band x6
  obtain ⟨x7, x8⟩ := band x7
  refine ⟨rfl, rfl, rfl, hf, fun i d hd => ?_, fun y d hy => ?_, fun y hy => ?_, fun i y hy => ?_, fun i y td ws hy => ?_, fun y bs hy => ?_, fun hcat => ?_, hev⟩
  · obtain ⟨e, g0, g1, g2, g3, g4, g5, g6, g7, g8, g9⟩ := alB_at al hd
    obtain ⟨fd, FD⟩ := c.def_ i g0
    have a1 : He.fAd K e.at_ = He.ga K d.x := by rw [g1]; rfl
    have a2 : e.dvs K = [] := by unfold He.DefD.dvs; rw [g4]; rfl
    have a3 : e.kws K = [] := by unfold He.DefD.kws; rw [g5]; rfl
    rw [a1, a2, a3, g2, g3] at FD
    refine ⟨He.ga K d.x, fd, e.params, e.body, e.scope, He.glo_ok X N (List.all_eq_true.mp x1 d (List.mem_of_getElem? hd)), ?_, FD, g6, g7, g8, g9, fun hl => ?_⟩
    · show (defs[i]?).map _ = _
      rw [hd]
      rfl
    · have hm : d ∈ lams defs := mem_lams.mpr ⟨List.mem_of_getElem? hd, hl⟩
      have q := List.all_eq_true.mp x5 d hm
      cases z : tabOf K d.x with
      | none => rw [z] at q; cases q
      | some p =>
        obtain ⟨cc, P'⟩ := p
        obtain ⟨oc, od, _, _, _, _, _, _, _, osl, _, lk, _⟩ := FD.ex
        have hin : (P', lamN d.x) ∈ tabsOf K defs := List.mem_filterMap.mpr ⟨d, hm, by rw [z]; rfl⟩
        refine ⟨cc, P', tabOf_ok z lk, TB d hm cc P' z, hin, fun p hp e1 => ?_⟩
        have y := List.all_eq_true.mp (List.all_eq_true.mp x8 p hp) _ hin
        simp only [Bool.or_eq_true, Bool.not_eq_true', decide_eq_false_iff_not, decide_eq_true_eq] at y
        rcases y with y | y
        · exact absurd e1 y
        · exact y
  · have q := List.all_eq_true.mp x4 _ hy
    unfold conG at q
    split at q
    · rename_i u e
      obtain ⟨v, r, k⟩ := conB_ok (F := fxOf K G defs) rfl d q
      exact ⟨v, u, PySem.W.mg_of X N e, r, k⟩
    · cases q
  · exact He.free_ok X N (List.all_eq_true.mp x2 y hy)
  · obtain ⟨q1, q2⟩ := band (List.all_eq_true.mp x3 y (List.mem_of_getElem? hy))
    obtain ⟨z1, z2, z3, z4⟩ := He.exc_ok q2
    refine ⟨He.ga K y, He.glo_ok X N q1, ?_, z1, z2, z3, z4⟩
    show (G.cls[i]?).map _ = _
    rw [hy]
    rfl
  · have q := List.all_eq_true.mp hc _ (List.mem_of_getElem? hy)
    obtain ⟨d, hd, q⟩ := List.any_eq_true.mp q
    obtain ⟨q1, q2⟩ := band q
    obtain ⟨j, hj⟩ := List.getElem?_of_mem hd
    refine ⟨j, d, hj, of_decide_eq_true q1, ?_⟩
    split at q2
    · rename_i td' ws' e
      obtain ⟨w1, w2⟩ := band q2
      rw [e, tdE_eq w1, eqcs_eq w2]
    · cases q2
  · have q := List.all_eq_true.mp x6 _ hy
    have rng : ∀ {cv : Value}, ((List.range bs.length).all fun c => (match clsOf K G c with
        | some Cc => decide (kitOne K (.ref Cc) cv = bs[c]?)
        | none => true)) = true → ∀ (c : Nat) (Cc : Addr) (w : Bool), (fxOf K G defs).ca c = some Cc → bs[c]? = some w → kitOne K (.ref Cc) cv = some w := fun {cv} h c Cc w e1 e2 => by
      have z := List.all_eq_true.mp h c (List.mem_range.mpr (List.getElem?_eq_some_iff.mp e2).1)
      have e1 : clsOf K G c = some Cc := e1
      rw [e1] at z
      rw [← e2]
      exact of_decide_eq_true z
    unfold subB at q
    split at q
    · rename_i D e
      exact ⟨.ref D, .inl ⟨D, PySem.W.mg_of X N e, rfl⟩, rng q⟩
    · split at q
      · rename_i t e2
        obtain ⟨q1, q2⟩ := band q
        obtain ⟨q2, q3⟩ := band q2
        exact ⟨.type t, .inr ⟨He.free_ok X N q2, t, e2, of_decide_eq_true q1, rfl⟩, rng q3⟩
      · cases q
    · cases q
  · have q : cxB K G = true := by
      rcases Bool.or_eq_true_iff.mp x7 with z | z
      · obtain ⟨d, hd, e⟩ := hcat
        have : (defs.any fun d => d.cat.isSome) = true := List.any_eq_true.mpr ⟨d, hd, e⟩
        rw [this] at z
        cases z
      · exact z
    unfold cxB at q
    split at q
    · rename_i D e
      refine ⟨D, PySem.W.mg_of X N e, fun c Cc e1 => ?_⟩
      have e1 : clsOf K G c = some Cc := e1
      have hl : c < G.cls.length := by
        unfold clsOf at e1
        cases z : G.cls[c]? with
        | none => rw [z] at e1; cases e1
        | some y => exact (List.getElem?_eq_some_iff.mp z).1
      have z := List.all_eq_true.mp q c (List.mem_range.mpr hl)
      rw [e1] at z
      obtain ⟨z1, z2⟩ := band z
      exact ⟨of_decide_eq_true z1, excCB_ok z2⟩
    · cases q
/-! ### the end -/
/-- the law's def answers True -/
def Answers (defs : List Df) (fu k i : Nat) : Prop := ∀ ns : List Int, ns.length ≤ 63 → ∃ R', callN defs fu k i [.frz (ns.map D.int)] [] = .ok (.bl true) R'
theorem law_sp {F : Fx} {defs : List Df} {fu k i : Nat} (h : Answers defs fu k i) {H : Hp} {a : Addr} {ns : List Int} (hl : ns.length ≤ 63) (hT : LamX.Tabs F.T H) (hS : SqL F.K H a (ns.map V.int)) : spI F (callN defs fu k i) 1 [.ref a] H (fun v _ => v = .bl true) fun _ _ _ => False := by
  obtain ⟨R', e⟩ := h ns hl
  refine ⟨[], [], [], [.frz (ns.map D.int)], List.nodup_nil, (fun _ h => nomatch h), ⟨rfl, (fun i a ds h => by simp at h), hT⟩, .cons (.frz ?_ (RDs.ofInts ns)) .nil, rfl, ?_⟩
  · have k : ∀ b o, H b = some o → Nt o → mask H ([] ++ []) b = some o := fun b o h n => mask_mk (by simp) h n
    rcases hS with (h | ⟨o, h⟩) | h
    · exact .inl (.inl (k _ _ h (fun _ z => by cases z)))
    · exact .inl (.inr ⟨o, k _ _ h (fun _ z => by cases z)⟩)
    · exact .inr h
  · rw [e]
    intro v H' ρ' _ _ _ q
    cases q
    rfl
theorem law_end {l : PySem.W.OpenLaw} {q : Program} {loose : List Str} {XP : (Str → Option Value) → Heap → Prop} {d : DefRec} {k i n : Nat} {G : Gm} {defs : List Df} {fn : List He.DefD} {fu : Nat} {df : Df} {x : Str}
    (hn : l.most = some 63) (hdf : d.params.defaults = []) (hr : Room (3 * k) callerA) (al : alB G defs fn = true) (hf : G.fns = defs.map fun d => (d.x, d.ps.length)) (hc : catsB G defs = true) (hev : ∀ d ∈ defs, CatEv fu d) (hi : defs[i]? = some df) (hx : d.name = df.x) (hps : df.ps = [x])
    (h : Answers defs fu k i) : PySem.W.WalkO q loose XP (hookC n fn G defs).says l.row.toRowW d [] (fun f vs => PySem.call f vs) := by
  refine Att.attach_callB hn hdf fun w s₀ s₁ mg mb fa o pm cd doc a vs ns Gr Y ho hd hcd hmg hobj hints hlen hbits hg => ?_
  obtain ⟨K, KX, hnt, c, x0⟩ := Y
  have x5 : ∀ d ∈ lams defs, ∃ cc P, tabOf K d.x = some (cc, P) ∧ codeHdIn K cc P = true ∧ s₁.heap.get? P = some { cls := .none, data := .fields #[] } := fun d hd => by
    unfold exB at x0
    simp only [Bool.and_eq_true] at x0
    have q := List.all_eq_true.mp x0.2.2.2.2.1 d hd
    cases z : tabOf K d.x with
    | none => rw [z] at q; cases q
    | some p =>
      obtain ⟨cc, P⟩ := p
      rw [z] at q
      obtain ⟨q1, q2⟩ := band q
      exact ⟨cc, P, rfl, q1, emptyTab_ok q2⟩
  let cs : List (Addr × Addr) := (lams defs).filterMap fun d => tabOf K d.x
  have hcs : ∀ p ∈ cs, ∃ d ∈ lams defs, tabOf K d.x = some p := fun p hp => by
    obtain ⟨d, h1, h2⟩ := List.mem_filterMap.mp hp
    exact ⟨d, h1, h2⟩
  have T0 : ∀ base : Heap, (∀ p ∈ cs, LamX.TabB base mg p.1 p.2) → Text l.prog w K mg base (fxOf K G defs) G defs fu := fun base TB =>
    text_of KX Gr.T.g c x0 al hf hc hev fun d hd cc P e => TB (cc, P) (List.mem_filterMap.mpr ⟨d, hd, e⟩)
  obtain ⟨e0, g0, g1, g2, g3, g4, g5, g6, g7, g8, g9⟩ := alB_at al hi
  obtain ⟨fd, FD⟩ := c.def_ i g0
  have a1 : He.fAd K e0.at_ = He.ga K df.x := by rw [g1]; rfl
  have a2 : e0.dvs K = [] := by unfold He.DefD.dvs; rw [g4]; rfl
  have a3 : e0.kws K = [] := by unfold He.DefD.kws; rw [g5]; rfl
  rw [a1, a2, a3, g2, g3] at FD
  have hga : mg df.x = some (.ref (He.ga K df.x)) := He.glo_ok KX Gr.T.g (List.all_eq_true.mp (band x0).1 df (List.mem_of_getElem? hi))
  rw [hx, hga] at hmg
  cases hmg
  refine LamX.law_callTs (K := K) (CX := L2.CX l.prog w) (k := 3 * k) (cs := cs) (fd := fd) (x := x) (sp := spI (fxOf K G defs) (callN defs fu k i) 1) KX Gr.T.g Gr.T.b Gr.T.builtins Gr.T.nolimit hg (fun p hp => ?_) (fun p hp => ?_) (fun p hp => ?_) Gr.T.bmain hobj hints (Nat.le_trans hlen (by decide)) hr
    (fun base KB NB TB => ?_) (fun s u => ?_) (fun H hH hS => law_sp h hlen (fun p hp => ?_) hS) fun H e s' ⟨_, _, _, _, _, _, _, _, _, _, _, _, z⟩ => z
  · obtain ⟨d, hd, e⟩ := hcs p hp
    obtain ⟨cc, P, e1, _, e2⟩ := x5 d hd
    rw [e] at e1
    cases e1
    exact e2
  · cases z : K.lookup p.2 with
    | none => rfl
    | some o =>
      obtain ⟨d, hd, e⟩ := hcs p hp
      obtain ⟨cc, P, e1, _, e2⟩ := x5 d hd
      rw [e] at e1
      cases e1
      have y := KX _ _ z
      rw [e2] at y
      cases y
      exact absurd rfl (hnt _ _ z)
  · obtain ⟨d, hd, e⟩ := hcs p hp
    obtain ⟨cc, P, e1, e3, e2⟩ := x5 d hd
    rw [e] at e1
    cases e1
    exact codeHd_of_K KX e3
  · have T := T0 base TB
    obtain ⟨fa2, fd2, m1, m2, m3, _, _, oc, od, osl, lk⟩ := defs_ok T k i df hi
    rw [hga] at m1
    cases m1
    obtain ⟨oc', od', _, _, _, _, _, _, _, osl', _, lk', _⟩ := FD.ex
    rw [lk] at lk'
    cases lk'
    rw [hps] at m3
    exact m3
  · have := FunD.bindsA FD (fun kV doc pm an cdv ct us hl => bind_plain g6 kV doc pm an cdv ct us hl) s [u] (by rw [hps]; rfl)
    rw [hps] at this
    exact this
  · obtain ⟨d, hd, e⟩ := List.mem_filterMap.mp hp
    obtain ⟨cc, P, e1, _, e2⟩ := x5 d hd
    rw [e1] at e
    cases e
    exact LamX.TabS.nil (hH (cc, P) (List.mem_filterMap.mpr ⟨d, hd, e1⟩))
end Cw

end
section
/-! Cl: plain laws of the evaluator. -/
namespace Cw
open PySem L2
theorem callE {defs : List Df} {fu k i : Nat} {d : Df} {args : List D} {R : RH} (h : defs[i]? = some d) (hc : d.cat = none := by rfl) : callN defs fu (k + 1) i args R = runD (callN defs fu k) fu d args R := by
  show (match defs[i]? with
    | some d => if d.cat.isSome = true then Res.bad else runD (callN defs fu k) fu d args R
    | none => .bad) = _
  rw [h]
  simp only [hc, Option.isSome_none, Bool.false_eq_true, if_false]
section
variable {α β : Type} {R : RH}
theorem lcL_map {f : D → RH → Res (Option D)} {enc g : α → D} : ∀ {xs : List α}, (∀ x ∈ xs, f (enc x) R = .ok (some (g x)) R) → lcL f (xs.map enc) R = .ok (xs.map g) R
  | [], _ => rfl
  | x :: xs, h => by
    simp only [List.map_cons, lcL]
    rw [h x List.mem_cons_self]
    simp only
    rw [lcL_map fun y hy => h y (List.mem_cons_of_mem _ hy)]
theorem lcL_fm {f : D → RH → Res (Option D)} {enc : α → D} {o : α → Option D} : ∀ {xs : List α}, (∀ x ∈ xs, f (enc x) R = .ok (o x) R) → lcL f (xs.map enc) R = .ok (xs.filterMap o) R
  | [], _ => rfl
  | x :: xs, h => by
    simp only [List.map_cons, lcL]
    rw [h x List.mem_cons_self]
    simp only
    rw [lcL_fm fun y hy => h y (List.mem_cons_of_mem _ hy)]
    rw [List.filterMap_cons]
    cases o x <;> rfl
/-- a for without an end of its own: S by what is gathered -/
theorem forL_fold {f : D → List Sl → RH → Res (Fl × List Sl)} {enc : α → D} {S : β → List Sl} {step : β → α → β} : ∀ {xs : List α} {b : β}, (∀ b x, x ∈ xs → f (enc x) (S b) R = .ok (.nx, S (step b x)) R) → forL f (xs.map enc) (S b) R = .ok (.nx, S (xs.foldl step b)) R
  | [], b, _ => rfl
  | x :: xs, b, h => by
    simp only [List.map_cons, forL]
    rw [h b x List.mem_cons_self]
    simp only
    exact forL_fold fun b y hy => h b y (List.mem_cons_of_mem _ hy)
/-- a for with what stands: P by what has been walked -/
theorem forL_inv {f : D → List Sl → RH → Res (Fl × List Sl)} {enc : α → D} (P : List α → List Sl → RH → Prop) : ∀ {xs pre : List α} {σ : List Sl} {R : RH}, P pre σ R → (∀ pre' x post σ R, pre ++ xs = pre' ++ x :: post → P pre' σ R → ∃ σ' R', f (enc x) σ R = .ok (.nx, σ') R' ∧ P (pre' ++ [x]) σ' R') →
    ∃ σ' R', forL f (xs.map enc) σ R = .ok (.nx, σ') R' ∧ P (pre ++ xs) σ' R'
  | [], pre, σ, R, h0, _ => ⟨σ, R, rfl, by simpa using h0⟩
  | x :: xs, pre, σ, R, h0, h => by
    obtain ⟨σ1, R1, e1, p1⟩ := h pre x xs σ R rfl h0
    obtain ⟨σ2, R2, e2, p2⟩ := forL_inv P (xs := xs) (pre := pre ++ [x]) p1 fun pre' y post σ R e p => h pre' y post σ R (by rw [← e]; simp) p
    refine ⟨σ2, R2, ?_, by simpa using p2⟩
    simp only [List.map_cons, forL]
    rw [e1]
    exact e2
/-- a for that may answer -/
theorem forL_find {f : D → List Sl → RH → Res (Fl × List Sl)} {enc : α → D} {S : β → List Sl} {p : α → Bool} {r : α → D} : ∀ {xs : List α} {b : β}, (∀ b x, x ∈ xs → (p x = true → ∃ σ', f (enc x) (S b) R = .ok (.rt (r x), σ') R) ∧ (p x = false → ∃ b', f (enc x) (S b) R = .ok (.nx, S b') R)) →
    (match xs.find? p with
      | some x => ∃ σ', forL f (xs.map enc) (S b) R = .ok (.rt (r x), σ') R
      | none => ∃ b', forL f (xs.map enc) (S b) R = .ok (.nx, S b') R)
  | [], b, _ => ⟨b, rfl⟩
  | x :: xs, b, h => by
    rw [List.find?_cons]
    simp only [List.map_cons, forL]
    obtain ⟨h1, h2⟩ := h b x List.mem_cons_self
    cases q : p x with
    | true =>
      obtain ⟨σ', e⟩ := h1 q
      exact ⟨σ', by rw [e]⟩
    | false =>
      obtain ⟨b', e⟩ := h2 q
      have := forL_find (xs := xs) (b := b') fun b y hy => h b y (List.mem_cons_of_mem _ hy)
      rw [e]
      exact this
/-- a while: what stands before each turn, a measure -/
theorem whl_inv {St : Type} {c : List Sl → RH → Res D} {b : List Sl → RH → Res (Fl × List Sl)} (S : St → List Sl) (cond : St → Bool) (next : St → St) (I : St → Prop) (μ : St → Nat)
    (hc : ∀ s, I s → c (S s) R = .ok (.bl (cond s)) R) (hb : ∀ s, I s → cond s = true → b (S s) R = .ok (.nx, S (next s)) R ∧ I (next s) ∧ μ (next s) < μ s) :
    ∀ (n : Nat) (s : St), I s → μ s < n → ∃ s', whlL c b n (S s) R = .ok (.nx, S s') R ∧ I s' ∧ cond s' = false
  | 0, s, _, h => absurd h (Nat.not_lt_zero _)
  | n + 1, s, hi, h => by
    simp only [whlL]
    rw [hc s hi]
    cases q : cond s with
    | false => exact ⟨s, rfl, hi, q⟩
    | true =>
      obtain ⟨h1, h2, h3⟩ := hb s hi q
      simp only
      rw [h1]
      exact whl_inv S cond next I μ hc hb n (next s) h2 (by omega)
theorem ev_lcE {ck : Nat → List D → RH → Res D} {elt : Ex} {tg : Tg} {it : Itr} {cd : Exo} {σ : List Sl} {R R1 R2 : RH} {ds l : List D} (h1 : evi ck it σ R = .ok ds R1) (h2 : lcL (lcF ck elt tg cd σ) ds R1 = .ok l R2) : ev ck (.lc elt tg it cd) σ R = .ok (.lst l) R2 := by
  rw [ev_lc, h1]
  show (lcL (lcF ck elt tg cd σ) ds R1).bind _ = _
  rw [h2]
  rfl
theorem exec_forE {ck : Nat → List D → RH → Res D} {fu : Nat} {tg : Tg} {it : Itr} {b : Sms} {σ : List Sl} {R R1 : RH} {ds : List D} {r : Res (Fl × List Sl)} (h1 : evis ck true it σ R = .ok ds R1) (h2 : forL (forF ck fu tg b) ds σ R1 = r) : exec ck fu (.for_ tg it b) σ R = r := by
  rw [exec_for, h1]
  exact h2
end
/-! values -/
mutual
theorem deq_refl : ∀ d : D, plain d = true → deq d d = true
  | .non, _ => rfl
  | .bl b, _ => by simp [deq]
  | .int i, _ => by simp [deq]
  | .str x, _ => by simp [deq]
  | .tup xs, h => by
    simp only [deq]
    exact deqs_refl xs (by simpa [plain] using h)
  | .lst xs, h => by
    simp only [deq]
    exact deqs_refl xs (by simpa [plain] using h)
  | .dK _, h => by simp [plain] at h
  | .dT _, h => by simp [plain] at h
  | .ref _, h => by simp [plain] at h
  | .fn _, h => by simp [plain] at h
  | .frz _, h => by simp [plain] at h
theorem deqs_refl : ∀ l : List D, plains l = true → deqs l l = true
  | [], _ => rfl
  | x :: l, h => by
    simp only [plains, Bool.and_eq_true] at h
    simp only [deqs, Bool.and_eq_true]
    exact ⟨deq_refl x h.1, deqs_refl l h.2⟩
end
theorem intsD_map : ∀ l : List Int, intsD (l.map D.int) = some l
  | [] => rfl
  | i :: l => by simp [intsD, intsD_map l]
theorem blsD_map : ∀ l : List Bool, blsD (l.map D.bl) = some l
  | [] => rfl
  | i :: l => by simp [blsD, blsD_map l]
theorem intsD_mapf {α : Type} (g : α → Int) : ∀ l : List α, intsD (l.map fun x => D.int (g x)) = some (l.map g)
  | [] => rfl
  | i :: l => by simp [intsD, intsD_mapf g l]
theorem blsD_mapf {α : Type} (g : α → Bool) : ∀ l : List α, blsD (l.map fun x => D.bl (g x)) = some (l.map g)
  | [] => rfl
  | i :: l => by simp [blsD, blsD_mapf g l]
/-- a stretch of numbers -/
def ir (a : Int) (n : Nat) : List Int := (List.range n).map fun i => a + (i : Nat)
theorem rngI_ir (a : Int) (n : Nat) : rngI a n = (ir a n).map D.int := by
  rw [rngI_eq, ir, List.map_map]
  rfl
theorem mem_ir {a : Int} {n : Nat} {x : Int} : x ∈ ir a n ↔ a ≤ x ∧ x < a + n := by
  unfold ir
  rw [List.mem_map]
  constructor
  · rintro ⟨i, hi, rfl⟩
    have := List.mem_range.mp hi
    omega
  · rintro ⟨h1, h2⟩
    exact ⟨(x - a).toNat, List.mem_range.mpr (by omega), by omega⟩
theorem plains_map {α : Type} {f : α → D} (h : ∀ x, plain (f x) = true) : ∀ l : List α, plains (l.map f) = true
  | [] => rfl
  | x :: l => by simp [plains, h x, plains_map h l]
theorem deps_map {α : Type} {f : α → D} {n : Nat} (h : ∀ x, dep (f x) ≤ n) : ∀ l : List α, deps (l.map f) ≤ n
  | [] => Nat.zero_le _
  | x :: l => by
    simp only [List.map_cons, deps]
    exact Nat.max_le.mpr ⟨h x, deps_map h l⟩
theorem deqI (i j : Int) : deq (.int i) (.int j) = decide (i = j) := rfl
theorem deqB (i j : Bool) : deq (.bl i) (.bl j) = decide (i = j) := by cases i <;> cases j <;> rfl
theorem deqS (x y : Str) : deq (.str x) (.str y) = decide (x = y) := by
  simp only [deq]
  by_cases h : x = y
  · subst h; simp
  · simp [h]
theorem deqT (x y : List D) : deq (.tup x) (.tup y) = deqs x y := by simp only [deq]
theorem deqL (x y : List D) : deq (.lst x) (.lst y) = deqs x y := by simp only [deq]
theorem deqNN : deq .non .non = true := rfl
theorem deqNT (x : List D) : deq .non (.tup x) = false := rfl
theorem deqTN (x : List D) : deq (.tup x) .non = false := rfl
theorem deqNI (x : Int) : deq .non (.int x) = false := rfl
theorem deqIN (x : Int) : deq (.int x) .non = false := rfl
theorem stk_var {i : Nat} {σ : List Sl} {r : Res D} : stx (.var i) σ r = if isOw (gS σ i) = true then .bad else r := rfl
theorem stk_con {d : D} {σ : List Sl} {r : Res D} : stx (.con d) σ r = r := rfl
theorem stk_tup {es : Exs} {σ : List Sl} {r : Res D} : stx (.tup es) σ r = r := rfl
theorem stk_lst {es : Exs} {σ : List Sl} {r : Res D} : stx (.lst es) σ r = r := rfl
theorem stk_bin {o : Bop} {a : Ex} {b : Ex} {σ : List Sl} {r : Res D} : stx (.bin o a b) σ r = r := rfl
theorem stk_neg {a : Ex} {σ : List Sl} {r : Res D} : stx (.neg a) σ r = r := rfl
theorem stk_cmp {o : Cop} {a : Ex} {b : Ex} {σ : List Sl} {r : Res D} : stx (.cmp o a b) σ r = r := rfl
theorem stk_ch2 {o : Cop} {p : Cop} {a : Ex} {b : Ex} {c : Ex} {σ : List Sl} {r : Res D} : stx (.ch2 o p a b c) σ r = r := rfl
theorem stk_and {a : Ex} {es : Exs} {σ : List Sl} {r : Res D} : stx (.and a es) σ r = r := rfl
theorem stk_or {a : Ex} {es : Exs} {σ : List Sl} {r : Res D} : stx (.or a es) σ r = r := rfl
theorem stk_not {a : Ex} {σ : List Sl} {r : Res D} : stx (.not a) σ r = r := rfl
theorem stk_ite {c : Ex} {a : Ex} {b : Ex} {σ : List Sl} {r : Res D} : stx (.ite c a b) σ r = r := rfl
theorem stk_call {f : Nat} {es : Exs} {σ : List Sl} {r : Res D} : stx (.call f es) σ r = r := rfl
theorem stk_blt {f : Blt} {es : Exs} {σ : List Sl} {r : Res D} : stx (.blt f es) σ r = r := rfl
theorem stk_isi {ks : List Kd} {a : Ex} {σ : List Sl} {r : Res D} : stx (.isi ks a) σ r = r := rfl
theorem stk_meth {m : Mth} {o : Ex} {es : Exs} {σ : List Sl} {r : Res D} : stx (.meth m o es) σ r = r := rfl
theorem stk_idx {a : Ex} {i : Ex} {σ : List Sl} {r : Res D} : stx (.idx a i) σ r = r := rfl
theorem stk_slc {a : Ex} {lo : Exo} {hi : Exo} {σ : List Sl} {r : Res D} : stx (.slc a lo hi) σ r = r := rfl
theorem stk_rev {a : Ex} {σ : List Sl} {r : Res D} : stx (.rev a) σ r = r := rfl
theorem stk_lc {elt : Ex} {tg : Tg} {it : Itr} {cd : Exo} {σ : List Sl} {r : Res D} : stx (.lc elt tg it cd) σ r = r := rfl
end Cw

end
section
/-! Nx: own values by native types; judgements for expressions. -/
namespace Cw
open PySem L2
section enc
variable {α β γ δ ε : Type}
def eL (e : α → D) (l : List α) : D := .lst (l.map e)
def eT (e : α → D) (l : List α) : D := .tup (l.map e)
def eP (e : α → D) (f : β → D) (p : α × β) : D := .tup [e p.1, f p.2]
def eP3 (e : α → D) (f : β → D) (g : γ → D) (p : α × β × γ) : D := .tup [e p.1, f p.2.1, g p.2.2]
def eP4 (e : α → D) (f : β → D) (g : γ → D) (h : δ → D) (p : α × β × γ × δ) : D := .tup [e p.1, f p.2.1, g p.2.2.1, h p.2.2.2]
def eP5 (e : α → D) (f : β → D) (g : γ → D) (h : δ → D) (i : ε → D) (p : α × β × γ × δ × ε) : D := .tup [e p.1, f p.2.1, g p.2.2.1, h p.2.2.2.1, i p.2.2.2.2]
def eO (e : α → D) : Option α → D
  | none => .non
  | some a => e a
def eU (_ : Unit) : D := .non
def eId (d : D) : D := d
end enc
def bnd {α : Type} {β : Sort _} (v : α) (K : α → β) : β := K v
/-- never None -/
class NN {α : Type} (e : α → D) : Prop where nn : ∀ a, isNon (e a) = false
instance : NN D.int := ⟨fun _ => rfl⟩
instance : NN D.bl := ⟨fun _ => rfl⟩
instance : NN D.str := ⟨fun _ => rfl⟩
instance {α : Type} {e : α → D} : NN (eL e) := ⟨fun _ => rfl⟩
instance {α : Type} {e : α → D} : NN (eT e) := ⟨fun _ => rfl⟩
instance {α β : Type} {e : α → D} {f : β → D} : NN (eP e f) := ⟨fun _ => rfl⟩
instance {α β γ : Type} {e : α → D} {f : β → D} {g : γ → D} : NN (eP3 e f g) := ⟨fun _ => rfl⟩
instance {α β γ δ : Type} {e : α → D} {f : β → D} {g : γ → D} {h : δ → D} : NN (eP4 e f g h) := ⟨fun _ => rfl⟩
instance {α β γ δ ε : Type} {e : α → D} {f : β → D} {g : γ → D} {h : δ → D} {i : ε → D} : NN (eP5 e f g h i) := ⟨fun _ => rfl⟩
/-- plain, no deeper than n -/
class FT {α : Type} (e : α → D) (n : outParam Nat) : Prop where ft : ∀ a, plain (e a) = true ∧ dep (e a) ≤ n
instance : FT D.int 0 := ⟨fun _ => ⟨rfl, Nat.le_refl 0⟩⟩
instance : FT D.bl 0 := ⟨fun _ => ⟨rfl, Nat.le_refl 0⟩⟩
instance : FT eU 0 := ⟨fun _ => ⟨rfl, Nat.le_refl 0⟩⟩
theorem ft_list {α : Type} {e : α → D} {n : Nat} [h : FT e n] : ∀ l : List α, plains (l.map e) = true ∧ deps (l.map e) ≤ n
  | [] => ⟨rfl, Nat.zero_le _⟩
  | a :: l => by
    obtain ⟨h1, h2⟩ := h.ft a
    obtain ⟨h3, h4⟩ := ft_list (e := e) l
    simp only [List.map_cons, plains, deps, Bool.and_eq_true]
    exact ⟨⟨h1, h3⟩, Nat.max_le.mpr ⟨h2, h4⟩⟩
instance {α : Type} {e : α → D} {n : Nat} [FT e n] : FT (eL e) (n + 1) := ⟨fun l => by
  obtain ⟨h1, h2⟩ := ft_list (e := e) l
  simp only [eL, plain, dep]
  exact ⟨h1, Nat.succ_le_succ h2⟩⟩
instance {α : Type} {e : α → D} {n : Nat} [FT e n] : FT (eT e) (n + 1) := ⟨fun l => by
  obtain ⟨h1, h2⟩ := ft_list (e := e) l
  simp only [eT, plain, dep]
  exact ⟨h1, Nat.succ_le_succ h2⟩⟩
instance {α β : Type} {e : α → D} {f : β → D} {n m : Nat} [h1 : FT e n] [h2 : FT f m] : FT (eP e f) (max n m + 1) := ⟨fun p => by
  obtain ⟨a1, a2⟩ := h1.ft p.1
  obtain ⟨b1, b2⟩ := h2.ft p.2
  simp only [eP, plain, dep, plains, deps, a1, b1, Bool.and_self, true_and]
  omega⟩
instance {α β γ : Type} {e : α → D} {f : β → D} {g : γ → D} {n m k : Nat} [h1 : FT e n] [h2 : FT f m] [h3 : FT g k] : FT (eP3 e f g) (max n (max m k) + 1) := ⟨fun p => by
  obtain ⟨a1, a2⟩ := h1.ft p.1
  obtain ⟨b1, b2⟩ := h2.ft p.2.1
  obtain ⟨c1, c2⟩ := h3.ft p.2.2
  simp only [eP3, plain, dep, plains, deps, a1, b1, c1, Bool.and_self, true_and]
  omega⟩
instance {α β γ δ : Type} {e : α → D} {f : β → D} {g : γ → D} {i : δ → D} {n m k l : Nat} [h1 : FT e n] [h2 : FT f m] [h3 : FT g k] [h4 : FT i l] : FT (eP4 e f g i) (max n (max m (max k l)) + 1) := ⟨fun p => by
  obtain ⟨a1, a2⟩ := h1.ft p.1
  obtain ⟨b1, b2⟩ := h2.ft p.2.1
  obtain ⟨c1, c2⟩ := h3.ft p.2.2.1
  obtain ⟨d1, d2⟩ := h4.ft p.2.2.2
  simp only [eP4, plain, dep, plains, deps, a1, b1, c1, d1, Bool.and_self, true_and]
  omega⟩
instance {α : Type} {e : α → D} {n : Nat} [h : FT e n] : FT (eO e) n := ⟨fun o => match o with
  | none => ⟨rfl, Nat.zero_le _⟩
  | some a => h.ft a⟩
theorem FT.flt {α : Type} {e : α → D} {n : Nat} [h : FT e n] (hn : n ≤ 60) (a : α) : flt (e a) = true := by
  obtain ⟨h1, h2⟩ := h.ft a
  unfold Cw.flt
  simp only [h1, Bool.true_and, decide_eq_true_eq]
  omega
/-- == is = -/
class DQ {α : Type} [DecidableEq α] (e : α → D) : Prop where dq : ∀ a b, deq (e a) (e b) = decide (a = b)
instance : DQ D.int := ⟨fun _ _ => rfl⟩
instance : DQ D.bl := ⟨fun a b => deqB a b⟩
instance : DQ D.str := ⟨fun a b => deqS a b⟩
instance : DQ eU := ⟨fun a b => by simp [eU, deq]⟩
theorem dq_list {α : Type} [DecidableEq α] {e : α → D} [h : DQ e] : ∀ l m : List α, deqs (l.map e) (m.map e) = decide (l = m)
  | [], [] => rfl
  | [], _ :: _ => rfl
  | _ :: _, [] => rfl
  | a :: l, b :: m => by
    simp only [List.map_cons, deqs, h.dq a b, dq_list l m, List.cons.injEq, Bool.decide_and]
instance {α : Type} [DecidableEq α] {e : α → D} [DQ e] : DQ (eL e) := ⟨fun l m => by
  simp only [eL, deqL]
  exact dq_list l m⟩
instance {α : Type} [DecidableEq α] {e : α → D} [DQ e] : DQ (eT e) := ⟨fun l m => by
  simp only [eT, deqT]
  exact dq_list l m⟩
instance {α β : Type} [DecidableEq α] [DecidableEq β] {e : α → D} {f : β → D} [h1 : DQ e] [h2 : DQ f] : DQ (eP e f) := ⟨fun p q => by
  obtain ⟨a, b⟩ := p
  obtain ⟨c, d⟩ := q
  simp only [eP, deqT, deqs, h1.dq, h2.dq, Bool.and_true, Prod.mk.injEq, Bool.decide_and]⟩
instance {α β γ : Type} [DecidableEq α] [DecidableEq β] [DecidableEq γ] {e : α → D} {f : β → D} {g : γ → D} [h1 : DQ e] [h2 : DQ f] [h3 : DQ g] : DQ (eP3 e f g) := ⟨fun p q => by
  obtain ⟨a, b, x⟩ := p
  obtain ⟨c, d, y⟩ := q
  simp only [eP3, deqT, deqs, h1.dq, h2.dq, h3.dq, Bool.and_true, Prod.mk.injEq, Bool.decide_and]⟩
instance {α β γ δ : Type} [DecidableEq α] [DecidableEq β] [DecidableEq γ] [DecidableEq δ] {e : α → D} {f : β → D} {g : γ → D} {i : δ → D} [h1 : DQ e] [h2 : DQ f] [h3 : DQ g] [h4 : DQ i] : DQ (eP4 e f g i) := ⟨fun p q => by
  obtain ⟨a, b, x, z⟩ := p
  obtain ⟨c, d, y, w⟩ := q
  simp only [eP4, deqT, deqs, h1.dq, h2.dq, h3.dq, h4.dq, Bool.and_true, Prod.mk.injEq, Bool.decide_and]⟩
theorem deq_nonL : ∀ d : D, isNon d = false → deq .non d = false
  | .non, h => by cases h
  | .bl _, _ => rfl
  | .int _, _ => rfl
  | .str _, _ => rfl
  | .tup _, _ => rfl
  | .lst _, _ => rfl
  | .dK _, _ => rfl
  | .dT _, _ => rfl
  | .ref _, _ => rfl
  | .fn _, _ => rfl
  | .frz _, _ => rfl
theorem deq_nonR : ∀ d : D, isNon d = false → deq d .non = false
  | .non, h => by cases h
  | .bl _, _ => rfl
  | .int _, _ => rfl
  | .str _, _ => rfl
  | .tup _, _ => rfl
  | .lst _, _ => rfl
  | .dK _, _ => rfl
  | .dT _, _ => rfl
  | .ref _, _ => rfl
  | .fn _, _ => rfl
  | .frz _, _ => rfl
instance {α : Type} [DecidableEq α] {e : α → D} [h : DQ e] [n : NN e] : DQ (eO e) := ⟨fun a b => by
  cases a with
  | none => cases b with
    | none => rfl
    | some y =>
      show deq .non (e y) = _
      rw [deq_nonL _ (n.nn y)]
      rfl
  | some x => cases b with
    | none =>
      show deq (e x) .non = _
      rw [deq_nonR _ (n.nn x)]
      rfl
    | some y =>
      show deq (e x) (e y) = _
      rw [h.dq]
      simp⟩
/-- one order on native items -/
class LT2 {α : Type} (e : α → D) (lt : outParam (α → α → Bool)) : Prop where
  lt : ∀ x y, dlt (e x) (e y) = lt x y
  cm : ∀ x y, cmpb (e x) (e y) = true
def ltI (x y : Int) : Bool := decide (x < y)
def ltS (x y : PySem.Str) : Bool := decide (x.cps.toList < y.cps.toList)
def ltP {α β : Type} [DecidableEq α] [DecidableEq β] (l1 : α → α → Bool) (l2 : β → β → Bool) (p q : α × β) : Bool := if p.1 = q.1 then (if p.2 = q.2 then false else l2 p.2 q.2) else l1 p.1 q.1
def ltL {α : Type} [DecidableEq α] (l : α → α → Bool) : List α → List α → Bool
  | [], [] => false
  | [], _ :: _ => true
  | _ :: _, [] => false
  | x :: xs, y :: ys => if x = y then ltL l xs ys else l x y
instance : LT2 D.int ltI := ⟨fun _ _ => rfl, fun _ _ => rfl⟩
instance : LT2 D.str ltS := ⟨fun _ _ => rfl, fun _ _ => rfl⟩
instance {α β : Type} [DecidableEq α] [DecidableEq β] {e : α → D} {f : β → D} {l1 : α → α → Bool} {l2 : β → β → Bool} [h1 : LT2 e l1] [h2 : LT2 f l2] [d1 : DQ e] [d2 : DQ f] : LT2 (eP e f) (ltP l1 l2) := ⟨fun p q => by
  obtain ⟨a, b⟩ := p
  obtain ⟨c, d⟩ := q
  simp only [eP, dlt, dlts, d1.dq, d2.dq, h1.lt, h2.lt, ltP, decide_eq_true_eq], fun p q => by
  simp only [eP, cmpb, cmpbs, h1.cm, h2.cm, Bool.and_self]⟩
def ltP3 {α β γ : Type} [DecidableEq α] [DecidableEq β] [DecidableEq γ] (l1 : α → α → Bool) (l2 : β → β → Bool) (l3 : γ → γ → Bool) (p q : α × β × γ) : Bool := if p.1 = q.1 then (if p.2.1 = q.2.1 then (if p.2.2 = q.2.2 then false else l3 p.2.2 q.2.2) else l2 p.2.1 q.2.1) else l1 p.1 q.1
instance {α β γ : Type} [DecidableEq α] [DecidableEq β] [DecidableEq γ] {e : α → D} {f : β → D} {g : γ → D} {l1 : α → α → Bool} {l2 : β → β → Bool} {l3 : γ → γ → Bool} [h1 : LT2 e l1] [h2 : LT2 f l2] [h3 : LT2 g l3] [d1 : DQ e] [d2 : DQ f] [d3 : DQ g] : LT2 (eP3 e f g) (ltP3 l1 l2 l3) := ⟨fun p q => by
  obtain ⟨a, b, c⟩ := p
  obtain ⟨a', b', c'⟩ := q
  simp only [eP3, dlt, dlts, d1.dq, d2.dq, d3.dq, h1.lt, h2.lt, h3.lt, ltP3, decide_eq_true_eq], fun p q => by
  simp only [eP3, cmpb, cmpbs, h1.cm, h2.cm, h3.cm, Bool.and_self]⟩
theorem ltL_enc {α : Type} [DecidableEq α] {e : α → D} {l : α → α → Bool} [h : LT2 e l] [d : DQ e] : ∀ xs ys : List α, dlts (xs.map e) (ys.map e) = ltL l xs ys
  | [], [] => rfl
  | [], _ :: _ => rfl
  | _ :: _, [] => rfl
  | x :: xs, y :: ys => by
    simp only [List.map_cons, dlts, d.dq, h.lt, ltL, decide_eq_true_eq, ltL_enc xs ys]
theorem cmpbs_enc {α : Type} {e : α → D} {l : α → α → Bool} [h : LT2 e l] : ∀ xs ys : List α, cmpbs (xs.map e) (ys.map e) = true
  | [], [] => rfl
  | [], _ :: _ => rfl
  | _ :: _, [] => rfl
  | x :: xs, y :: ys => by
    simp only [List.map_cons, cmpbs, h.cm, cmpbs_enc xs ys, Bool.and_self]
instance {α : Type} [DecidableEq α] {e : α → D} {l : α → α → Bool} [h : LT2 e l] [d : DQ e] : LT2 (eT e) (ltL l) := ⟨fun x y => by
  simp only [eT, dlt]
  exact ltL_enc x y, fun x y => by
  simp only [eT, cmpb]
  exact cmpbs_enc x y⟩
/-! native operations -/
def gI {α : Type} [Inhabited α] (l : List α) (i : Int) : α := (L2.atI l i).getD default
def okI {α : Type} (l : List α) (i : Int) : Prop := (L2.atI l i).isSome = true
def repL {α : Type} (l : List α) (k : Int) : List α := (List.replicate k.toNat l).flatten
def mxL : List Int → Int
  | [] => 0
  | x :: l => maxI x l
def mnL : List Int → Int
  | [] => 0
  | x :: l => minI x l
def enumI {α : Type} : Nat → List α → List (Int × α)
  | _, [] => []
  | i, x :: l => ((i : Int), x) :: enumI (i + 1) l
def idxO {α : Type} [DecidableEq α] (a : α) : List α → Option Nat
  | [] => none
  | x :: l => if x = a then some 0 else (idxO a l).map (· + 1)
theorem idxO_mem {α : Type} [DecidableEq α] {v : α} : ∀ {l : List α}, v ∈ l → ∃ j, idxO v l = some j
  | [], h => by cases h
  | x :: l, h => by
    unfold idxO
    by_cases q : x = v
    · exact ⟨0, by simp [q]⟩
    · rcases List.mem_cons.mp h with h | h
      · exact absurd h.symm q
      · obtain ⟨j, hj⟩ := idxO_mem h
        exact ⟨j + 1, by simp [q, hj]⟩
def sI {α : Type} (l : List α) (k : Int) (v : α) : List α := match ixN l.length k with
  | some j => l.set j v
  | none => l
def okS {α : Type} (l : List α) (k : Int) : Prop := (ixN l.length k).isSome = true
def rng (n : Int) : List Int := ir 0 n.toNat
def rng2 (a b : Int) : List Int := ir a (b - a).toNat
def okR (n : Int) : Prop := -(2 ^ 62) ≤ n ∧ n ≤ sizeLine
def rng3 (a b c : Int) : List Int := if c = -1 then (List.range (a - b).toNat).map fun i => a - (i : Nat) else []
def okR3 (a b c : Int) : Prop := c = -1 ∧ -(2 ^ 61) ≤ a ∧ a ≤ 2 ^ 61 ∧ -(2 ^ 61) ≤ b ∧ b ≤ 2 ^ 61 ∧ a - b ≤ PySem.sizeLine
def okR2 (a b : Int) : Prop := -(2 ^ 61) ≤ a ∧ a ≤ 2 ^ 61 ∧ -(2 ^ 61) ≤ b ∧ b ≤ 2 ^ 61 ∧ b - a ≤ sizeLine
theorem zipL_enc {α β : Type} {e : α → D} {f : β → D} : ∀ (l : List α) (m : List β), zipL (l.map e) (m.map f) = (l.zip m).map (eP e f)
  | [], _ => rfl
  | _ :: _, [] => rfl
  | a :: l, b :: m => by
    rw [List.map_cons, List.map_cons, zipL, zipL_enc l m, List.zip_cons_cons, List.map_cons]
    rfl
theorem enuL_enc {α : Type} {e : α → D} : ∀ (i : Nat) (l : List α), enuL i (l.map e) = (enumI i l).map (eP D.int e)
  | _, [] => rfl
  | i, a :: l => by
    rw [List.map_cons, enuL, enuL_enc (i + 1) l, enumI, List.map_cons]
    rfl
theorem cut_enc {α β : Type} (f : α → β) (l : List α) (lo hi : Option Int) : cut (l.map f) lo hi = (cut l lo hi).map f := by
  unfold cut
  rw [List.length_map, List.map_take, List.map_drop]
theorem atI_enc {α β : Type} (f : α → β) (l : List α) (i : Int) : L2.atI (l.map f) i = (L2.atI l i).map f := by
  unfold L2.atI
  rw [List.length_map]
  cases ixN l.length i with
  | none => rfl
  | some j => simp
theorem findD_enc {α : Type} [DecidableEq α] {e : α → D} [h : DQ e] (a : α) : ∀ l : List α, findD (e a) (l.map e) = idxO a l
  | [] => rfl
  | x :: l => by
    rw [List.map_cons, findD, h.dq, idxO, findD_enc a l]
    by_cases q : x = a <;> simp [q]
theorem any_enc {α : Type} [DecidableEq α] {e : α → D} [h : DQ e] (a : α) (l : List α) : ((l.map e).any fun y => deq y (e a)) = decide (a ∈ l) := by
  rw [List.any_map]
  have : ((fun y => deq y (e a)) ∘ e) = fun x => decide (x = a) := by
    funext x
    exact h.dq x a
  rw [this]
  induction l with
  | nil => rfl
  | cons x l ih =>
    rw [List.any_cons, ih, ← Bool.decide_or]
    simp only [List.mem_cons]
    by_cases h1 : x = a
    · subst h1; simp
    · have h2 : ¬ a = x := fun z => h1 z.symm
      simp [h1, h2]
theorem all_flt {α : Type} {e : α → D} {n : Nat} [h : FT e n] (hn : n ≤ 60) (l : List α) : (l.map e).all flt = true := by
  rw [List.all_eq_true]
  intro d hd
  obtain ⟨a, _, rfl⟩ := List.mem_map.mp hd
  exact FT.flt hn a
theorem flat_enc {α β : Type} (f : α → β) (l : List α) (n : Nat) : (List.replicate n (l.map f)).flatten = ((List.replicate n l).flatten).map f := by
  rw [List.map_flatten, List.map_replicate]
/-! expressions -/
section
variable (ck : Nat → List D → RH → Res D)
def TV {α : Type} (e : Ex) (σ : List Sl) (enc : α → D) (v : α) (p : Prop) : Prop := p → ∀ R, ev ck e σ R = .ok (enc v) R
def TVs (es : Exs) (σ : List Sl) (ds : List D) (p : Prop) : Prop := p → ∀ R, evs ck es σ R = .ok ds R
def TVb (es : Exs) (σ : List Sl) (ds : List D) (p : Prop) : Prop := p → ∀ R, evb ck es σ R = .ok ds R
def TA (es : Exs) (σ : List Sl) (b : Bool) (p : Prop) : Prop := p → ∀ R, evAnd ck es σ R = .ok (.bl b) R
def TO (es : Exs) (σ : List Sl) (b : Bool) (p : Prop) : Prop := p → ∀ R, evOr ck es σ R = .ok (.bl b) R
def TC (c : Exo) (σ : List Sl) (b : Bool) (p : Prop) : Prop := p → ∀ R, evc ck c σ R = .ok b R
def TN (o : Exo) (σ : List Sl) (x : Option Int) (p : Prop) : Prop := p → ∀ R, evo ck o σ R = .ok x R
def TI (it : Itr) (σ : List Sl) (ds : List D) (p : Prop) : Prop := p → ∀ R, evi ck it σ R = .ok ds R
def TIs (it : Itr) (σ : List Sl) (ds : List D) (p : Prop) : Prop := p → ∀ R, evis ck true it σ R = .ok ds R
end
section
variable {ck : Nat → List D → RH → Res D} {α β γ : Type} {lt : α → α → Bool} {σ : List Sl} {enc : α → D} {v : α} {p q p1 p2 p3 : Prop} {a b c : Ex} {x y z : Int} {es : Exs} {ds : List D}
theorem TV.conv {e : Ex} {enc' : β → D} {v' : β} (h : TV ck e σ enc v p) (he : enc v = enc' v') : TV ck e σ enc' v' p := fun hp R => by rw [h hp R, he]
theorem TV.wk {e : Ex} (h : TV ck e σ enc v p) (hq : q → p) : TV ck e σ enc v q := fun hp R => h (hq hp) R
theorem TV.var {i : Nat} (h : gS σ i = .sh (enc v)) : TV ck (.var i) σ enc v True := fun _ R => by
  simp only [ev, h, Sl.val, Res.of]
theorem TV.own {i : Nat} (h : gS σ i = .ow (enc v)) : TV ck (.var i) σ enc v True := fun _ R => by
  simp only [ev, h, Sl.val, Res.of]
theorem TV.con {d : D} (h : d = enc v) : TV ck (.con d) σ enc v True := fun _ R => by
  simp only [ev, h]
theorem TVs.nil : TVs ck .nil σ [] True := fun _ R => rfl
theorem TVs.cons {e : Ex} (h : TV ck e σ enc v p) (hk : ∀ r : Res D, stx e σ r = r) (t : TVs ck es σ ds q) : TVs ck (.cons e es) σ (enc v :: ds) (p ∧ q) := fun ⟨hp, hq⟩ R => by
  simp only [evs, hk, h hp R, Res.bind, t hq R]
theorem TVb.nil : TVb ck .nil σ [] True := fun _ R => rfl
theorem TVb.cons {e : Ex} (h : TV ck e σ enc v p) (t : TVb ck es σ ds q) : TVb ck (.cons e es) σ (enc v :: ds) (p ∧ q) := fun ⟨hp, hq⟩ R => by
  simp only [evb, h hp R, Res.bind, t hq R]
theorem TV.tup (h : TVs ck es σ ds p) (e : D.tup ds = enc v) : TV ck (.tup es) σ enc v p := fun hp R => by
  simp only [ev, h hp R, Res.bind, e]
theorem TV.lst (h : TVs ck es σ ds p) (e : D.lst ds = enc v) : TV ck (.lst es) σ enc v p := fun hp R => by
  simp only [ev, h hp R, Res.bind, e]
theorem TV.add (h1 : TV ck a σ .int x p) (h2 : TV ck b σ .int y q) : TV ck (.bin .add a b) σ .int (x + y) (p ∧ q) := fun ⟨hp, hq⟩ R => by
  simp only [ev, h1 hp R, h2 hq R, Res.bind, binD, Res.of]
theorem TV.sub (h1 : TV ck a σ .int x p) (h2 : TV ck b σ .int y q) : TV ck (.bin .sub a b) σ .int (x - y) (p ∧ q) := fun ⟨hp, hq⟩ R => by
  simp only [ev, h1 hp R, h2 hq R, Res.bind, binD, Res.of]
theorem TV.mul (h1 : TV ck a σ .int x p) (h2 : TV ck b σ .int y q) : TV ck (.bin .mul a b) σ .int (x * y) (p ∧ q ∧ L2.CMul x y) := fun ⟨hp, hq, hc⟩ R => by
  simp only [ev, h1 hp R, h2 hq R, Res.bind, binD, hc, decide_true, if_true, Res.of]
/-- by a small constant -/
theorem TV.mulR (hx : L2.CMul x y) (h1 : TV ck a σ .int x p) (h2 : TV ck b σ .int y q) : TV ck (.bin .mul a b) σ .int (x * y) (p ∧ q) := fun ⟨hp, hq⟩ R => by
  simp only [ev, h1 hp R, h2 hq R, Res.bind, binD, hx, decide_true, if_true, Res.of]
theorem TV.fdiv (h1 : TV ck a σ .int x p) (h2 : TV ck b σ .int y q) : TV ck (.bin .fdiv a b) σ .int (x.fdiv y) (p ∧ q ∧ L2.CDivN x y) := fun ⟨hp, hq, hc⟩ R => by
  simp only [ev, h1 hp R, h2 hq R, Res.bind, binD, hc, decide_true, if_true, Res.of]
theorem TV.mod (h1 : TV ck a σ .int x p) (h2 : TV ck b σ .int y q) : TV ck (.bin .mod a b) σ .int (x.fmod y) (p ∧ q ∧ y ≠ 0) := fun ⟨hp, hq, hc⟩ R => by
  simp only [ev, h1 hp R, h2 hq R, Res.bind, binD, hc, if_false, Res.of]
theorem TV.pow (h1 : TV ck a σ .int x p) (h2 : TV ck b σ .int y q) : TV ck (.bin .pow a b) σ .int (x ^ y.toNat) (p ∧ q ∧ L2.CPow x y) := fun ⟨hp, hq, hc⟩ R => by
  simp only [ev, h1 hp R, h2 hq R, Res.bind, binD, hc, decide_true, if_true, Res.of]
theorem TV.addL {l m : List α} (h1 : TV ck a σ (eL enc) l p) (h2 : TV ck b σ (eL enc) m q) : TV ck (.bin .add a b) σ (eL enc) (l ++ m) (p ∧ q ∧ l.length + m.length ≤ sizeLine) := fun ⟨hp, hq, hc⟩ R => by
  simp only [ev, h1 hp R, h2 hq R, Res.bind, eL, binD, List.length_map, hc, if_true, Res.of, List.map_append]
theorem TV.addT {l m : List α} (h1 : TV ck a σ (eT enc) l p) (h2 : TV ck b σ (eT enc) m q) : TV ck (.bin .add a b) σ (eT enc) (l ++ m) (p ∧ q ∧ l.length + m.length ≤ sizeLine) := fun ⟨hp, hq, hc⟩ R => by
  simp only [ev, h1 hp R, h2 hq R, Res.bind, eT, binD, List.length_map, hc, if_true, Res.of, List.map_append]
theorem TV.addS {s t : Str} (h1 : TV ck a σ .str s p) (h2 : TV ck b σ .str t q) : TV ck (.bin .add a b) σ .str (s ++ t) (p ∧ q ∧ s.length + t.length ≤ sizeLine) := fun ⟨hp, hq, hc⟩ R => by
  simp only [ev, h1 hp R, h2 hq R, Res.bind, binD, hc, if_true, Res.of]
theorem TV.rep {l : List α} (h1 : TV ck a σ (eL enc) l p) (h2 : TV ck b σ .int y q) : TV ck (.bin .mul a b) σ (eL enc) (repL l y) (p ∧ q ∧ (-(2 ^ 63) ≤ y ∧ y < 2 ^ 63 ∧ l.length * y.toNat ≤ sizeLine)) := fun ⟨hp, hq, c1, c2, c3⟩ R => by
  have c : (decide (-(2 ^ 63) ≤ y) && decide (y < 2 ^ 63) && decide ((l.map enc).length * y.toNat ≤ sizeLine)) = true := by
    rw [List.length_map]
    simp only [c1, c2, c3, decide_true, Bool.and_self]
  simp only [ev, h1 hp R, h2 hq R, Res.bind, eL, binD]
  rw [if_pos c, flat_enc]
  rfl
theorem TV.repT {l : List α} (h1 : TV ck a σ (eT enc) l p) (h2 : TV ck b σ .int y q) : TV ck (.bin .mul a b) σ (eT enc) (repL l y) (p ∧ q ∧ (l ≠ [] ∧ 2 ≤ y ∧ y ≤ 1000 ∧ l.length ≤ 1000)) := fun ⟨hp, hq, c0, c1, c2, c3⟩ R => by
  have c : (!(l.map enc).isEmpty && (decide (2 ≤ y) && (decide (y ≤ 1000) && decide ((l.map enc).length ≤ 1000)))) = true := by
    rw [List.length_map]
    cases l with
    | nil => exact absurd rfl c0
    | cons u w => simp only [List.map_cons, List.isEmpty_cons, Bool.not_false, c1, c2, c3, decide_true, Bool.and_self]
  simp only [ev, h1 hp R, h2 hq R, Res.bind, eT, binD]
  rw [if_pos c, flat_enc]
  rfl
theorem TV.neg (h1 : TV ck a σ .int x p) : TV ck (.neg a) σ .int (-x) p := fun hp R => by
  simp only [ev, h1 hp R, Res.bind, negD, Res.of]
theorem TV.not {b1 : Bool} (h1 : TV ck a σ .bl b1 p) : TV ck (.not a) σ .bl (!b1) p := fun hp R => by
  simp only [ev, h1 hp R, Res.bind, notD, Res.of]
/-- a test of two ints -/
theorem TV.cmp {o : Cop} {b1 : Bool} (h1 : TV ck a σ .int x p) (h2 : TV ck b σ .int y q) (h : cmpD o (.int x) (.int y) = some b1) : TV ck (.cmp o a b) σ .bl b1 (p ∧ q) := fun ⟨hp, hq⟩ R => by
  simp only [ev, h1 hp R, h2 hq R, Res.bind, h, Option.map, Res.of]
theorem TV.eq [DecidableEq α] {n : Nat} {w : α} [FT enc n] [DQ enc] (hn : n ≤ 60) (h1 : TV ck a σ enc v p) (h2 : TV ck b σ enc w q) : TV ck (.cmp .eq a b) σ .bl (decide (v = w)) (p ∧ q) := fun ⟨hp, hq⟩ R => by
  have f : (flt (enc v) && flt (enc w)) = true := by rw [FT.flt hn v, FT.flt hn w]; rfl
  simp only [ev, h1 hp R, h2 hq R, Res.bind, cmpD, f, if_true, Option.map, Res.of, DQ.dq]
theorem TV.ne [DecidableEq α] {n : Nat} {w : α} [FT enc n] [DQ enc] (hn : n ≤ 60) (h1 : TV ck a σ enc v p) (h2 : TV ck b σ enc w q) : TV ck (.cmp .ne a b) σ .bl (!decide (v = w)) (p ∧ q) := fun ⟨hp, hq⟩ R => by
  have f : (flt (enc v) && flt (enc w)) = true := by rw [FT.flt hn v, FT.flt hn w]; rfl
  simp only [ev, h1 hp R, h2 hq R, Res.bind, cmpD, f, if_true, Option.map, Res.of, DQ.dq]
/-- with texts: what is compared must be well formed -/
theorem TV.eqS [DecidableEq α] {w : α} [DQ enc] (h1 : TV ck a σ enc v p) (h2 : TV ck b σ enc w q) : TV ck (.cmp .eq a b) σ .bl (decide (v = w)) (p ∧ q ∧ flt (enc v) = true ∧ flt (enc w) = true) := fun ⟨hp, hq, f1, f2⟩ R => by
  have f : (flt (enc v) && flt (enc w)) = true := by rw [f1, f2]; rfl
  simp only [ev, h1 hp R, h2 hq R, Res.bind, cmpD, f, if_true, Option.map, Res.of, DQ.dq]
theorem TV.neS [DecidableEq α] {w : α} [DQ enc] (h1 : TV ck a σ enc v p) (h2 : TV ck b σ enc w q) : TV ck (.cmp .ne a b) σ .bl (!decide (v = w)) (p ∧ q ∧ flt (enc v) = true ∧ flt (enc w) = true) := fun ⟨hp, hq, f1, f2⟩ R => by
  have f : (flt (enc v) && flt (enc w)) = true := by rw [f1, f2]; rfl
  simp only [ev, h1 hp R, h2 hq R, Res.bind, cmpD, f, if_true, Option.map, Res.of, DQ.dq]
theorem isNon_eO [n : NN enc] : ∀ o : Option α, isNon (eO enc o) = o.isNone
  | none => rfl
  | some a => n.nn a
theorem TV.isN [NN enc] {o : Option α} (h1 : TV ck a σ (eO enc) o p) : TV ck (.cmp .is a (.con .non)) σ .bl o.isNone p := fun hp R => by
  simp only [ev, h1 hp R, Res.bind, cmpD, Option.map, Res.of, isNon_eO]
theorem TV.isnN [NN enc] {o : Option α} (h1 : TV ck a σ (eO enc) o p) : TV ck (.cmp .isn a (.con .non)) σ .bl o.isSome p := fun hp R => by
  simp only [ev, h1 hp R, Res.bind, cmpD, Option.map, Res.of, isNon_eO, Option.not_isNone]
/-- is True, is False -/
theorem TV.isB {b1 b2 : Bool} (h1 : TV ck a σ .bl b1 p) : TV ck (.cmp .is a (.con (.bl b2))) σ .bl (decide (b1 = b2)) p := fun hp R => by
  simp only [ev, h1 hp R, Res.bind, cmpD, Option.map, Res.of]
theorem TV.isnB {b1 b2 : Bool} (h1 : TV ck a σ .bl b1 p) : TV ck (.cmp .isn a (.con (.bl b2))) σ .bl (!decide (b1 = b2)) p := fun hp R => by
  simp only [ev, h1 hp R, Res.bind, cmpD, Option.map, Res.of]
def memB {α : Type} [DecidableEq α] (v : α) (l : List α) : Bool := decide (v ∈ l)
theorem memB_iff {α : Type} [DecidableEq α] {v : α} {l : List α} : memB v l = true ↔ v ∈ l := decide_eq_true_iff
theorem TV.inL [DecidableEq α] {n : Nat} {l : List α} [FT enc n] [DQ enc] (hn : n ≤ 60) (h1 : TV ck a σ enc v p) (h2 : TV ck b σ (eL enc) l q) : TV ck (.cmp .in_ a b) σ .bl (decide (v ∈ l)) (p ∧ q) := fun ⟨hp, hq⟩ R => by
  have f : (flt (enc v) && (l.map enc).all flt) = true := by rw [FT.flt hn v, all_flt hn l]; rfl
  simp only [ev, h1 hp R, h2 hq R, Res.bind, eL, cmpD]
  rw [if_pos f, any_enc]
  rfl
theorem TV.ninL [DecidableEq α] {n : Nat} {l : List α} [FT enc n] [DQ enc] (hn : n ≤ 60) (h1 : TV ck a σ enc v p) (h2 : TV ck b σ (eL enc) l q) : TV ck (.cmp .nin a b) σ .bl (!decide (v ∈ l)) (p ∧ q) := fun ⟨hp, hq⟩ R => by
  have f : (flt (enc v) && (l.map enc).all flt) = true := by rw [FT.flt hn v, all_flt hn l]; rfl
  simp only [ev, h1 hp R, h2 hq R, Res.bind, eL, cmpD]
  rw [if_pos f, any_enc]
  rfl
theorem TV.inT [DecidableEq α] {n : Nat} {l : List α} [FT enc n] [DQ enc] (hn : n ≤ 60) (h1 : TV ck a σ enc v p) (h2 : TV ck b σ (eT enc) l q) : TV ck (.cmp .in_ a b) σ .bl (decide (v ∈ l)) (p ∧ q) := fun ⟨hp, hq⟩ R => by
  have f : (flt (enc v) && (l.map enc).all flt) = true := by rw [FT.flt hn v, all_flt hn l]; rfl
  simp only [ev, h1 hp R, h2 hq R, Res.bind, eT, cmpD]
  rw [if_pos f, any_enc]
  rfl
theorem TV.ninT [DecidableEq α] {n : Nat} {l : List α} [FT enc n] [DQ enc] (hn : n ≤ 60) (h1 : TV ck a σ enc v p) (h2 : TV ck b σ (eT enc) l q) : TV ck (.cmp .nin a b) σ .bl (!decide (v ∈ l)) (p ∧ q) := fun ⟨hp, hq⟩ R => by
  have f : (flt (enc v) && (l.map enc).all flt) = true := by rw [FT.flt hn v, all_flt hn l]; rfl
  simp only [ev, h1 hp R, h2 hq R, Res.bind, eT, cmpD]
  rw [if_pos f, any_enc]
  rfl
theorem TV.ch2 {o u : Cop} {b1 b2 : Bool} (h1 : TV ck a σ .int x p1) (h2 : TV ck b σ .int y p2) (h3 : TV ck c σ .int z p3) (e1 : cmpD o (.int x) (.int y) = some b1) (e2 : cmpD u (.int y) (.int z) = some b2) : TV ck (.ch2 o u a b c) σ .bl (b1 && b2) (p1 ∧ p2 ∧ (b1 = true → p3)) := fun ⟨hp1, hp2, hp3⟩ R => by
  simp only [ev, h1 hp1 R, h2 hp2 R, Res.bind, e1]
  cases b1 with
  | true => simp only [h3 (hp3 rfl) R, e2, Option.map, Res.of, Bool.true_and]
  | false => rfl
theorem TA.one {e : Ex} {b1 : Bool} (h : TV ck e σ .bl b1 p) (hk : ∀ r : Res D, stx e σ r = r) : TA ck (.cons e .nil) σ b1 p := fun hp R => by
  simp only [evAnd, hk, h hp R]
theorem TA.cons {e e2 : Ex} {b1 b2 : Bool} (h : TV ck e σ .bl b1 p) (t : TA ck (.cons e2 es) σ b2 q) : TA ck (.cons e (.cons e2 es)) σ (b1 && b2) (p ∧ (b1 = true → q)) := fun ⟨hp, hq⟩ R => by
  rw [evAnd, h hp R]
  cases b1 with
  | true => exact t (hq rfl) R
  | false => rfl
  intro z
  cases z
theorem TO.one {e : Ex} {b1 : Bool} (h : TV ck e σ .bl b1 p) (hk : ∀ r : Res D, stx e σ r = r) : TO ck (.cons e .nil) σ b1 p := fun hp R => by
  simp only [evOr, hk, h hp R]
theorem TO.cons {e e2 : Ex} {b1 b2 : Bool} (h : TV ck e σ .bl b1 p) (t : TO ck (.cons e2 es) σ b2 q) : TO ck (.cons e (.cons e2 es)) σ (b1 || b2) (p ∧ (b1 = false → q)) := fun ⟨hp, hq⟩ R => by
  rw [evOr, h hp R]
  cases b1 with
  | false => exact t (hq rfl) R
  | true => rfl
  intro z
  cases z
theorem TV.and {b1 b2 : Bool} (h : TV ck a σ .bl b1 p) (t : TA ck es σ b2 q) : TV ck (.and a es) σ .bl (b1 && b2) (p ∧ (b1 = true → q)) := fun ⟨hp, hq⟩ R => by
  simp only [ev, h hp R, Res.bind]
  cases b1 with
  | true => exact t (hq rfl) R
  | false => rfl
theorem TV.or {b1 b2 : Bool} (h : TV ck a σ .bl b1 p) (t : TO ck es σ b2 q) : TV ck (.or a es) σ .bl (b1 || b2) (p ∧ (b1 = false → q)) := fun ⟨hp, hq⟩ R => by
  simp only [ev, h hp R, Res.bind]
  cases b1 with
  | false => exact t (hq rfl) R
  | true => rfl
theorem TV.ite {b1 : Bool} {w : α} (h : TV ck c σ .bl b1 p) (h1 : TV ck a σ enc v p1) (k1 : ∀ r : Res D, stx a σ r = r) (h2 : TV ck b σ enc w p2) (k2 : ∀ r : Res D, stx b σ r = r) : TV ck (.ite c a b) σ enc (if b1 = true then v else w) (p ∧ (b1 = true → p1) ∧ (b1 = false → p2)) := fun ⟨hp, hq1, hq2⟩ R => by
  simp only [ev, h hp R, Res.bind]
  cases b1 with
  | true =>
    simp only [k1]
    exact h1 (hq1 rfl) R
  | false =>
    simp only [k2]
    exact h2 (hq2 rfl) R
theorem TV.call {f : Nat} (hs : TVs ck es σ ds p) (h : q → ∀ R, ck f ds R = .ok (enc v) R) : TV ck (.call f es) σ enc v (p ∧ q) := fun ⟨hp, hq⟩ R => by
  simp only [ev, hs hp R, Res.bind, h hq R]
theorem TV.isi {ks : List Kd} {b1 : Bool} (h : TV ck a σ enc v p) (hb : isKs ks (enc v) = some b1) : TV ck (.isi ks a) σ .bl b1 p := fun hp R => by
  simp only [ev, h hp R, Res.bind, hb, Option.map, Res.of]
/-- a built-in but len -/
theorem TV.blt {f : Blt} (hf : (match f with | .len => false | _ => true) = true) (hs : TVb ck es σ ds p) (h : q → bltD f ds = some (enc v)) : TV ck (.blt f es) σ enc v (p ∧ q) := fun ⟨hp, hq⟩ R => by
  cases f <;> first | (cases hf; done) | simp only [ev, hs hp R, Res.bind, h hq, Res.of]
theorem TV.lenL {l : List α} (h : TV ck a σ (eL enc) l p) : TV ck (.blt .len (.cons a .nil)) σ .int (l.length : Int) p := fun hp R => by
  simp only [ev, evb, h hp R, Res.bind, List.map_cons, List.map_nil, eL, lenR, bltD, List.length_map, Res.of]
theorem TV.lenT {l : List α} (h : TV ck a σ (eT enc) l p) : TV ck (.blt .len (.cons a .nil)) σ .int (l.length : Int) p := fun hp R => by
  simp only [ev, evb, h hp R, Res.bind, List.map_cons, List.map_nil, eT, lenR, bltD, List.length_map, Res.of]
theorem TV.lenS {s : Str} (h : TV ck a σ .str s p) : TV ck (.blt .len (.cons a .nil)) σ .int (s.length : Int) (p ∧ s.length ≤ sizeLine) := fun ⟨hp, hq⟩ R => by
  simp only [ev, evb, h hp R, Res.bind, List.map_cons, List.map_nil, lenR, bltD, hq, if_true, Res.of]
/-- of a tuple of a fixed size -/
theorem TV.lenP {n : Int} (h : TV ck a σ enc v p) (hn : bltD .len [lenR [] (enc v)] = some (.int n)) (hr : ∀ R, lenR R (enc v) = lenR [] (enc v)) : TV ck (.blt .len (.cons a .nil)) σ .int n p := fun hp R => by
  simp only [ev, evb, h hp R, Res.bind, List.map_cons, List.map_nil, hr R, hn, Res.of]
theorem TV.strI (h : TV ck a σ .int x p) : TV ck (.blt .str (.cons a .nil)) σ .str (PySem.Str.ofString (toString x)) (p ∧ x.natAbs.log2 < 1920) := fun ⟨hp, hx⟩ R => by
  simp only [ev, evb, h hp R, Res.bind, bltD, if_pos hx, Res.of]
theorem TV.abs (h : TV ck a σ .int x p) : TV ck (.blt .abs (.cons a .nil)) σ .int (x.natAbs : Int) p := fun hp R => by
  have e : (if x < 0 then -x else x) = (x.natAbs : Int) := by split <;> omega
  simp only [ev, evb, h hp R, Res.bind, bltD, e, Res.of]
theorem TV.int (h : TV ck a σ .int x p) : TV ck (.blt .int (.cons a .nil)) σ .int x p := fun hp R => by
  simp only [ev, evb, h hp R, Res.bind, bltD, Res.of]
theorem TV.intB {b1 : Bool} (h : TV ck a σ .bl b1 p) : TV ck (.blt .int (.cons a .nil)) σ .int (if b1 = true then 1 else 0) p := fun hp R => by
  simp only [ev, evb, h hp R, Res.bind, bltD, Res.of]
theorem TV.max2 (h1 : TV ck a σ .int x p) (h2 : TV ck b σ .int y q) : TV ck (.blt .max (.cons a (.cons b .nil))) σ .int (max x y) (p ∧ q) := fun ⟨hp, hq⟩ R => by
  have e : (if y > x then y else x) = max x y := by split <;> omega
  simp only [ev, evb, h1 hp R, h2 hq R, Res.bind, bltD, e, Res.of]
theorem TV.min2 (h1 : TV ck a σ .int x p) (h2 : TV ck b σ .int y q) : TV ck (.blt .min (.cons a (.cons b .nil))) σ .int (min x y) (p ∧ q) := fun ⟨hp, hq⟩ R => by
  have e : (if y < x then y else x) = min x y := by split <;> omega
  simp only [ev, evb, h1 hp R, h2 hq R, Res.bind, bltD, e, Res.of]
theorem TV.maxL {l : List Int} (h : TV ck a σ (eL .int) l p) : TV ck (.blt .max (.cons a .nil)) σ .int (mxL l) (p ∧ l ≠ []) := fun ⟨hp, hq⟩ R => by
  cases l with
  | nil => exact absurd rfl hq
  | cons x l => simp only [ev, evb, h hp R, Res.bind, eL, List.map_cons, bltD, intsD_map, Option.map, Res.of, mxL]
theorem TV.minL {l : List Int} (h : TV ck a σ (eL .int) l p) : TV ck (.blt .min (.cons a .nil)) σ .int (mnL l) (p ∧ l ≠ []) := fun ⟨hp, hq⟩ R => by
  cases l with
  | nil => exact absurd rfl hq
  | cons x l => simp only [ev, evb, h hp R, Res.bind, eL, List.map_cons, bltD, intsD_map, Option.map, Res.of, mnL]
theorem TV.sum {l : List Int} (h : TV ck a σ (eL .int) l p) : TV ck (.blt .sum (.cons a .nil)) σ .int l.sum p := fun hp R => by
  simp only [ev, evb, h hp R, Res.bind, eL, bltD, intsD_map, Option.map, Res.of]
theorem flt_T : flt (.str "True") = true := by decide +kernel
theorem flt_F : flt (.str "False") = true := by decide +kernel
theorem neTF : ((PySem.Str.ofString "True") = (PySem.Str.ofString "False")) = False := by
  rw [eq_iff_iff, iff_false]
  decide +kernel
theorem neFT : ((PySem.Str.ofString "False") = (PySem.Str.ofString "True")) = False := by
  rw [eq_iff_iff, iff_false]
  decide +kernel
theorem TV.neRB {b1 b2 : Bool} (h1 : TV ck a σ .bl b1 p) (h2 : TV ck b σ .bl b2 q) : TV ck (.cmp .ne (.blt .repr (.cons a .nil)) (.blt .repr (.cons b .nil))) σ .bl (!decide (b1 = b2)) (p ∧ q) := fun ⟨hp, hq⟩ R => by
  simp only [ev, evb, h1 hp R, h2 hq R, Res.bind, bltD, Res.of]
  cases b1 <;> cases b2 <;> simp only [Bool.false_eq_true, if_true, if_false, cmpD, flt_T, flt_F, Bool.and_self, deqS, neTF, neFT, Option.map, Res.of, decide_true, decide_false, Bool.not_true, Bool.not_false, reduceCtorEq]
theorem TV.eqRB {b1 b2 : Bool} (h1 : TV ck a σ .bl b1 p) (h2 : TV ck b σ .bl b2 q) : TV ck (.cmp .eq (.blt .repr (.cons a .nil)) (.blt .repr (.cons b .nil))) σ .bl (decide (b1 = b2)) (p ∧ q) := fun ⟨hp, hq⟩ R => by
  simp only [ev, evb, h1 hp R, h2 hq R, Res.bind, bltD, Res.of]
  cases b1 <;> cases b2 <;> simp only [Bool.false_eq_true, if_true, if_false, cmpD, flt_T, flt_F, Bool.and_self, deqS, neTF, neFT, Option.map, Res.of, decide_true, decide_false, Bool.not_true, Bool.not_false, reduceCtorEq]
theorem TV.maxT {l : List Int} (h : TV ck a σ (eT .int) l p) : TV ck (.blt .max (.cons a .nil)) σ .int (mxL l) (p ∧ l ≠ []) := fun ⟨hp, hq⟩ R => by
  cases l with
  | nil => exact absurd rfl hq
  | cons x l => simp only [ev, evb, h hp R, Res.bind, eT, List.map_cons, bltD, intsD_map, Option.map, Res.of, mxL]
theorem TV.minT {l : List Int} (h : TV ck a σ (eT .int) l p) : TV ck (.blt .min (.cons a .nil)) σ .int (mnL l) (p ∧ l ≠ []) := fun ⟨hp, hq⟩ R => by
  cases l with
  | nil => exact absurd rfl hq
  | cons x l => simp only [ev, evb, h hp R, Res.bind, eT, List.map_cons, bltD, intsD_map, Option.map, Res.of, mnL]
theorem TV.sumT {l : List Int} (h : TV ck a σ (eT .int) l p) : TV ck (.blt .sum (.cons a .nil)) σ .int l.sum p := fun hp R => by
  simp only [ev, evb, h hp R, Res.bind, eT, bltD, intsD_map, Option.map, Res.of]
theorem TV.sortT {l : List Int} (h : TV ck a σ (eT .int) l p) : TV ck (.blt .sorted (.cons a .nil)) σ (eL .int) (sortI l) p := fun hp R => by
  simp only [ev, evb, h hp R, Res.bind, eT, eL, bltD, intsD_map, Option.map, Res.of]
theorem TV.all {l : List Bool} (h : TV ck a σ (eL .bl) l p) : TV ck (.blt .all (.cons a .nil)) σ .bl (l.all id) p := fun hp R => by
  simp only [ev, evb, h hp R, Res.bind, eL, bltD, blsD_map, Option.map, Res.of]
theorem TV.any {l : List Bool} (h : TV ck a σ (eL .bl) l p) : TV ck (.blt .any (.cons a .nil)) σ .bl (l.any id) p := fun hp R => by
  simp only [ev, evb, h hp R, Res.bind, eL, bltD, blsD_map, Option.map, Res.of]
theorem TV.sortI {l : List Int} (h : TV ck a σ (eL .int) l p) : TV ck (.blt .sorted (.cons a .nil)) σ (eL .int) (sortI l) p := fun hp R => by
  simp only [ev, evb, h hp R, Res.bind, eL, bltD, intsD_map, Option.map, Res.of]
theorem intsD_none {f : α → D} (hf : ∀ x, tupI (f x) = true) : ∀ {l : List α}, l ≠ [] → intsD (l.map f) = none
  | [], h => absurd rfl h
  | x :: l, _ => by
    have := hf x
    rw [List.map_cons]
    cases q : f x <;> rw [q] at this <;> first | rfl | simp [tupI] at this
/-- of tuples that begin by an int; by an order of native items -/
def insN (lt : α → α → Bool) (x : α) : List α → List α
  | [] => [x]
  | y :: l => if lt x y = true then x :: y :: l else y :: insN lt x l
def sortN (lt : α → α → Bool) (l : List α) : List α := l.foldl (fun acc x => insN lt x acc) []
theorem insN_enc {lt : α → α → Bool} (hl : ∀ x y, dlt (enc x) (enc y) = lt x y) (x : α) : ∀ l : List α, insD (enc x) (l.map enc) = (insN lt x l).map enc
  | [] => rfl
  | y :: l => by
    simp only [List.map_cons, insD, insN, hl]
    cases lt x y with
    | true => rfl
    | false => simp only [Bool.false_eq_true, if_false, insN_enc hl x l, List.map_cons]
theorem sortN_enc {lt : α → α → Bool} (hl : ∀ x y, dlt (enc x) (enc y) = lt x y) : ∀ (l acc : List α), (l.map enc).foldl (fun acc x => insD x acc) (acc.map enc) = (l.foldl (fun acc x => insN lt x acc) acc).map enc
  | [], acc => rfl
  | x :: l, acc => by
    rw [List.map_cons, List.foldl_cons, List.foldl_cons, insN_enc hl, sortN_enc hl l]
theorem TV.sorN [h : LT2 enc lt] {n : Nat} [FT enc n] (hn : n ≤ 60) (ht : ∀ x, tupI (enc x) = true) {l : List α} (h1 : TV ck a σ (eL enc) l p) : TV ck (.blt .sorted (.cons a .nil)) σ (eL enc) (sortN lt l) p := fun hp R => by
  simp only [ev, evb, h1 hp R, Res.bind, eL, bltD]
  by_cases q : l = []
  · subst q; rfl
  · have ok : srtOk (l.map enc) = true := by
      unfold srtOk
      simp only [Bool.and_eq_true, List.all_eq_true]
      refine ⟨fun d hd => ?_, fun d hd => ?_, fun d hd d' hd' => ?_⟩
      · obtain ⟨x, _, rfl⟩ := List.mem_map.mp hd
        exact FT.flt hn x
      · obtain ⟨x, _, rfl⟩ := List.mem_map.mp hd
        exact ht x
      · obtain ⟨x, _, rfl⟩ := List.mem_map.mp hd
        obtain ⟨y, _, rfl⟩ := List.mem_map.mp hd'
        exact h.cm x y
    rw [intsD_none ht q]
    simp only [ok, if_true, Res.of]
    rw [show sortD (l.map enc) = (Cw.sortN lt l).map enc from sortN_enc h.lt l []]
def minN [Inhabited α] (lt : α → α → Bool) : List α → α
  | [] => default
  | d :: l => l.foldl (fun a y => if lt y a = true then y else a) d
def maxN [Inhabited α] (lt : α → α → Bool) : List α → α
  | [] => default
  | d :: l => l.foldl (fun a y => if lt a y = true then y else a) d
theorem srtOk_enc [h : LT2 enc lt] {n : Nat} [FT enc n] (hn : n ≤ 60) (ht : ∀ x, tupI (enc x) = true) (l : List α) : srtOk (l.map enc) = true := by
  unfold srtOk
  simp only [Bool.and_eq_true, List.all_eq_true]
  refine ⟨fun d hd => ?_, fun d hd => ?_, fun d hd d' hd' => ?_⟩
  · obtain ⟨x, _, rfl⟩ := List.mem_map.mp hd
    exact FT.flt hn x
  · obtain ⟨x, _, rfl⟩ := List.mem_map.mp hd
    exact ht x
  · obtain ⟨x, _, rfl⟩ := List.mem_map.mp hd
    obtain ⟨y, _, rfl⟩ := List.mem_map.mp hd'
    exact h.cm x y
theorem minN_enc {lt : α → α → Bool} (hl : ∀ x y, dlt (enc x) (enc y) = lt x y) : ∀ (l : List α) (d : α), minT (enc d) (l.map enc) = enc (l.foldl (fun a y => if lt y a = true then y else a) d)
  | [], d => rfl
  | y :: l, d => by
    rw [List.map_cons, List.foldl_cons, ← minN_enc hl l]
    show minT (if dlt (enc y) (enc d) = true then enc y else enc d) _ = _
    rw [hl]
    cases lt y d <;> rfl
theorem maxN_enc {lt : α → α → Bool} (hl : ∀ x y, dlt (enc x) (enc y) = lt x y) : ∀ (l : List α) (d : α), maxT (enc d) (l.map enc) = enc (l.foldl (fun a y => if lt a y = true then y else a) d)
  | [], d => rfl
  | y :: l, d => by
    rw [List.map_cons, List.foldl_cons, ← maxN_enc hl l]
    show maxT (if dlt (enc d) (enc y) = true then enc y else enc d) _ = _
    rw [hl]
    cases lt d y <;> rfl
theorem TV.minN [Inhabited α] [h : LT2 enc lt] {n : Nat} [FT enc n] (hn : n ≤ 60) (ht : ∀ x, tupI (enc x) = true) {l : List α} (h1 : TV ck a σ (eL enc) l p) : TV ck (.blt .min (.cons a .nil)) σ enc (Cw.minN lt l) (p ∧ l ≠ []) := fun ⟨hp, hne⟩ R => by
  have ok := srtOk_enc (lt := lt) (n := n) hn ht l
  cases l with
  | nil => exact absurd rfl hne
  | cons x l =>
    have e : bltD .min [D.lst (enc x :: l.map enc)] = some (Cw.minT (enc x) (l.map enc)) := by
      have hx := ht x
      rw [List.map_cons] at ok
      generalize enc x = d at ok hx
      cases d <;> first | (simp only [bltD, ok, if_true]; done) | (exact absurd hx (by simp [tupI]; done))
    simp only [ev, evb, h1 hp R, Res.bind, eL, List.map_cons]
    rw [e, minN_enc h.lt]
    rfl
theorem TV.maxN [Inhabited α] [h : LT2 enc lt] {n : Nat} [FT enc n] (hn : n ≤ 60) (ht : ∀ x, tupI (enc x) = true) {l : List α} (h1 : TV ck a σ (eL enc) l p) : TV ck (.blt .max (.cons a .nil)) σ enc (Cw.maxN lt l) (p ∧ l ≠ []) := fun ⟨hp, hne⟩ R => by
  have ok := srtOk_enc (lt := lt) (n := n) hn ht l
  cases l with
  | nil => exact absurd rfl hne
  | cons x l =>
    have e : bltD .max [D.lst (enc x :: l.map enc)] = some (Cw.maxT (enc x) (l.map enc)) := by
      have hx := ht x
      rw [List.map_cons] at ok
      generalize enc x = d at ok hx
      cases d <;> first | (simp only [bltD, ok, if_true]; done) | (exact absurd hx (by simp [tupI]; done))
    simp only [ev, evb, h1 hp R, Res.bind, eL, List.map_cons]
    rw [e, maxN_enc h.lt]
    rfl
theorem TV.ltN [h : LT2 enc lt] {n : Nat} {w : α} [FT enc n] (hn : n ≤ 60) (h1 : TV ck a σ enc v p) (h2 : TV ck b σ enc w q) : TV ck (.cmp .lt a b) σ .bl (lt v w) (p ∧ q) := fun ⟨hp, hq⟩ R => by
  have f : (flt (enc v) && flt (enc w) && cmpb (enc v) (enc w)) = true := by rw [FT.flt hn v, FT.flt hn w, h.cm]; rfl
  simp only [ev, h1 hp R, h2 hq R, Res.bind, cmpD]
  rw [if_pos f, h.lt]
  rfl
theorem TV.sorNT [h : LT2 enc lt] {n : Nat} [FT enc n] (hn : n ≤ 60) (ht : ∀ x, tupI (enc x) = true) {l : List α} (h1 : TV ck a σ (eT enc) l p) : TV ck (.blt .sorted (.cons a .nil)) σ (eL enc) (sortN lt l) p := fun hp R => by
  simp only [ev, evb, h1 hp R, Res.bind, eT, eL, bltD]
  by_cases q : l = []
  · subst q; rfl
  · have ok : srtOk (l.map enc) = true := by
      unfold srtOk
      simp only [Bool.and_eq_true, List.all_eq_true]
      refine ⟨fun d hd => ?_, fun d hd => ?_, fun d hd d' hd' => ?_⟩
      · obtain ⟨x, _, rfl⟩ := List.mem_map.mp hd
        exact FT.flt hn x
      · obtain ⟨x, _, rfl⟩ := List.mem_map.mp hd
        exact ht x
      · obtain ⟨x, _, rfl⟩ := List.mem_map.mp hd
        obtain ⟨y, _, rfl⟩ := List.mem_map.mp hd'
        exact h.cm x y
    rw [intsD_none ht q]
    simp only [ok, if_true, Res.of]
    rw [show sortD (l.map enc) = (Cw.sortN lt l).map enc from sortN_enc h.lt l []]
theorem TV.listL {l : List α} (h : TV ck a σ (eL enc) l p) : TV ck (.blt .list (.cons a .nil)) σ (eL enc) l p := fun hp R => by
  simp only [ev, evb, h hp R, Res.bind, eL, bltD, Res.of]
theorem TV.listT {l : List α} (h : TV ck a σ (eT enc) l p) : TV ck (.blt .list (.cons a .nil)) σ (eL enc) l p := fun hp R => by
  simp only [ev, evb, h hp R, Res.bind, eT, eL, bltD, Res.of]
theorem TV.tupleL {l : List α} (h : TV ck a σ (eL enc) l p) : TV ck (.blt .tuple (.cons a .nil)) σ (eT enc) l p := fun hp R => by
  simp only [ev, evb, h hp R, Res.bind, eT, eL, bltD, Res.of]
theorem TV.tupleT {l : List α} (h : TV ck a σ (eT enc) l p) : TV ck (.blt .tuple (.cons a .nil)) σ (eT enc) l p := fun hp R => by
  simp only [ev, evb, h hp R, Res.bind, eT, bltD, Res.of]
theorem TV.lrange (h : TV ck a σ .int x p) : TV ck (.blt .lrange (.cons a .nil)) σ (eL .int) (rng x) (p ∧ -(2 ^ 61) ≤ x ∧ x ≤ sizeLine) := fun ⟨hp, c1, c2⟩ R => by
  have c : (decide (-(2 ^ 61) ≤ x) && decide (x ≤ sizeLine)) = true := by simp only [c1, c2, decide_true, Bool.and_self]
  simp only [ev, evb, h hp R, Res.bind, bltD]
  rw [if_pos c, rngI_ir]
  rfl
theorem TV.idxL [Inhabited α] {l : List α} (h1 : TV ck a σ (eL enc) l p) (h2 : TV ck b σ .int y q) : TV ck (.idx a b) σ enc (gI l y) (p ∧ q ∧ okI l y) := fun ⟨hp, hq, hc⟩ R => by
  unfold okI at hc
  obtain ⟨z, hz⟩ := Option.isSome_iff_exists.mp hc
  simp only [ev, h1 hp R, h2 hq R, Res.bind, eL, idxD, atI_enc, gI, hz, Option.map, Option.getD, Res.of]
theorem TV.idxT [Inhabited α] {l : List α} (h1 : TV ck a σ (eT enc) l p) (h2 : TV ck b σ .int y q) : TV ck (.idx a b) σ enc (gI l y) (p ∧ q ∧ okI l y) := fun ⟨hp, hq, hc⟩ R => by
  unfold okI at hc
  obtain ⟨z, hz⟩ := Option.isSome_iff_exists.mp hc
  simp only [ev, h1 hp R, h2 hq R, Res.bind, eT, idxD, atI_enc, gI, hz, Option.map, Option.getD, Res.of]
theorem TV.prj {n : Int} {encw : β → D} {w : β} {ds : List D} (h : TV ck a σ enc v p) (e : enc v = .tup ds) (hi : L2.atI ds n = some (encw w)) : TV ck (.idx a (.con (.int n))) σ encw w p := fun hp R => by
  simp only [ev, h hp R, Res.bind, e, idxD, hi, Res.of]
/-- by -1 -/
theorem TV.prjN {n : Int} {encw : β → D} {w : β} {ds : List D} (h : TV ck a σ enc v p) (e : enc v = .tup ds) (hi : L2.atI ds (-n) = some (encw w)) : TV ck (.idx a (.neg (.con (.int n)))) σ encw w p := fun hp R => by
  simp only [ev, h hp R, Res.bind, e, negD, idxD, hi, Res.of]
theorem TN.no : TN ck .no σ none True := fun _ R => rfl
theorem TN.so (h : TV ck a σ .int x p) : TN ck (.so a) σ (some x) p := fun hp R => by
  simp only [evo, h hp R, Res.bind]
theorem TV.slcL {l : List α} {lo hi : Exo} {xo yo : Option Int} (h : TV ck a σ (eL enc) l p) (h1 : TN ck lo σ xo p1) (h2 : TN ck hi σ yo p2) : TV ck (.slc a lo hi) σ (eL enc) (cut l xo yo) (p ∧ p1 ∧ p2) := fun ⟨hp, hp1, hp2⟩ R => by
  simp only [ev, h hp R, h1 hp1 R, h2 hp2 R, Res.bind, eL, slcD, cut_enc, Res.of]
theorem TV.slcT {l : List α} {lo hi : Exo} {xo yo : Option Int} (h : TV ck a σ (eT enc) l p) (h1 : TN ck lo σ xo p1) (h2 : TN ck hi σ yo p2) : TV ck (.slc a lo hi) σ (eT enc) (cut l xo yo) (p ∧ p1 ∧ p2) := fun ⟨hp, hp1, hp2⟩ R => by
  simp only [ev, h hp R, h1 hp1 R, h2 hp2 R, Res.bind, eT, slcD, cut_enc, Res.of]
theorem TV.rev {l : List α} (h : TV ck a σ (eL enc) l p) : TV ck (.rev a) σ (eL enc) l.reverse p := fun hp R => by
  simp only [ev, h hp R, Res.bind, eL, revD, List.map_reverse, Res.of]
theorem TV.index [DecidableEq α] {n : Nat} {l : List α} [FT enc n] [DQ enc] (hn : n ≤ 59) (h1 : TV ck a σ (eL enc) l p) (h2 : TV ck b σ enc v q) : TV ck (.meth .index a (.cons b .nil)) σ .int (((idxO v l).getD 0 : Nat) : Int) (p ∧ q ∧ v ∈ l) := fun ⟨hp, hq, hm⟩ R => by
  have f : (flt (.lst (l.map enc)) && flt (enc v)) = true := by rw [FT.flt (Nat.le_succ_of_le hn) v, show D.lst (l.map enc) = eL enc l from rfl, FT.flt (e := eL enc) (Nat.succ_le_succ hn) l]; rfl
  have hs : ∃ j, idxO v l = some j := by
    exact idxO_mem hm
  obtain ⟨j, hj⟩ := hs
  simp only [ev, h1 hp R, Res.bind, eL, mthOn, if_true, evb, h2 hq R, methD]
  rw [if_pos f, findD_enc, hj]
  rfl
theorem TC.no : TC ck .no σ true True := fun _ R => rfl
theorem TC.so {b1 : Bool} (h : TV ck a σ .bl b1 p) : TC ck (.so a) σ b1 p := fun hp R => by
  simp only [evc, h hp R, Res.bind]
/-! walks -/
theorem TI.ex (h : TV ck a σ enc v p) (hd : itmD (enc v) = some ds) : TI ck (.ex a) σ ds p := fun hp R => by
  simp only [evi, h hp R, Res.bind, hd, Res.of]
theorem TI.rng (h : TV ck a σ .int x p) : TI ck (.rng a) σ ((rng x).map .int) (p ∧ okR x) := fun ⟨hp, c1, c2⟩ R => by
  have c : (decide (-(2 ^ 62) ≤ x) && decide (x ≤ sizeLine)) = true := by simp only [c1, c2, decide_true, Bool.and_self]
  simp only [evi, h hp R, Res.bind, rngD]
  rw [if_pos c, rngI_ir]
  rfl
theorem TI.rng2 (h1 : TV ck a σ .int x p) (h2 : TV ck b σ .int y q) : TI ck (.rng2 a b) σ ((rng2 x y).map .int) (p ∧ q ∧ okR2 x y) := fun ⟨hp, hq, c1, c2, c3, c4, c5⟩ R => by
  have c : (decide (-(2 ^ 61) ≤ x) && decide (x ≤ 2 ^ 61) && decide (-(2 ^ 61) ≤ y) && decide (y ≤ 2 ^ 61) && decide (y - x ≤ sizeLine)) = true := by simp only [c1, c2, c3, c4, c5, decide_true, Bool.and_self]
  simp only [evi, h1 hp R, h2 hq R, Res.bind, rngD2]
  rw [if_pos c, rngI_ir]
  rfl
theorem rngJ_enc : ∀ (n : Nat) (a : Int), rngJ a n = ((List.range n).map fun i => a - (i : Nat)).map D.int
  | 0, _ => rfl
  | n + 1, a => by
    rw [rngJ, rngJ_enc n (a - 1), List.range_succ_eq_map, List.map_cons, List.map_map, List.map_cons, List.map_map, List.map_map]
    congr 1
    · simp
    · refine List.map_congr_left fun i _ => ?_
      simp only [Function.comp, D.int.injEq]
      omega
theorem TI.rng3 (h1 : TV ck a σ .int x p1) (h2 : TV ck b σ .int y p2) (h3 : TV ck c σ .int z p3) : TI ck (.rng3 a b c) σ ((rng3 x y z).map .int) (p1 ∧ p2 ∧ p3 ∧ okR3 x y z) := fun ⟨hp1, hp2, hp3, c0, c1, c2, c3, c4, c5⟩ R => by
  have c' : (decide (z = -1) && decide (-(2 ^ 61) ≤ x) && decide (x ≤ 2 ^ 61) && decide (-(2 ^ 61) ≤ y) && decide (y ≤ 2 ^ 61) && decide (x - y ≤ PySem.sizeLine)) = true := by simp only [c0, c1, c2, c3, c4, c5, decide_true, Bool.and_self]
  simp only [evi, h1 hp1 R, h2 hp2 R, h3 hp3 R, Res.bind, rngD3]
  rw [if_pos c', rngJ_enc]
  unfold Cw.rng3
  rw [if_pos c0]
  rfl
theorem TI.enu {α : Type} {enc : α → D} {l : List α} {β : Type} {encl : β → D} {w : β} (h : TV ck a σ encl w p) (hd : itmD (encl w) = some (l.map enc)) : TI ck (.enu a) σ ((enumI 0 l).map (eP .int enc)) p := fun hp R => by
  simp only [evi, h hp R, Res.bind, hd, Option.map, enuL_enc, Res.of]
theorem TI.zip {α β : Type} {enc : α → D} {encb : β → D} {l : List α} {m : List β} {γ δ : Type} {encl : γ → D} {w : γ} {encm : δ → D} {u : δ} (h1 : TV ck a σ encl w p) (h2 : TV ck b σ encm u q) (hl : itmD (encl w) = some (l.map enc)) (hm : itmD (encm u) = some (m.map encb)) : TI ck (.zip a b) σ ((l.zip m).map (eP enc encb)) (p ∧ q) := fun ⟨hp, hq⟩ R => by
  simp only [evi, h1 hp R, h2 hq R, Res.bind, hl, hm, zipL_enc]
theorem TIs.ex (h : TV ck a σ enc v p) (hk : ∀ r : Res D, stx a σ r = r) (hd : itmD (enc v) = some ds) : TIs ck (.ex a) σ ds p := fun hp R => by
  simp only [evis, evX, if_true, hk, h hp R, Res.bind, hd, Res.of]
theorem TIs.rng (h : TV ck a σ .int x p) : TIs ck (.rng a) σ ((rng x).map .int) (p ∧ okR x) := TI.rng h
theorem TIs.rng2 (h1 : TV ck a σ .int x p) (h2 : TV ck b σ .int y q) : TIs ck (.rng2 a b) σ ((rng2 x y).map .int) (p ∧ q ∧ okR2 x y) := TI.rng2 h1 h2
theorem TIs.rng3 (h1 : TV ck a σ .int x p1) (h2 : TV ck b σ .int y p2) (h3 : TV ck c σ .int z p3) : TIs ck (.rng3 a b c) σ ((Cw.rng3 x y z).map .int) (p1 ∧ p2 ∧ p3 ∧ okR3 x y z) := TI.rng3 h1 h2 h3
theorem TIs.enu {α : Type} {enc : α → D} {l : List α} {β : Type} {encl : β → D} {w : β} (h : TV ck a σ encl w p) (hk : ∀ r : Res D, stx a σ r = r) (hd : itmD (encl w) = some (l.map enc)) : TIs ck (.enu a) σ ((enumI 0 l).map (eP .int enc)) p := fun hp R => by
  simp only [evis, evX, if_true, hk, h hp R, Res.bind, hd, Option.map, enuL_enc, Res.of]
theorem TIs.zip {α β : Type} {enc : α → D} {encb : β → D} {l : List α} {m : List β} {γ δ : Type} {encl : γ → D} {w : γ} {encm : δ → D} {u : δ} (h1 : TV ck a σ encl w p) (k1 : ∀ r : Res D, stx a σ r = r) (h2 : TV ck b σ encm u q) (k2 : ∀ r : Res D, stx b σ r = r) (hl : itmD (encl w) = some (l.map enc)) (hm : itmD (encm u) = some (m.map encb)) : TIs ck (.zip a b) σ ((l.zip m).map (eP enc encb)) (p ∧ q) := fun ⟨hp, hq⟩ R => by
  simp only [evis, evX, if_true, k1, k2, h1 hp R, h2 hq R, Res.bind, hl, hm, zipL_enc]
end
/-! comprehensions -/
theorem setC_of {tg : Tg} {d : D} {σ σ' : List Sl} (h1 : (tgs tg).any (fun i => isOw (gS σ i)) = false) (h2 : setT tg d (killS (tgs tg) σ) = some σ') : setC tg d σ = some σ' := by
  unfold setC
  rw [if_neg (by rw [h1]; exact Bool.false_ne_true)]
  exact h2
theorem lcL_pure {α : Type} {f : D → RH → Res (Option D)} {ex : α → D} {o : α → Option D} {R : RH} : ∀ {xs : List α}, (∀ x ∈ xs, f (ex x) R = .ok (o x) R) → lcL f (xs.map ex) R = .ok (xs.filterMap o) R
  | [], _ => rfl
  | x :: xs, h => by
    simp only [List.map_cons, lcL]
    rw [h x List.mem_cons_self]
    simp only
    rw [lcL_pure fun y hy => h y (List.mem_cons_of_mem _ hy)]
    rw [List.filterMap_cons]
    cases o x <;> rfl
theorem fm_filter {α β : Type} {c : α → Bool} {f : α → β} : ∀ xs : List α, xs.filterMap (fun x => if c x = true then some (f x) else none) = (xs.filter c).map f
  | [] => rfl
  | x :: xs => by
    rw [List.filterMap_cons, List.filter_cons, fm_filter xs]
    cases q : c x <;> simp [q]
section
variable {ck : Nat → List D → RH → Res D} {α β : Type} {σ : List Sl} {ex : α → D} {enc : β → D} {p : Prop} {elt : Ex} {tg : Tg} {it : Itr} {cd : Ex} {xs : List α}
theorem TV.lc {f : α → β} {pf : α → Prop} (hi : TI ck it σ (xs.map ex) p) (hb : ∀ x, ∃ σx, setC tg (ex x) σ = some σx ∧ TV ck elt σx enc (f x) (pf x) ∧ ∀ r : Res D, stx elt σx r = r) :
    TV ck (.lc elt tg it .no) σ (eL enc) (xs.map f) (p ∧ ∀ x ∈ xs, pf x) := fun ⟨hp, hq⟩ R => by
  rw [ev_lc, hi hp R]
  show (lcL (lcF ck elt tg .no σ) (xs.map ex) R).bind _ = _
  rw [lcL_pure (o := fun x => some (enc (f x))) fun x hx => ?_]
  · simp only [Res.bind, eL, List.filterMap_eq_map', List.map_map]
    rfl
  · obtain ⟨σx, h1, h2, h3⟩ := hb x
    unfold lcF
    simp only [h1, evc, Res.bind, if_true, h3, h2 (hq x hx) R]
theorem TV.lcC {f : α → β} {c : α → Bool} {pf pc : α → Prop} (hi : TI ck it σ (xs.map ex) p) (hb : ∀ x, ∃ σx, setC tg (ex x) σ = some σx ∧ TV ck cd σx .bl (c x) (pc x) ∧ TV ck elt σx enc (f x) (pf x) ∧ ∀ r : Res D, stx elt σx r = r) :
    TV ck (.lc elt tg it (.so cd)) σ (eL enc) ((xs.filter c).map f) (p ∧ ∀ x ∈ xs, pc x ∧ (c x = true → pf x)) := fun ⟨hp, hq⟩ R => by
  rw [ev_lc, hi hp R]
  show (lcL (lcF ck elt tg (.so cd) σ) (xs.map ex) R).bind _ = _
  rw [lcL_pure (o := fun x => if c x = true then some (enc (f x)) else none) fun x hx => ?_]
  · simp only [Res.bind, eL, List.map_map]
    rw [fm_filter]
    rfl
  · obtain ⟨σx, h1, h0, h2, h3⟩ := hb x
    obtain ⟨q1, q2⟩ := hq x hx
    unfold lcF
    simp only [h1, evc, Res.bind, h0 q1 R]
    cases e : c x with
    | true => simp only [if_true, h3, h2 (q2 e) R]
    | false => simp only [Bool.false_eq_true, if_false]
/-! what may be none, unwrapped -/
theorem TV.un {γ : Type} [Inhabited γ] {en : γ → D} {o : Option γ} (h : TV ck a σ (eO en) o p) : TV ck a σ en (o.getD default) (p ∧ o.isSome = true) := fun ⟨hp, hs⟩ R => by
  obtain ⟨z, rfl⟩ := Option.isSome_iff_exists.mp hs
  exact h hp R
/-! own values of any kind -/
instance : Inhabited D := ⟨.non⟩
def isIn : D → Bool
  | .int _ => true
  | _ => false
def asI : D → Int
  | .int n => n
  | _ => 0
def isBo : D → Bool
  | .bl _ => true
  | _ => false
def asB : D → Bool
  | .bl b => b
  | _ => false
def isTu : D → Bool
  | .tup _ => true
  | _ => false
def asT : D → List D
  | .tup l => l
  | _ => []
def isLi : D → Bool
  | .lst _ => true
  | _ => false
def asL : D → List D
  | .lst l => l
  | _ => []
theorem map_eId (l : List D) : l.map eId = l := by
  show l.map (fun d => d) = l
  exact List.map_id' l
theorem cvL {γ : Type} {en : γ → D} {l : List γ} : eL en l = eL eId (l.map en) := by
  unfold eL
  rw [map_eId]
theorem cvT {γ : Type} {en : γ → D} {l : List γ} : eT en l = eT eId (l.map en) := by
  unfold eT
  rw [map_eId]
theorem TV.dyn (h : TV ck a σ enc v p) : TV ck a σ eId (enc v) p := TV.conv h rfl
theorem TV.asI {d : D} (h : TV ck a σ eId d p) : TV ck a σ .int (asI d) (p ∧ isIn d = true) := fun ⟨hp, hs⟩ R => by
  rw [h hp R]
  cases d <;> first | rfl | cases hs
theorem TV.asB {d : D} (h : TV ck a σ eId d p) : TV ck a σ .bl (asB d) (p ∧ isBo d = true) := fun ⟨hp, hs⟩ R => by
  rw [h hp R]
  cases d <;> first | rfl | cases hs
theorem TV.asT {d : D} (h : TV ck a σ eId d p) : TV ck a σ (eT eId) (asT d) (p ∧ isTu d = true) := fun ⟨hp, hs⟩ R => by
  rw [h hp R]
  cases d <;> first | (cases hs; done) | exact congrArg (fun z => Res.ok (D.tup z) R) (map_eId _).symm
theorem TV.asL {d : D} (h : TV ck a σ eId d p) : TV ck a σ (eL eId) (asL d) (p ∧ isLi d = true) := fun ⟨hp, hs⟩ R => by
  rw [h hp R]
  cases d <;> first | (cases hs; done) | exact congrArg (fun z => Res.ok (D.lst z) R) (map_eId _).symm
theorem TV.isiD {ks : List Kd} {d : D} (h : TV ck a σ eId d p) : TV ck (.isi ks a) σ .bl ((isKs ks d).getD false) (p ∧ (isKs ks d).isSome = true) := fun ⟨hp, hs⟩ R => by
  obtain ⟨z, hz⟩ := Option.isSome_iff_exists.mp hs
  simp only [ev, h hp R, Res.bind, eId, hz, Option.map, Res.of, Option.getD]
theorem TV.isND {d : D} (h : TV ck a σ eId d p) : TV ck (.cmp .is a (.con .non)) σ .bl (isNon d) p := fun hp R => by
  simp only [ev, h hp R, Res.bind, cmpD, Option.map, Res.of, eId]
theorem TV.isnND {d : D} (h : TV ck a σ eId d p) : TV ck (.cmp .isn a (.con .non)) σ .bl (!isNon d) p := fun hp R => by
  simp only [ev, h hp R, Res.bind, cmpD, Option.map, Res.of, eId]
theorem TV.eqD {d c : D} (h1 : TV ck a σ eId d p) (h2 : TV ck b σ eId c q) : TV ck (.cmp .eq a b) σ .bl (deq d c) (p ∧ q ∧ (flt d && flt c) = true) := fun ⟨hp, hq, f⟩ R => by
  simp only [ev, h1 hp R, h2 hq R, Res.bind, cmpD, eId, f, if_true, Option.map, Res.of]
theorem TV.neD {d c : D} (h1 : TV ck a σ eId d p) (h2 : TV ck b σ eId c q) : TV ck (.cmp .ne a b) σ .bl (!deq d c) (p ∧ q ∧ (flt d && flt c) = true) := fun ⟨hp, hq, f⟩ R => by
  simp only [ev, h1 hp R, h2 hq R, Res.bind, cmpD, eId, f, if_true, Option.map, Res.of]
def memD (d : D) (l : List D) : Bool := l.any fun y => deq y d
theorem TV.inD {d : D} {l : List D} (h1 : TV ck a σ eId d p) (h2 : TV ck b σ (eL eId) l q) : TV ck (.cmp .in_ a b) σ .bl (memD d l) (p ∧ q ∧ (flt d && l.all flt) = true) := fun ⟨hp, hq, f⟩ R => by
  simp only [ev, h1 hp R, h2 hq R, Res.bind, cmpD, eL, map_eId, eId, f, if_true, Option.map, Res.of]
  rfl
theorem TV.ninD {d : D} {l : List D} (h1 : TV ck a σ eId d p) (h2 : TV ck b σ (eL eId) l q) : TV ck (.cmp .nin a b) σ .bl (!memD d l) (p ∧ q ∧ (flt d && l.all flt) = true) := fun ⟨hp, hq, f⟩ R => by
  simp only [ev, h1 hp R, h2 hq R, Res.bind, cmpD, eL, map_eId, eId, f, if_true, Option.map, Res.of]
  rfl
theorem TV.inDT {d : D} {l : List D} (h1 : TV ck a σ eId d p) (h2 : TV ck b σ (eT eId) l q) : TV ck (.cmp .in_ a b) σ .bl (memD d l) (p ∧ q ∧ (flt d && l.all flt) = true) := fun ⟨hp, hq, f⟩ R => by
  simp only [ev, h1 hp R, h2 hq R, Res.bind, cmpD, eT, map_eId, eId, f, if_true, Option.map, Res.of]
  rfl
theorem TV.ninDT {d : D} {l : List D} (h1 : TV ck a σ eId d p) (h2 : TV ck b σ (eT eId) l q) : TV ck (.cmp .nin a b) σ .bl (!memD d l) (p ∧ q ∧ (flt d && l.all flt) = true) := fun ⟨hp, hq, f⟩ R => by
  simp only [ev, h1 hp R, h2 hq R, Res.bind, cmpD, eT, map_eId, eId, f, if_true, Option.map, Res.of]
  rfl
end
end Cw

end
section
/-! Nb: calls that borrow own lists. -/
namespace Cw
open PySem L2
/-- no list with identity within -/
class NR {α : Type} (e : α → D) : Prop where nr : ∀ a, noR (e a) = true
/-- no list within -/
class NL {α : Type} (e : α → D) : Prop where nl : ∀ a, noL (e a) = true
section
variable {α β γ δ ε : Type} {e : α → D} {f : β → D} {g : γ → D} {h : δ → D} {i : ε → D}
instance : NR D.int := ⟨fun _ => rfl⟩
instance : NR D.bl := ⟨fun _ => rfl⟩
instance : NR D.str := ⟨fun _ => rfl⟩
instance : NR eU := ⟨fun _ => rfl⟩
instance : NR D.fn := ⟨fun _ => rfl⟩
theorem nr_list [h : NR e] : ∀ l : List α, noRs (l.map e) = true
  | [] => rfl
  | a :: l => by
    rw [List.map_cons]
    show (noR (e a) && noRs (l.map e)) = true
    rw [h.nr, nr_list l]
    rfl
instance [NR e] : NR (eL e) := ⟨fun l => nr_list l⟩
instance [NR e] : NR (eT e) := ⟨fun l => nr_list l⟩
instance [h1 : NR e] [h2 : NR f] : NR (eP e f) := ⟨fun p => by simp [eP, noR, noRs, h1.nr, h2.nr]⟩
instance [h1 : NR e] [h2 : NR f] [h3 : NR g] : NR (eP3 e f g) := ⟨fun p => by simp [eP3, noR, noRs, h1.nr, h2.nr, h3.nr]⟩
instance [h1 : NR e] [h2 : NR f] [h3 : NR g] [h4 : NR h] : NR (eP4 e f g h) := ⟨fun p => by simp [eP4, noR, noRs, h1.nr, h2.nr, h3.nr, h4.nr]⟩
instance [h1 : NR e] : NR (eO e) := ⟨fun p => by cases p <;> simp [eO, noR, h1.nr]⟩
instance : NL D.int := ⟨fun _ => rfl⟩
instance : NL D.bl := ⟨fun _ => rfl⟩
instance : NL D.str := ⟨fun _ => rfl⟩
instance : NL eU := ⟨fun _ => rfl⟩
theorem nl_list [h : NL e] : ∀ l : List α, noLs (l.map e) = true
  | [] => rfl
  | a :: l => by
    rw [List.map_cons]
    show (noL (e a) && noLs (l.map e)) = true
    rw [h.nl, nl_list l]
    rfl
instance [NL e] : NL (eT e) := ⟨fun l => nl_list l⟩
instance [h1 : NL e] [h2 : NL f] : NL (eP e f) := ⟨fun p => by simp [eP, noL, noLs, h1.nl, h2.nl]⟩
instance [h1 : NL e] [h2 : NL f] [h3 : NL g] : NL (eP3 e f g) := ⟨fun p => by simp [eP3, noL, noLs, h1.nl, h2.nl, h3.nl]⟩
instance [h1 : NL e] [h2 : NL f] [h3 : NL g] [h4 : NL h] : NL (eP4 e f g h) := ⟨fun p => by simp [eP4, noL, noLs, h1.nl, h2.nl, h3.nl, h4.nl]⟩
instance [h1 : NL e] : NL (eO e) := ⟨fun p => by cases p <;> simp [eO, noL, h1.nl]⟩
end
theorem nrs_nil : noRs [] = true := rfl
theorem nrs_cons {α : Type} {e : α → D} [h : NR e] (v : α) {ds : List D} (t : noRs ds = true) : noRs (e v :: ds) = true := by
  show (noR (e v) && noRs ds) = true
  rw [h.nr, t]
  rfl
section
variable {ck : Nat → List D → RH → Res D} {α : Type} {enc : α → D} {v : α} {es : Exs} {σ : List Sl} {ds : List D} {p q : Prop}
theorem TV.callb {f : Nat} (hs : TVb ck es σ ds p) (hn : noRs ds = true) [hl : NL enc] (h : q → ∀ R, ck f ds R = .ok (enc v) R) : TV ck (.callb f es) σ enc v (p ∧ q) := fun ⟨hp, hq⟩ R => by
  simp only [ev, hs hp R, Res.bind, hn, if_true, h hq [], unb, hl.nl]
end
end Cw

end
section
/-! Ny: judgements for statements; native loops. -/
namespace Cw
open PySem L2
/-- slots that nobody reads -/
abbrev Js := List Sl
def jg (js : Js) (i : Nat) : Sl := js.getD i .no
/-- one that is no own list -/
def nw : Sl → Sl
  | .ow _ => .no
  | s => s
theorem isOw_no : isOw .no = false := rfl
theorem isOw_sh (d : D) : isOw (.sh d) = false := rfl
theorem isOw_nw (s : Sl) : isOw (nw s) = false := by cases s <;> rfl
/-- how a block may end: next, break, continue, return -/
inductive Fw (β α : Type) where | nx (a : α) | bk (a : α) | ct (a : α) | rt (b : β)
abbrev Po := Fl × List Sl
def pN {α : Type} (S : α → Js → List Sl) : α → Po → Prop := fun a o => ∃ js, o = (.nx, S a js)
def pR {β : Type} (enc : β → D) : β → Po → Prop := fun b o => (∃ σ', o = (.rt (enc b), σ')) ∨ (∃ σ', o = (.nx, σ') ∧ enc b = .non)
def pF {α β : Type} (enc : β → D) (S : α → Js → List Sl) : Fw β α → Po → Prop := fun m o => match m with
  | .nx a => ∃ js, o = (.nx, S a js)
  | .bk a => ∃ js, o = (.bk, S a js)
  | .ct a => ∃ js, o = (.ct, S a js)
  | .rt b => ∃ σ', o = (.rt (enc b), σ')
def isNx : Fl → Bool
  | .nx => true
  | _ => false
/-! native loops -/
def FoldOk {α β : Type} (step : β → α → β) (pb : β → α → Prop) : β → List α → Prop
  | _, [] => True
  | s, x :: xs => pb s x ∧ FoldOk step pb (step s x) xs
def forW {α β γ : Type} (step : γ → α → Fw β γ) : γ → List α → Fw β γ
  | s, [] => .nx s
  | s, x :: xs => match step s x with
    | .nx s1 => forW step s1 xs
    | .ct s1 => forW step s1 xs
    | .bk s1 => .nx s1
    | .rt b => .rt b
def ForOk {α β γ : Type} (step : γ → α → Fw β γ) (pb : γ → α → Prop) : γ → List α → Prop
  | _, [] => True
  | s, x :: xs => pb s x ∧ match step s x with
    | .nx s1 => ForOk step pb s1 xs
    | .ct s1 => ForOk step pb s1 xs
    | _ => True
def whlI {γ : Type} (c : γ → Bool) (next : γ → γ) : Nat → γ → γ
  | 0, s => s
  | n + 1, s => if c s = true then whlI c next n (next s) else s
def WhlOk {γ : Type} (c : γ → Bool) (next : γ → γ) (pc pb : γ → Prop) : Nat → γ → Prop
  | 0, _ => False
  | n + 1, s => pc s ∧ (c s = true → pb s ∧ WhlOk c next pc pb n (next s))
def whlW {β γ : Type} (c : γ → Bool) (next : γ → Fw β γ) : Nat → γ → Fw β γ
  | 0, s => .nx s
  | n + 1, s => if c s = true then match next s with
    | .nx s1 => whlW c next n s1
    | .ct s1 => whlW c next n s1
    | .bk s1 => .nx s1
    | .rt b => .rt b
    else .nx s
def WhwOk {β γ : Type} (c : γ → Bool) (next : γ → Fw β γ) (pc pb : γ → Prop) : Nat → γ → Prop
  | 0, _ => False
  | n + 1, s => pc s ∧ (c s = true → pb s ∧ match next s with
    | .nx s1 => WhwOk c next pc pb n s1
    | .ct s1 => WhwOk c next pc pb n s1
    | _ => True)
/-- what comes behind a loop that may return -/
def fwR {β γ : Type} (r : Fw β γ) (K : γ → β) : β := match r with
  | .rt b => b
  | .nx a => K a
  | .bk a => K a
  | .ct a => K a
def fwF {β γ δ : Type} (r : Fw β γ) (K : γ → Fw β δ) : Fw β δ := match r with
  | .rt b => .rt b
  | .nx a => K a
  | .bk a => K a
  | .ct a => K a
def fwN {γ δ : Type} (r : Fw Empty γ) (K : γ → δ) : δ := match r with
  | .rt b => nomatch b
  | .nx a => K a
  | .bk a => K a
  | .ct a => K a
def fwP {β γ : Type} (r : Fw β γ) (P : γ → Prop) : Prop := match r with
  | .rt _ => True
  | .nx a => P a
  | .bk a => P a
  | .ct a => P a
def eE (e : Empty) : D := nomatch e
section
variable (ck : Nat → List D → RH → Res D) (fu : Nat)
/-- x: it never falls through -/
def TQ {γ : Type} (x : Bool) (ss : Sms) (σ : List Sl) (Q : γ → Po → Prop) (m : γ) (p : Prop) : Prop := p → ∀ R, ∃ o, execs ck fu ss σ R = .ok o R ∧ Q m o ∧ (x = true → isNx o.1 = false)
def TP (is : List (Nat × Bool)) (es : Exs) (σ : List Sl) (ds : List D) (p : Prop) : Prop := p → ∀ R, evP ck is es σ R = .ok ds R
end
section
variable {ck : Nat → List D → RH → Res D} {fu : Nat} {α β γ δ : Type} {x : Bool} {ss a b : Sms} {σ σ' : List Sl} {Q : γ → Po → Prop} {m : γ} {enc : α → D} {v : α} {p q pa pb pr : Prop} {e : Ex} {i : Nat} {S : α → Js → List Sl}
theorem execs_cons {s : Sm} {R : RH} : execs ck fu (.cons s ss) σ R = sqK (fun σ R => execs ck fu ss σ R) (exec ck fu s σ R) := rfl
theorem TQ.at_ (σ' : List Sl) (h : σ = σ') (t : TQ ck fu x ss σ' Q m p) : TQ ck fu x ss σ Q m p := h ▸ t
theorem TQ.wkx (t : TQ ck fu true ss σ Q m p) : TQ ck fu x ss σ Q m p := fun hp R => let ⟨o, h1, h2, h3⟩ := t hp R; ⟨o, h1, h2, fun _ => h3 rfl⟩
theorem TQ.nilN (js : Js) (h : σ = S v js) : TQ ck fu false .nil σ (pN S) v True := fun _ R => ⟨(.nx, σ), rfl, ⟨js, by rw [h]⟩, fun h => by cases h⟩
theorem TQ.nilF {encb : β → D} (js : Js) (h : σ = S v js) : TQ ck fu false .nil σ (pF encb S) (.nx v) True := fun _ R => ⟨(.nx, σ), rfl, ⟨js, by rw [h]⟩, fun h => by cases h⟩
theorem TQ.nilR (h : enc v = .non) : TQ ck fu false .nil σ (pR enc) v True := fun _ R => ⟨(.nx, σ), rfl, .inr ⟨σ, rfl, h⟩, fun h => by cases h⟩
theorem TQ.set {K : α → γ} {P : α → Prop} (h : TV ck e σ enc v p) (hk : ∀ r : Res D, stx e σ r = r) (hr : ∀ y, TQ ck fu x ss (sS σ i (.sh (enc y))) Q (K y) (P y)) : TQ ck fu x (.cons (.set i (.ex e)) ss) σ Q (bnd v K) (p ∧ bnd v P) := fun ⟨hp, hq⟩ R => by
  obtain ⟨o, h1, h2⟩ := hr v hq R
  refine ⟨o, ?_, h2⟩
  rw [execs_cons]
  simp only [exec, evSE, hk, h hp R, Res.bind, sqK]
  exact h1
theorem TQ.ow {K : α → γ} {P : α → Prop} (h : TV ck e σ enc v p) (ho : ∀ y, ownable (enc y) = true) (hr : ∀ y, TQ ck fu x ss (sS σ i (.ow (enc y))) Q (K y) (P y)) : TQ ck fu x (.cons (.own i e) ss) σ Q (bnd v K) (p ∧ bnd v P) := fun ⟨hp, hq⟩ R => by
  obtain ⟨o, h1, h2⟩ := hr v hq R
  refine ⟨o, ?_, h2⟩
  rw [execs_cons]
  simp only [exec, h hp R, Res.bind, ho, if_true, sqK]
  exact h1
theorem TQ.unp {ts : Tgs} {K : α → γ} {P : α → Prop} (σ' : α → List Sl) (h : TV ck e σ enc v p) (hk : ∀ r : Res D, stx e σ r = r) (hs : ∀ y, setT (.tp ts) (enc y) σ = some (σ' y)) (hr : ∀ y, TQ ck fu x ss (σ' y) Q (K y) (P y)) : TQ ck fu x (.cons (.unp ts (.ex e)) ss) σ Q (bnd v K) (p ∧ bnd v P) := fun ⟨hp, hq⟩ R => by
  obtain ⟨o, h1, h2⟩ := hr v hq R
  refine ⟨o, ?_, h2⟩
  rw [execs_cons]
  simp only [exec, evSE, hk, h hp R, Res.bind, hs, sqK]
  exact h1
theorem TP.nil : TP ck [] .nil σ [] True := fun _ R => rfl
theorem TP.sh {es : Exs} {is : List (Nat × Bool)} {ds : List D} (h : TV ck e σ enc v p) (hk : ∀ r : Res D, stx e σ r = r) (t : TP ck is es σ ds q) : TP ck ((i, false) :: is) (.cons e es) σ (enc v :: ds) (p ∧ q) := fun ⟨hp, hq⟩ R => by
  simp only [evP, Bool.false_eq_true, if_false, hk, h hp R, Res.bind, false_and, t hq R]
theorem TP.ow {es : Exs} {is : List (Nat × Bool)} {ds : List D} (h : TV ck e σ enc v p) (ho : ∀ y, ownable (enc y) = true) (t : TP ck is es σ ds q) : TP ck ((i, true) :: is) (.cons e es) σ (enc v :: ds) (p ∧ q) := fun ⟨hp, hq⟩ R => by
  simp only [evP, if_true, h hp R, Res.bind, ho, Bool.true_eq_false, and_false, if_false, t hq R]
theorem TQ.par {is : List (Nat × Bool)} {es : Exs} {K : α → γ} {P : α → Prop} (dd : α → List D) (h : TP ck is es σ (dd v) p) (hr : ∀ y, TQ ck fu x ss (setP is (dd y) σ) Q (K y) (P y)) : TQ ck fu x (.cons (.par is es) ss) σ Q (bnd v K) (p ∧ bnd v P) := fun ⟨hp, hq⟩ R => by
  obtain ⟨o, h1, h2⟩ := hr v hq R
  refine ⟨o, ?_, h2⟩
  rw [execs_cons]
  simp only [exec, h hp R, Res.bind, sqK]
  exact h1
theorem TQ.xpr (h : TV ck e σ enc v p) (hk : ∀ r : Res D, stx e σ r = r) (hr : TQ ck fu x ss σ Q m pr) : TQ ck fu x (.cons (.xpr (.ex e)) ss) σ Q m (p ∧ pr) := fun ⟨hp, hq⟩ R => by
  obtain ⟨o, h1, h2⟩ := hr hq R
  refine ⟨o, ?_, h2⟩
  rw [execs_cons]
  simp only [exec, evSE, hk, h hp R, Res.bind, sqK]
  exact h1
theorem TQ.app {l : List α} {K : List α → γ} {P : List α → Prop} (hg : gS σ i = .ow (eL enc l)) (h : TV ck e σ enc v p) (hk : ∀ r : Res D, stx e σ r = r) (hr : ∀ y, TQ ck fu x ss (sS σ i (.ow (eL enc y))) Q (K y) (P y)) : TQ ck fu x (.cons (.app i (.ex e)) ss) σ Q (bnd (l ++ [v]) K) (p ∧ l.length < sizeLine ∧ bnd (l ++ [v]) P) := fun ⟨hp, hl, hq⟩ R => by
  obtain ⟨o, h1, h2⟩ := hr _ hq R
  refine ⟨o, ?_, h2⟩
  rw [execs_cons]
  unfold eL at hg h1
  simp only [exec, evSE, hk, h hp R, Res.bind, hg, List.length_map, hl, if_true, sqK]
  simpa using h1
theorem TQ.ext {l w : List α} {K : List α → γ} {P : List α → Prop} (hg : gS σ i = .ow (eL enc l)) (h : TV ck e σ (eL enc) w p) (hr : ∀ y, TQ ck fu x ss (sS σ i (.ow (eL enc y))) Q (K y) (P y)) : TQ ck fu x (.cons (.ext i e) ss) σ Q (bnd (l ++ w) K) (p ∧ l.length + w.length ≤ sizeLine ∧ bnd (l ++ w) P) := fun ⟨hp, hl, hq⟩ R => by
  obtain ⟨o, h1, h2⟩ := hr _ hq R
  refine ⟨o, ?_, h2⟩
  rw [execs_cons]
  unfold eL at hg h1 h
  simp only [exec, hg, h hp R, Res.bind, extD, List.length_map, hl, if_true, ofS, sqK]
  simpa using h1
theorem set_enc {l : List α} {j : Nat} {v : α} : (l.map enc).set j (enc v) = (l.set j v).map enc := by
  rw [List.map_set]
theorem TQ.sub {l : List α} {k : Ex} {z : Int} {pk : Prop} {K : List α → γ} {P : List α → Prop} (hg : gS σ i = .ow (eL enc l)) (hz : TV ck k σ .int z pk) (h : TV ck e σ enc v p) (hk : ∀ r : Res D, stx e σ r = r) (hr : ∀ y, TQ ck fu x ss (sS σ i (.ow (eL enc y))) Q (K y) (P y)) : TQ ck fu x (.cons (.sub i k e) ss) σ Q (bnd (sI l z v) K) (p ∧ pk ∧ okS l z ∧ bnd (sI l z v) P) := fun ⟨hp, hpk, hl, hq⟩ R => by
  obtain ⟨o, h1, h2⟩ := hr _ hq R
  refine ⟨o, ?_, h2⟩
  rw [execs_cons]
  obtain ⟨j, hj⟩ := Option.isSome_iff_exists.mp hl
  unfold sI at h1
  rw [hj] at h1
  unfold eL at hg h1
  simp only [exec, hk, h hp R, Res.bind, hg, hz hpk R, putD, List.length_map, hj, ofS, sqK, set_enc]
  exact h1
theorem TQ.asbA {l : List Int} {k : Ex} {z w : Int} {pk : Prop} {K : List Int → γ} {P : List Int → Prop} (hg : gS σ i = .ow (eL .int l)) (hz : TV ck k σ .int z pk) (h : TV ck e σ .int w p) (hr : ∀ y, TQ ck fu x ss (sS σ i (.ow (eL .int y))) Q (K y) (P y)) : TQ ck fu x (.cons (.asb i k .add e) ss) σ Q (bnd (sI l z (gI l z + w)) K) (pk ∧ okI l z ∧ p ∧ okS l z ∧ bnd (sI l z (gI l z + w)) P) := fun ⟨hpk, hi, hp, hl, hq⟩ R => by
  obtain ⟨o, h1, h2⟩ := hr _ hq R
  refine ⟨o, ?_, h2⟩
  rw [execs_cons]
  obtain ⟨j, hj⟩ := Option.isSome_iff_exists.mp hl
  unfold okI at hi
  obtain ⟨y, hy⟩ := Option.isSome_iff_exists.mp hi
  unfold sI gI at h1
  rw [hj, hy] at h1
  unfold eL at hg h1
  simp only [exec, h hp R, Res.bind, hg, hz hpk R, putD, List.length_map, hj, ofS, sqK, set_enc, idxD, atI_enc, hy, Option.map, augD]
  exact h1
theorem TQ.asbS {l : List Int} {k : Ex} {z w : Int} {pk : Prop} {K : List Int → γ} {P : List Int → Prop} (hg : gS σ i = .ow (eL .int l)) (hz : TV ck k σ .int z pk) (h : TV ck e σ .int w p) (hr : ∀ y, TQ ck fu x ss (sS σ i (.ow (eL .int y))) Q (K y) (P y)) : TQ ck fu x (.cons (.asb i k .sub e) ss) σ Q (bnd (sI l z (gI l z - w)) K) (pk ∧ okI l z ∧ p ∧ okS l z ∧ bnd (sI l z (gI l z - w)) P) := fun ⟨hpk, hi, hp, hl, hq⟩ R => by
  obtain ⟨o, h1, h2⟩ := hr _ hq R
  refine ⟨o, ?_, h2⟩
  rw [execs_cons]
  obtain ⟨j, hj⟩ := Option.isSome_iff_exists.mp hl
  unfold okI at hi
  obtain ⟨y, hy⟩ := Option.isSome_iff_exists.mp hi
  unfold sI gI at h1
  rw [hj, hy] at h1
  unfold eL at hg h1
  simp only [exec, h hp R, Res.bind, hg, hz hpk R, putD, List.length_map, hj, ofS, sqK, set_enc, idxD, atI_enc, hy, Option.map, augD]
  exact h1
theorem TQ.augA {z w : Int} {K : Int → γ} {P : Int → Prop} (hg : gS σ i = .sh (.int z)) (h : TV ck e σ .int w p) (hr : ∀ y, TQ ck fu x ss (sS σ i (.sh (.int y))) Q (K y) (P y)) : TQ ck fu x (.cons (.aug i .add e) ss) σ Q (bnd (z + w) K) (p ∧ bnd (z + w) P) := fun ⟨hp, hq⟩ R => by
  obtain ⟨o, h1, h2⟩ := hr _ hq R
  refine ⟨o, ?_, h2⟩
  rw [execs_cons]
  simp only [exec, hg, h hp R, Res.bind, augD, sqK]
  exact h1
theorem TQ.augS {z w : Int} {K : Int → γ} {P : Int → Prop} (hg : gS σ i = .sh (.int z)) (h : TV ck e σ .int w p) (hr : ∀ y, TQ ck fu x ss (sS σ i (.sh (.int y))) Q (K y) (P y)) : TQ ck fu x (.cons (.aug i .sub e) ss) σ Q (bnd (z - w) K) (p ∧ bnd (z - w) P) := fun ⟨hp, hq⟩ R => by
  obtain ⟨o, h1, h2⟩ := hr _ hq R
  refine ⟨o, ?_, h2⟩
  rw [execs_cons]
  simp only [exec, hg, h hp R, Res.bind, augD, sqK]
  exact h1
theorem TQ.esc {is : List Nat} (hr : TQ ck fu x ss (escS is σ) Q m p) : TQ ck fu x (.cons (.esc is) ss) σ Q m p := fun hp R => by
  obtain ⟨o, h1, h2⟩ := hr hp R
  exact ⟨o, by rw [execs_cons]; simp only [exec, sqK]; exact h1, h2⟩
theorem TQ.pas (hr : TQ ck fu x ss σ Q m p) : TQ ck fu x (.cons .pas ss) σ Q m p := fun hp R => by
  obtain ⟨o, h1, h2⟩ := hr hp R
  exact ⟨o, by rw [execs_cons]; simp only [exec, sqK]; exact h1, h2⟩
theorem TQ.retR (h : TV ck e σ enc v p) : TQ ck fu x (.cons (.ret (.ex e)) ss) σ (pR enc) v p := fun hp R => by
  refine ⟨(.rt (enc v), σ), ?_, .inl ⟨σ, rfl⟩, fun _ => rfl⟩
  rw [execs_cons]
  simp only [exec, h hp R, Res.bind, sqK]
theorem TQ.retF (h : TV ck e σ enc v p) {δ : Type} {T : δ → Js → List Sl} : TQ ck fu x (.cons (.ret (.ex e)) ss) σ (pF enc T) (.rt v) p := fun hp R => by
  refine ⟨(.rt (enc v), σ), ?_, ⟨σ, rfl⟩, fun _ => rfl⟩
  rw [execs_cons]
  simp only [exec, h hp R, Res.bind, sqK]
theorem TQ.retNR (h : enc v = .non) : TQ ck fu x (.cons .retN ss) σ (pR enc) v True := fun hp R => by
  refine ⟨(.rt (enc v), σ), ?_, .inl ⟨σ, rfl⟩, fun _ => rfl⟩
  rw [execs_cons, h]
  rfl
theorem TQ.retNF (h : enc v = .non) {δ : Type} {T : δ → Js → List Sl} : TQ ck fu x (.cons .retN ss) σ (pF enc T) (.rt v) True := fun hp R => by
  refine ⟨(.rt (enc v), σ), ?_, ⟨σ, rfl⟩, fun _ => rfl⟩
  rw [execs_cons, h]
  rfl
theorem TQ.brk {encb : β → D} (js : Js) (h : σ = S v js) : TQ ck fu x (.cons .brk ss) σ (pF encb S) (.bk v) True := fun _ R => ⟨(.bk, σ), rfl, ⟨js, by rw [h]⟩, fun _ => rfl⟩
theorem TQ.cnt {encb : β → D} (js : Js) (h : σ = S v js) : TQ ck fu x (.cons .cnt ss) σ (pF encb S) (.ct v) True := fun _ R => ⟨(.ct, σ), rfl, ⟨js, by rw [h]⟩, fun _ => rfl⟩
/-! branches -/
theorem ite_run {c : Ex} {b1 : Bool} (h : TV ck c σ .bl b1 p) (hp : p) {R : RH} : exec ck fu (.ite c a b) σ R = if b1 = true then execs ck fu a σ R else execs ck fu b σ R := by
  simp only [exec, h hp R, Res.bind]
  cases b1 <;> rfl
/-- what stands behind is only reached without the branch -/
theorem TQ.iteE {c : Ex} {b1 : Bool} {ma mr : γ} (h : TV ck c σ .bl b1 p) (ha : TQ ck fu true a σ Q ma pa) (hr : TQ ck fu x ss σ Q mr pr) : TQ ck fu x (.cons (.ite c a .nil) ss) σ Q (if b1 = true then ma else mr) (p ∧ (b1 = true → pa) ∧ (b1 = false → pr)) := fun ⟨hp, h1, h2⟩ R => by
  rw [execs_cons, ite_run h hp]
  cases b1 with
  | true =>
    obtain ⟨o, g1, g2, g3⟩ := ha (h1 rfl) R
    refine ⟨o, ?_, g2, fun _ => g3 rfl⟩
    rw [if_pos rfl, g1]
    have g4 := g3 rfl
    obtain ⟨f, σ'⟩ := o
    cases f <;> first | rfl | cases g4
  | false =>
    obtain ⟨o, g1, g2⟩ := hr (h2 rfl) R
    exact ⟨o, by simp only [Bool.false_eq_true, if_false, execs, sqK]; exact g1, g2⟩
/-- it must not raise -/
theorem TQ.iteR {c : Ex} {b1 : Bool} {k : Nat} {mr : γ} {s' : Sms} (h : TV ck c σ .bl b1 p) (hr : TQ ck fu x ss σ Q mr pr) : TQ ck fu x (.cons (.ite c (.cons (.raise k) s') .nil) ss) σ Q mr (p ∧ b1 = false ∧ pr) := fun ⟨hp, h1, h2⟩ R => by
  rw [execs_cons, ite_run h hp]
  subst h1
  obtain ⟨o, g1, g2⟩ := hr h2 R
  exact ⟨o, by simp only [Bool.false_eq_true, if_false, execs, sqK]; exact g1, g2⟩
/-- both leave -/
theorem TQ.iteB {c : Ex} {b1 : Bool} {ma mb : γ} (h : TV ck c σ .bl b1 p) (ha : TQ ck fu true a σ Q ma pa) (hb : TQ ck fu true b σ Q mb pb) : TQ ck fu x (.cons (.ite c a b) ss) σ Q (if b1 = true then ma else mb) (p ∧ (b1 = true → pa) ∧ (b1 = false → pb)) := fun ⟨hp, h1, h2⟩ R => by
  rw [execs_cons, ite_run h hp]
  cases b1 with
  | true =>
    obtain ⟨o, g1, g2, g3⟩ := ha (h1 rfl) R
    refine ⟨o, ?_, g2, fun _ => g3 rfl⟩
    rw [if_pos rfl, g1]
    have g4 := g3 rfl
    obtain ⟨f, σ'⟩ := o
    cases f <;> first | rfl | cases g4
  | false =>
    obtain ⟨o, g1, g2, g3⟩ := hb (h2 rfl) R
    refine ⟨o, ?_, g2, fun _ => g3 rfl⟩
    rw [if_neg Bool.false_ne_true, g1]
    have g4 := g3 rfl
    obtain ⟨f, σ'⟩ := o
    cases f <;> first | rfl | cases g4
/-- the second one leaves -/
theorem TQ.iteE2 {c : Ex} {b1 : Bool} {mb : γ} {va : α} {K : α → γ} {P : α → Prop} (h : TV ck c σ .bl b1 p) (ha : TQ ck fu false a σ (pN S) va pa) (hb : TQ ck fu true b σ Q mb pb) (hr : ∀ y js, TQ ck fu x ss (S y js) Q (K y) (P y)) : TQ ck fu x (.cons (.ite c a b) ss) σ Q (if b1 = true then bnd va K else mb) (p ∧ (b1 = true → pa ∧ bnd va P) ∧ (b1 = false → pb)) := fun ⟨hp, h1, h2⟩ R => by
  rw [execs_cons, ite_run h hp]
  cases b1 with
  | true =>
    obtain ⟨q1, q2⟩ := h1 rfl
    obtain ⟨o, g1, ⟨js, g2⟩, _⟩ := ha q1 R
    subst g2
    obtain ⟨o, r1, r2⟩ := hr va js q2 R
    refine ⟨o, ?_, r2⟩
    rw [if_pos rfl, g1]
    exact r1
  | false =>
    obtain ⟨o, g1, g2, g3⟩ := hb (h2 rfl) R
    refine ⟨o, ?_, g2, fun _ => g3 rfl⟩
    rw [if_neg Bool.false_ne_true, g1]
    have g4 := g3 rfl
    obtain ⟨f, σ'⟩ := o
    cases f <;> first | rfl | cases g4
/-- both go on -/
theorem TQ.iteJ {c : Ex} {b1 : Bool} {va vb : α} {K : α → γ} {P : α → Prop} (h : TV ck c σ .bl b1 p) (ha : TQ ck fu false a σ (pN S) va pa) (hb : TQ ck fu false b σ (pN S) vb pb) (hr : ∀ y js, TQ ck fu x ss (S y js) Q (K y) (P y)) : TQ ck fu x (.cons (.ite c a b) ss) σ Q (bnd (if b1 = true then va else vb) K) (p ∧ (b1 = true → pa) ∧ (b1 = false → pb) ∧ bnd (if b1 = true then va else vb) P) := fun ⟨hp, h1, h2, h3⟩ R => by
  rw [execs_cons, ite_run h hp]
  unfold bnd at h3
  cases b1 with
  | true =>
    obtain ⟨o, g1, ⟨js, g2⟩, _⟩ := ha (h1 rfl) R
    subst g2
    obtain ⟨o, r1, r2⟩ := hr va js h3 R
    exact ⟨o, by rw [if_pos rfl, g1]; exact r1, r2⟩
  | false =>
    obtain ⟨o, g1, ⟨js, g2⟩, _⟩ := hb (h2 rfl) R
    subst g2
    obtain ⟨o, r1, r2⟩ := hr vb js h3 R
    exact ⟨o, by rw [if_neg Bool.false_ne_true, g1]; exact r1, r2⟩
/-- the last one: both may end as they like -/
theorem TQ.iteL {c : Ex} {b1 : Bool} {ma mb : γ} (h : TV ck c σ .bl b1 p) (ha : TQ ck fu x a σ Q ma pa) (hb : TQ ck fu x b σ Q mb pb) : TQ ck fu x (.cons (.ite c a b) .nil) σ Q (if b1 = true then ma else mb) (p ∧ (b1 = true → pa) ∧ (b1 = false → pb)) := fun ⟨hp, h1, h2⟩ R => by
  rw [execs_cons, ite_run h hp]
  have k : ∀ r : Res (Fl × List Sl), sqK (fun σ R => execs ck fu .nil σ R) r = r := fun r => by
    cases r with
    | ok o R =>
      obtain ⟨f, σ'⟩ := o
      cases f <;> rfl
    | exc c R => rfl
    | bad => rfl
  rw [k]
  cases b1 with
  | true => exact ha (h1 rfl) R
  | false => exact hb (h2 rfl) R
/-! loops -/
theorem forL_run {f : D → List Sl → RH → Res (Fl × List Sl)} {ex : β → D} {step : α → β → α} {pb : α → β → Prop} {R : RH} (hf : ∀ s js y, pb s y → ∃ js', f (ex y) (S s js) R = .ok (.nx, S (step s y) js') R) :
    ∀ {xs : List β} {s : α} {js : Js}, FoldOk step pb s xs → ∃ js', forL f (xs.map ex) (S s js) R = .ok (.nx, S (xs.foldl step s) js') R
  | [], s, js, _ => ⟨js, rfl⟩
  | y :: xs, s, js, ⟨h1, h2⟩ => by
    obtain ⟨js1, e1⟩ := hf s js y h1
    obtain ⟨js2, e2⟩ := forL_run hf (js := js1) h2
    exact ⟨js2, by simp only [List.map_cons, forL, e1, e2, List.foldl_cons]⟩
theorem TQ.for_ {tg : Tg} {it : Itr} {body : Sms} {xs : List β} {ex : β → D} {s0 : α} {step : α → β → α} {pb : α → β → Prop} {K : α → γ} {P : α → Prop} (S : α → Js → List Sl) (js0 : Js) (hi : TIs ck it σ (xs.map ex) p) (h0 : σ = S s0 js0) (hb : ∀ s js y, ∃ σ1, setT tg (ex y) (S s js) = some σ1 ∧ TQ ck fu false body σ1 (pN S) (step s y) (pb s y)) (hr : ∀ s js, TQ ck fu x ss (S s js) Q (K s) (P s)) :
    TQ ck fu x (.cons (.for_ tg it body) ss) σ Q (bnd (xs.foldl step s0) K) (p ∧ FoldOk step pb s0 xs ∧ bnd (xs.foldl step s0) P) := fun ⟨hp, hf, hq⟩ R => by
  subst h0
  obtain ⟨js1, e⟩ := forL_run (f := forF ck fu tg body) (ex := ex) (R := R) (fun s js y hy => by
    obtain ⟨σ1, g1, g2⟩ := hb s js y
    obtain ⟨o, r1, ⟨js', r2⟩, _⟩ := g2 hy R
    subst r2
    exact ⟨js', by unfold forF; rw [g1]; exact r1⟩) (js := js0) hf
  obtain ⟨o, r1, r2⟩ := hr _ js1 hq R
  exact ⟨o, by rw [execs_cons, exec_for, hi hp R]; simp only [Res.bind, e, sqK]; exact r1, r2⟩
theorem forW_run {f : D → List Sl → RH → Res (Fl × List Sl)} {encb : δ → D} {ex : β → D} {step : α → β → Fw δ α} {pb : α → β → Prop} {R : RH} (hf : ∀ s js y, pb s y → ∃ o, f (ex y) (S s js) R = .ok o R ∧ pF encb S (step s y) o) :
    ∀ {xs : List β} {s : α} {js : Js}, ForOk step pb s xs → match forW step s xs with
      | .rt v => ∃ σ', forL f (xs.map ex) (S s js) R = .ok (.rt (encb v), σ') R
      | .nx a => ∃ js', forL f (xs.map ex) (S s js) R = .ok (.nx, S a js') R
      | .bk a => False
      | .ct a => False
  | [], s, js, _ => ⟨js, rfl⟩
  | y :: xs, s, js, ⟨h1, h2⟩ => by
    obtain ⟨o, e1, e2⟩ := hf s js y h1
    simp only [List.map_cons, forL, e1, forW]
    cases q : step s y with
    | nx a =>
      rw [q] at h2 e2
      obtain ⟨js1, rfl⟩ := e2
      exact forW_run hf (js := js1) h2
    | ct a =>
      rw [q] at h2 e2
      obtain ⟨js1, rfl⟩ := e2
      exact forW_run hf (js := js1) h2
    | bk a =>
      rw [q] at e2
      obtain ⟨js1, rfl⟩ := e2
      exact ⟨js1, rfl⟩
    | rt v =>
      rw [q] at e2
      obtain ⟨σ', rfl⟩ := e2
      exact ⟨σ', rfl⟩
theorem forW_not {δ : Type} {step : α → β → Fw δ α} : ∀ (xs : List β) (s a : α), forW step s xs ≠ .bk a ∧ forW step s xs ≠ .ct a
  | [], s, a => ⟨by simp [forW], by simp [forW]⟩
  | y :: xs, s, a => by
    simp only [forW]
    cases step s y with
    | nx b => exact forW_not xs b a
    | ct b => exact forW_not xs b a
    | bk b => exact ⟨by simp, by simp⟩
    | rt v => exact ⟨by simp, by simp⟩
section
variable {tg : Tg} {it : Itr} {body : Sms} {xs : List β} {ex : β → D} {s0 : α} {pb : α → β → Prop} {P : α → Prop}
theorem TQ.forR {step : α → β → Fw δ α} {encb : δ → D} {K : α → δ} (S : α → Js → List Sl) (js0 : Js) (hi : TIs ck it σ (xs.map ex) p) (h0 : σ = S s0 js0) (hb : ∀ s js y, ∃ σ1, setT tg (ex y) (S s js) = some σ1 ∧ TQ ck fu false body σ1 (pF encb S) (step s y) (pb s y)) (hr : ∀ s js, TQ ck fu x ss (S s js) (pR encb) (K s) (P s)) :
    TQ ck fu x (.cons (.for_ tg it body) ss) σ (pR encb) (fwR (forW step s0 xs) K) (p ∧ ForOk step pb s0 xs ∧ fwP (forW step s0 xs) P) := fun ⟨hp, hf, hq⟩ R => by
  subst h0
  have e := forW_run (f := forF ck fu tg body) (ex := ex) (R := R) (fun s js y hy => by
    obtain ⟨σ1, g1, g2⟩ := hb s js y
    obtain ⟨o, r1, r2, _⟩ := g2 hy R
    exact ⟨o, by unfold forF; rw [g1]; exact r1, r2⟩) (js := js0) hf
  cases q : forW step s0 xs with
  | rt v =>
    rw [q] at e
    obtain ⟨σ', e⟩ := e
    exact ⟨(.rt (encb v), σ'), by rw [execs_cons, exec_for, hi hp R]; simp only [Res.bind, e, sqK], .inl ⟨σ', rfl⟩, fun _ => rfl⟩
  | nx a =>
    rw [q] at e hq
    obtain ⟨js1, e⟩ := e
    obtain ⟨o, r1, r2⟩ := hr a js1 hq R
    exact ⟨o, by rw [execs_cons, exec_for, hi hp R]; simp only [Res.bind, e, sqK]; exact r1, r2⟩
  | bk a => rw [q] at e; exact e.elim
  | ct a => rw [q] at e; exact e.elim
theorem TQ.forFw {step : α → β → Fw δ α} {encb : δ → D} {K : α → Fw δ γ} {T : γ → Js → List Sl} (S : α → Js → List Sl) (js0 : Js) (hi : TIs ck it σ (xs.map ex) p) (h0 : σ = S s0 js0) (hb : ∀ s js y, ∃ σ1, setT tg (ex y) (S s js) = some σ1 ∧ TQ ck fu false body σ1 (pF encb S) (step s y) (pb s y)) (hr : ∀ s js, TQ ck fu x ss (S s js) (pF encb T) (K s) (P s)) :
    TQ ck fu x (.cons (.for_ tg it body) ss) σ (pF encb T) (fwF (forW step s0 xs) K) (p ∧ ForOk step pb s0 xs ∧ fwP (forW step s0 xs) P) := fun ⟨hp, hf, hq⟩ R => by
  subst h0
  have e := forW_run (f := forF ck fu tg body) (ex := ex) (R := R) (fun s js y hy => by
    obtain ⟨σ1, g1, g2⟩ := hb s js y
    obtain ⟨o, r1, r2, _⟩ := g2 hy R
    exact ⟨o, by unfold forF; rw [g1]; exact r1, r2⟩) (js := js0) hf
  cases q : forW step s0 xs with
  | rt v =>
    rw [q] at e
    obtain ⟨σ', e⟩ := e
    exact ⟨(.rt (encb v), σ'), by rw [execs_cons, exec_for, hi hp R]; simp only [Res.bind, e, sqK], ⟨σ', rfl⟩, fun _ => rfl⟩
  | nx a =>
    rw [q] at e hq
    obtain ⟨js1, e⟩ := e
    obtain ⟨o, r1, r2⟩ := hr a js1 hq R
    exact ⟨o, by rw [execs_cons, exec_for, hi hp R]; simp only [Res.bind, e, sqK]; exact r1, r2⟩
  | bk a => rw [q] at e; exact e.elim
  | ct a => rw [q] at e; exact e.elim
/-- with break or continue, no return -/
theorem TQ.forB {step : α → β → Fw Empty α} {K : α → γ} (S : α → Js → List Sl) (js0 : Js) (hi : TIs ck it σ (xs.map ex) p) (h0 : σ = S s0 js0) (hb : ∀ s js y, ∃ σ1, setT tg (ex y) (S s js) = some σ1 ∧ TQ ck fu false body σ1 (pF eE S) (step s y) (pb s y)) (hr : ∀ s js, TQ ck fu x ss (S s js) Q (K s) (P s)) :
    TQ ck fu x (.cons (.for_ tg it body) ss) σ Q (fwN (forW step s0 xs) K) (p ∧ ForOk step pb s0 xs ∧ fwP (forW step s0 xs) P) := fun ⟨hp, hf, hq⟩ R => by
  subst h0
  have e := forW_run (f := forF ck fu tg body) (ex := ex) (R := R) (fun s js y hy => by
    obtain ⟨σ1, g1, g2⟩ := hb s js y
    obtain ⟨o, r1, r2, _⟩ := g2 hy R
    exact ⟨o, by unfold forF; rw [g1]; exact r1, r2⟩) (js := js0) hf
  cases q : forW step s0 xs with
  | rt v => exact nomatch v
  | nx a =>
    rw [q] at e hq
    obtain ⟨js1, e⟩ := e
    obtain ⟨o, r1, r2⟩ := hr a js1 hq R
    exact ⟨o, by rw [execs_cons, exec_for, hi hp R]; simp only [Res.bind, e, sqK]; exact r1, r2⟩
  | bk a => rw [q] at e; exact e.elim
  | ct a => rw [q] at e; exact e.elim
end
theorem whlI_run {c : List Sl → RH → Res D} {b : List Sl → RH → Res (Fl × List Sl)} {cond : α → Bool} {next : α → α} {pc pb : α → Prop} {R : RH} (hc : ∀ s js, pc s → c (S s js) R = .ok (.bl (cond s)) R) (hb : ∀ s js, pb s → ∃ js', b (S s js) R = .ok (.nx, S (next s) js') R) :
    ∀ {n : Nat} {s : α} {js : Js}, WhlOk cond next pc pb n s → ∃ js', whlL c b n (S s js) R = .ok (.nx, S (whlI cond next n s) js') R
  | 0, _, _, h => h.elim
  | n + 1, s, js, ⟨h1, h2⟩ => by
    simp only [whlL, whlI]
    rw [hc s js h1]
    cases q : cond s with
    | false => exact ⟨js, rfl⟩
    | true =>
      obtain ⟨g1, g2⟩ := h2 q
      obtain ⟨js1, e1⟩ := hb s js g1
      simp only [e1, if_true]
      exact whlI_run hc hb (js := js1) g2
theorem TQ.whl {c : Ex} {body : Sms} {s0 : α} {cond : α → Bool} {next : α → α} {pc pb : α → Prop} {K : α → γ} {P : α → Prop} (S : α → Js → List Sl) (js0 : Js) (h0 : σ = S s0 js0) (hc : ∀ s js, TV ck c (S s js) .bl (cond s) (pc s)) (hb : ∀ s js, TQ ck fu false body (S s js) (pN S) (next s) (pb s)) (hr : ∀ s js, TQ ck fu x ss (S s js) Q (K s) (P s)) :
    TQ ck fu x (.cons (.whl c body) ss) σ Q (bnd (whlI cond next fu s0) K) (WhlOk cond next pc pb fu s0 ∧ bnd (whlI cond next fu s0) P) := fun ⟨hf, hq⟩ R => by
  subst h0
  obtain ⟨js1, e⟩ := whlI_run (S := S) (c := fun σ R => ev ck c σ R) (b := fun σ R => execs ck fu body σ R) (R := R) (fun s js h => hc s js h R) (fun s js h => by
    obtain ⟨o, r1, ⟨js', r2⟩, _⟩ := hb s js h R
    subst r2
    exact ⟨js', r1⟩) (js := js0) hf
  obtain ⟨o, r1, r2⟩ := hr _ js1 hq R
  exact ⟨o, by rw [execs_cons]; simp only [exec, e, sqK]; exact r1, r2⟩
theorem whlW_run {c : List Sl → RH → Res D} {b : List Sl → RH → Res (Fl × List Sl)} {encb : δ → D} {cond : α → Bool} {next : α → Fw δ α} {pc pb : α → Prop} {R : RH} (hc : ∀ s js, pc s → c (S s js) R = .ok (.bl (cond s)) R) (hb : ∀ s js, pb s → ∃ o, b (S s js) R = .ok o R ∧ pF encb S (next s) o) :
    ∀ {n : Nat} {s : α} {js : Js}, WhwOk cond next pc pb n s → match whlW cond next n s with
      | .rt v => ∃ σ', whlL c b n (S s js) R = .ok (.rt (encb v), σ') R
      | .nx a => ∃ js', whlL c b n (S s js) R = .ok (.nx, S a js') R
      | .bk a => False
      | .ct a => False
  | 0, _, _, h => h.elim
  | n + 1, s, js, ⟨h1, h2⟩ => by
    simp only [whlL, whlW]
    rw [hc s js h1]
    cases q : cond s with
    | false => exact ⟨js, rfl⟩
    | true =>
      obtain ⟨g1, g2⟩ := h2 q
      obtain ⟨o, e1, e2⟩ := hb s js g1
      simp only [e1, if_true]
      cases q2 : next s with
      | nx a =>
        rw [q2] at g2 e2
        obtain ⟨js1, rfl⟩ := e2
        exact whlW_run hc hb (js := js1) g2
      | ct a =>
        rw [q2] at g2 e2
        obtain ⟨js1, rfl⟩ := e2
        exact whlW_run hc hb (js := js1) g2
      | bk a =>
        rw [q2] at e2
        obtain ⟨js1, rfl⟩ := e2
        exact ⟨js1, rfl⟩
      | rt v =>
        rw [q2] at e2
        obtain ⟨σ', rfl⟩ := e2
        exact ⟨σ', rfl⟩
theorem TQ.whlR {c : Ex} {body : Sms} {s0 : α} {encb : δ → D} {cond : α → Bool} {next : α → Fw δ α} {pc pb : α → Prop} {K : α → δ} {P : α → Prop} (S : α → Js → List Sl) (js0 : Js) (h0 : σ = S s0 js0) (hc : ∀ s js, TV ck c (S s js) .bl (cond s) (pc s)) (hb : ∀ s js, TQ ck fu false body (S s js) (pF encb S) (next s) (pb s)) (hr : ∀ s js, TQ ck fu x ss (S s js) (pR encb) (K s) (P s)) :
    TQ ck fu x (.cons (.whl c body) ss) σ (pR encb) (fwR (whlW cond next fu s0) K) (WhwOk cond next pc pb fu s0 ∧ fwP (whlW cond next fu s0) P) := fun ⟨hf, hq⟩ R => by
  subst h0
  have e := whlW_run (S := S) (c := fun σ R => ev ck c σ R) (b := fun σ R => execs ck fu body σ R) (R := R) (fun s js h => hc s js h R) (fun s js h => by
    obtain ⟨o, r1, r2, _⟩ := hb s js h R
    exact ⟨o, r1, r2⟩) (js := js0) hf
  cases q : whlW cond next fu s0 with
  | rt v =>
    rw [q] at e
    obtain ⟨σ', e⟩ := e
    exact ⟨(.rt (encb v), σ'), by rw [execs_cons]; simp only [exec, e, sqK], .inl ⟨σ', rfl⟩, fun _ => rfl⟩
  | nx a =>
    rw [q] at e hq
    obtain ⟨js1, e⟩ := e
    obtain ⟨o, r1, r2⟩ := hr a js1 hq R
    exact ⟨o, by rw [execs_cons]; simp only [exec, e, sqK]; exact r1, r2⟩
  | bk a => rw [q] at e; exact e.elim
  | ct a => rw [q] at e; exact e.elim
theorem TQ.wkp (t : TQ ck fu x ss σ Q m p) (h : q → p) : TQ ck fu x ss σ Q m q := fun hq => t (h hq)
theorem bnd_true {α : Type} {v : α} : bnd v (fun _ => True) = True := rfl
theorem foldOk_true {α β : Type} {step : β → α → β} : ∀ {s : β} {xs : List α}, FoldOk step (fun _ _ => True) s xs = True
  | _, [] => rfl
  | s, x :: xs => by simp only [FoldOk, true_and, foldOk_true]
theorem forOk_true {α β γ : Type} {step : γ → α → Fw β γ} : ∀ {s : γ} {xs : List α}, ForOk step (fun _ _ => True) s xs = True
  | _, [] => rfl
  | s, x :: xs => by
    simp only [ForOk, true_and]
    cases step s x <;> simp [forOk_true]
theorem fwP_true {β γ : Type} {r : Fw β γ} : fwP r (fun _ => True) = True := by cases r <;> rfl
/-! a def -/
theorem TQ.run {d : Df} {args : List D} (hl : args.length = d.ps.length) (h : TQ ck fu x d.code (args.map Sl.sh ++ List.replicate (d.N.length - args.length) Sl.no) (pR enc) v p) (hp : p) (R : RH) : runD ck fu d args R = .ok (enc v) R := by
  obtain ⟨o, h1, h2, _⟩ := h hp R
  unfold runD
  rw [if_pos hl, h1]
  rcases h2 with ⟨σ', rfl⟩ | ⟨σ', rfl, e⟩
  · rfl
  · show Res.ok D.non R = _
    rw [e]
end
end Cw

end
section
/-! Nw: judgements for what draws: what must hold whatever is drawn. -/
namespace Cw
open PySem L2
section
variable (VB : RH → Prop) (ck : Nat → List D → RH → Res D) (fu : Nat)
def WE {α : Type} (e : Ex) (σ : List Sl) (enc : α → D) (w : (α → Prop) → Prop) : Prop := ∀ K, w K → ∀ R, VB R → ∃ v R', ev ck e σ R = .ok (enc v) R' ∧ VB R' ∧ K v
def WC {α : Type} (f : Nat) (ds : List D) (enc : α → D) (w : (α → Prop) → Prop) : Prop := ∀ K, w K → ∀ R, VB R → ∃ v R', ck f ds R = .ok (enc v) R' ∧ VB R' ∧ K v
def WLs {α : Type} (es : Exs) (σ : List Sl) (enc : α → D) (w : (List α → Prop) → Prop) : Prop := ∀ K, w K → ∀ R, VB R → ∃ v R', evs ck es σ R = .ok (v.map enc) R' ∧ VB R' ∧ K v
def WI {α : Type} (it : Itr) (σ : List Sl) (ex : α → D) (w : (List α → Prop) → Prop) : Prop := ∀ K, w K → ∀ R, VB R → ∃ v R', evi ck it σ R = .ok (v.map ex) R' ∧ VB R' ∧ K v
def WIs {α : Type} (it : Itr) (σ : List Sl) (ex : α → D) (w : (List α → Prop) → Prop) : Prop := ∀ K, w K → ∀ R, VB R → ∃ v R', evis ck true it σ R = .ok (v.map ex) R' ∧ VB R' ∧ K v
def WA (es : Exs) (σ : List Sl) (w : (Bool → Prop) → Prop) : Prop := ∀ K, w K → ∀ R, VB R → ∃ v R', evAnd ck es σ R = .ok (.bl v) R' ∧ VB R' ∧ K v
def WO (es : Exs) (σ : List Sl) (w : (Bool → Prop) → Prop) : Prop := ∀ K, w K → ∀ R, VB R → ∃ v R', evOr ck es σ R = .ok (.bl v) R' ∧ VB R' ∧ K v
def WPc {α : Type} (b : Bool) (e : Ex) (σ : List Sl) (enc : α → D) (w : (α → Prop) → Prop) : Prop := ∀ K, w K → ∀ R, VB R → ∃ v R', (if b = true then ev ck e σ R else stx e σ (ev ck e σ R)) = .ok (enc v) R' ∧ VB R' ∧ K v ∧ (b = true → ownable (enc v) = true)
def WB {α β : Type} (x : Bool) (ss : Sms) (σ : List Sl) (enc : β → D) (S : α → Js → List Sl) (w : (Fw β α → Prop) → Prop) : Prop := ∀ K, w K → ∀ R, VB R → ∃ o R' m, execs ck fu ss σ R = .ok o R' ∧ VB R' ∧ pF enc S m o ∧ K m ∧ (x = true → isNx o.1 = false)
end
def rtK {α β : Type} (K : β → Prop) (m : Fw β α) : Prop := match m with
  | .rt v => K v
  | _ => False
def jnK {α β γ : Type} (wr : α → (Fw β γ → Prop) → Prop) (K : Fw β γ → Prop) (m : Fw β α) : Prop := match m with
  | .nx s => wr s K
  | .rt v => K (.rt v)
  | _ => False
def lpW {α β : Type} (A B : α → Prop) (C : β → Prop) (m : Fw β α) : Prop := match m with
  | .nx s => A s
  | .ct s => A s
  | .bk s => B s
  | .rt v => C v
def lpK {α β γ : Type} (wr : α → (Fw β γ → Prop) → Prop) (K : Fw β γ → Prop) (I : α → Prop) : Fw β α → Prop := lpW I (fun s => wr s K) (fun v => K (.rt v))
inductive Al2 {α β : Type} (P : α → β → Prop) : List α → List β → Prop
  | nil : Al2 P [] []
  | cons {a : α} {b : β} {l : List α} {m : List β} : P a b → Al2 P l m → Al2 P (a :: l) (b :: m)
section
variable {VB : RH → Prop} {ck : Nat → List D → RH → Res D} {fu : Nat} {α β γ δ : Type} {x : Bool} {ss a b : Sms} {σ σ' : List Sl} {enc : α → D} {encb : β → D} {encc : γ → D} {v : α} {p q : Prop} {e e1 e2 e3 : Ex} {es : Exs} {i : Nat} {w : (α → Prop) → Prop} {wb : (β → Prop) → Prop} {wc : (γ → Prop) → Prop} {w1 w2 : (Int → Prop) → Prop}
theorem WE.wk {w' : (α → Prop) → Prop} (h : WE VB ck e σ enc w) (hw : ∀ K, w' K → w K) : WE VB ck e σ enc w' := fun K hK => h K (hw K hK)
theorem WE.cv {enc' : β → D} (c : α → β) (h : WE VB ck e σ enc w) (hc : ∀ v, enc v = enc' (c v)) : WE VB ck e σ enc' (fun K => w fun v => K (c v)) := fun K hK R hR => by
  obtain ⟨v, R', g1, g2, g3⟩ := h _ hK R hR
  exact ⟨c v, R', by rw [g1, hc], g2, g3⟩
theorem WE.pure (h : TV ck e σ enc v p) : WE VB ck e σ enc (fun K => p ∧ K v) := fun K ⟨hp, hK⟩ R hR => ⟨v, R, h hp R, hR, hK⟩
theorem WE.pureP (h : TV ck e σ enc v p) (hq : q → p) : WE VB ck e σ enc (fun K => q ∧ K v) := fun K ⟨hp, hK⟩ R hR => ⟨v, R, h (hq hp) R, hR, hK⟩
theorem WE.pureT (h : TV ck e σ enc v p) (hp : p) : WE VB ck e σ enc (fun K => K v) := fun K hK R hR => ⟨v, R, h hp R, hR, hK⟩
theorem WI.pureP {it : Itr} {xs : List α} (h : TI ck it σ (xs.map enc) p) (hq : q → p) : WI VB ck it σ enc (fun K => q ∧ K xs) := fun K ⟨hp, hK⟩ R hR => ⟨xs, R, h (hq hp) R, hR, hK⟩
theorem WI.pureT {it : Itr} {xs : List α} (h : TI ck it σ (xs.map enc) p) (hp : p) : WI VB ck it σ enc (fun K => K xs) := fun K hK R hR => ⟨xs, R, h hp R, hR, hK⟩
theorem WIs.pureP {it : Itr} {xs : List α} (h : TIs ck it σ (xs.map enc) p) (hq : q → p) : WIs VB ck it σ enc (fun K => q ∧ K xs) := fun K ⟨hp, hK⟩ R hR => ⟨xs, R, h (hq hp) R, hR, hK⟩
theorem WIs.pureT {it : Itr} {xs : List α} (h : TIs ck it σ (xs.map enc) p) (hp : p) : WIs VB ck it σ enc (fun K => K xs) := fun K hK R hR => ⟨xs, R, h hp R, hR, hK⟩
theorem WE.call1 {f : Nat} {ds : List D} (hs : TVs ck es σ ds p) (h : WC VB ck f ds enc w) : WE VB ck (.call f es) σ enc (fun K => p ∧ w K) := fun K ⟨hp, hK⟩ R hR => by
  obtain ⟨v, R', h1, h2⟩ := h K hK R hR
  exact ⟨v, R', by simp only [ev, hs hp R, Res.bind, h1], h2⟩
theorem WE.call2 {f : Nat} {v0 : β} {w' : γ → (α → Prop) → Prop} (h0 : TV ck e1 σ encb v0 True) (k0 : ∀ r : Res D, stx e1 σ r = r) (h1 : WE VB ck e2 σ encc wc) (k1 : ∀ r : Res D, stx e2 σ r = r) (h : ∀ y, WC VB ck f [encb v0, encc y] enc (w' y)) :
    WE VB ck (.call f (.cons e1 (.cons e2 .nil))) σ enc (fun K => wc fun y => w' y K) := fun K hK R hR => by
  obtain ⟨y, R1, g1, g2, g3⟩ := h1 _ hK R hR
  obtain ⟨v, R2, r1, r2⟩ := h y K g3 R1 g2
  exact ⟨v, R2, by simp only [ev, evs, k0, h0 trivial R, k1, g1, Res.bind, r1], r2⟩
theorem WE.callp1 {ε : Type} {ence : ε → D} {f : Nat} {g : α → ε} {ok : α → Prop} (h1 : WE VB ck e1 σ enc w) (k1 : ∀ r : Res D, stx e1 σ r = r) (h : ∀ x, ok x → ∀ R, ck f [enc x] R = .ok (ence (g x)) R) : WE VB ck (.call f (.cons e1 .nil)) σ ence (fun K => w fun x => (ok x ∧ K (g x))) := fun K hK R hR => by
  obtain ⟨v0, R0, a0, b0, c0⟩ := h1 _ hK R hR
  exact ⟨_, R0, by simp only [ev, evs, k1, a0, Res.bind, h _ c0.1], b0, c0.2⟩
theorem WE.callp2 {ε : Type} {ence : ε → D} {f : Nat} {g : α → β → ε} {ok : α → β → Prop} (h1 : WE VB ck e1 σ enc w) (k1 : ∀ r : Res D, stx e1 σ r = r) (h2 : WE VB ck e2 σ encb wb) (k2 : ∀ r : Res D, stx e2 σ r = r) (h : ∀ x y, ok x y → ∀ R, ck f [enc x, encb y] R = .ok (ence (g x y)) R) : WE VB ck (.call f (.cons e1 (.cons e2 .nil))) σ ence (fun K => w fun x => wb fun y => (ok x y ∧ K (g x y))) := fun K hK R hR => by
  obtain ⟨v0, R0, a0, b0, c0⟩ := h1 _ hK R hR
  obtain ⟨v1, R1, a1, b1, c1⟩ := h2 _ c0 R0 b0
  exact ⟨_, R1, by simp only [ev, evs, k1, a0, k2, a1, Res.bind, h _ _ c1.1], b1, c1.2⟩
theorem WE.callp3 {ε : Type} {ence : ε → D} {f : Nat} {g : α → β → γ → ε} {ok : α → β → γ → Prop} (h1 : WE VB ck e1 σ enc w) (k1 : ∀ r : Res D, stx e1 σ r = r) (h2 : WE VB ck e2 σ encb wb) (k2 : ∀ r : Res D, stx e2 σ r = r) (h3 : WE VB ck e3 σ encc wc) (k3 : ∀ r : Res D, stx e3 σ r = r) (h : ∀ x y z, ok x y z → ∀ R, ck f [enc x, encb y, encc z] R = .ok (ence (g x y z)) R) : WE VB ck (.call f (.cons e1 (.cons e2 (.cons e3 .nil)))) σ ence (fun K => w fun x => wb fun y => wc fun z => (ok x y z ∧ K (g x y z))) := fun K hK R hR => by
  obtain ⟨v0, R0, a0, b0, c0⟩ := h1 _ hK R hR
  obtain ⟨v1, R1, a1, b1, c1⟩ := h2 _ c0 R0 b0
  obtain ⟨v2, R2, a2, b2, c2⟩ := h3 _ c1 R1 b1
  exact ⟨_, R2, by simp only [ev, evs, k1, a0, k2, a1, k3, a2, Res.bind, h _ _ _ c2.1], b2, c2.2⟩
theorem WE.callp4 {ε : Type} {ence : ε → D} {f : Nat} {encd : δ → D} {wd : (δ → Prop) → Prop} {e4 : Ex} {g : α → β → γ → δ → ε} {ok : α → β → γ → δ → Prop} (h1 : WE VB ck e1 σ enc w) (k1 : ∀ r : Res D, stx e1 σ r = r) (h2 : WE VB ck e2 σ encb wb) (k2 : ∀ r : Res D, stx e2 σ r = r) (h3 : WE VB ck e3 σ encc wc) (k3 : ∀ r : Res D, stx e3 σ r = r) (h4 : WE VB ck e4 σ encd wd) (k4 : ∀ r : Res D, stx e4 σ r = r) (h : ∀ x y z u, ok x y z u → ∀ R, ck f [enc x, encb y, encc z, encd u] R = .ok (ence (g x y z u)) R) : WE VB ck (.call f (.cons e1 (.cons e2 (.cons e3 (.cons e4 .nil))))) σ ence (fun K => w fun x => wb fun y => wc fun z => wd fun u => (ok x y z u ∧ K (g x y z u))) := fun K hK R hR => by
  obtain ⟨v0, R0, a0, b0, c0⟩ := h1 _ hK R hR
  obtain ⟨v1, R1, a1, b1, c1⟩ := h2 _ c0 R0 b0
  obtain ⟨v2, R2, a2, b2, c2⟩ := h3 _ c1 R1 b1
  obtain ⟨v3, R3, a3, b3, c3⟩ := h4 _ c2 R2 b2
  exact ⟨_, R3, by simp only [ev, evs, k1, a0, k2, a1, k3, a2, k4, a3, Res.bind, h _ _ _ _ c3.1], b3, c3.2⟩
theorem WE.add (h1 : WE VB ck e1 σ .int w1) (h2 : WE VB ck e2 σ .int w2) : WE VB ck (.bin .add e1 e2) σ .int (fun K => w1 fun x => w2 fun y => K (x + y)) := fun K hK R hR => by
  obtain ⟨y, R1, g1, g2, g3⟩ := h1 _ hK R hR
  obtain ⟨z, R2, r1, r2, r3⟩ := h2 _ g3 R1 g2
  exact ⟨_, R2, by simp only [ev, g1, r1, Res.bind, binD, Res.of], r2, r3⟩
theorem WE.sub (h1 : WE VB ck e1 σ .int w1) (h2 : WE VB ck e2 σ .int w2) : WE VB ck (.bin .sub e1 e2) σ .int (fun K => w1 fun x => w2 fun y => K (x - y)) := fun K hK R hR => by
  obtain ⟨y, R1, g1, g2, g3⟩ := h1 _ hK R hR
  obtain ⟨z, R2, r1, r2, r3⟩ := h2 _ g3 R1 g2
  exact ⟨_, R2, by simp only [ev, g1, r1, Res.bind, binD, Res.of], r2, r3⟩
theorem WE.mul (h1 : WE VB ck e1 σ .int w1) (h2 : WE VB ck e2 σ .int w2) : WE VB ck (.bin .mul e1 e2) σ .int (fun K => w1 fun x => w2 fun y => L2.CMul x y ∧ K (x * y)) := fun K hK R hR => by
  obtain ⟨y, R1, g1, g2, g3⟩ := h1 _ hK R hR
  obtain ⟨z, R2, r1, r2, r3, r4⟩ := h2 _ g3 R1 g2
  exact ⟨_, R2, by simp only [ev, g1, r1, Res.bind, binD, r3, decide_true, if_true, Res.of], r2, r4⟩
theorem WE.fdiv (h1 : WE VB ck e1 σ .int w1) (h2 : WE VB ck e2 σ .int w2) : WE VB ck (.bin .fdiv e1 e2) σ .int (fun K => w1 fun x => w2 fun y => L2.CDivN x y ∧ K (x.fdiv y)) := fun K hK R hR => by
  obtain ⟨y, R1, g1, g2, g3⟩ := h1 _ hK R hR
  obtain ⟨z, R2, r1, r2, r3, r4⟩ := h2 _ g3 R1 g2
  exact ⟨_, R2, by simp only [ev, g1, r1, Res.bind, binD, r3, decide_true, if_true, Res.of], r2, r4⟩
theorem WE.mod (h1 : WE VB ck e1 σ .int w1) (h2 : WE VB ck e2 σ .int w2) : WE VB ck (.bin .mod e1 e2) σ .int (fun K => w1 fun x => w2 fun y => y ≠ 0 ∧ K (x.fmod y)) := fun K hK R hR => by
  obtain ⟨y, R1, g1, g2, g3⟩ := h1 _ hK R hR
  obtain ⟨z, R2, r1, r2, r3, r4⟩ := h2 _ g3 R1 g2
  exact ⟨_, R2, by simp only [ev, g1, r1, Res.bind, binD, r3, if_false, Res.of], r2, r4⟩
theorem WE.neg (h1 : WE VB ck e1 σ .int w1) : WE VB ck (.neg e1) σ .int (fun K => w1 fun x => K (-x)) := fun K hK R hR => by
  obtain ⟨y, R1, g1, g2, g3⟩ := h1 _ hK R hR
  exact ⟨_, R1, by simp only [ev, g1, Res.bind, negD, Res.of], g2, g3⟩
theorem WE.int (h1 : WE VB ck e1 σ .int w1) : WE VB ck (.blt .int (.cons e1 .nil)) σ .int w1 := fun K hK R hR => by
  obtain ⟨y, R1, g1, g2, g3⟩ := h1 _ hK R hR
  exact ⟨_, R1, by simp only [ev, evb, g1, Res.bind, bltD, Res.of], g2, g3⟩
theorem WE.max2 (h1 : WE VB ck e1 σ .int w1) (h2 : WE VB ck e2 σ .int w2) : WE VB ck (.blt .max (.cons e1 (.cons e2 .nil))) σ .int (fun K => w1 fun x => w2 fun y => K (max x y)) := fun K hK R hR => by
  obtain ⟨y, R1, g1, g2, g3⟩ := h1 _ hK R hR
  obtain ⟨z, R2, r1, r2, r3⟩ := h2 _ g3 R1 g2
  have e : (if z > y then z else y) = max y z := by split <;> omega
  exact ⟨_, R2, by simp only [ev, evb, g1, r1, Res.bind, bltD, e, Res.of], r2, r3⟩
theorem WE.min2 (h1 : WE VB ck e1 σ .int w1) (h2 : WE VB ck e2 σ .int w2) : WE VB ck (.blt .min (.cons e1 (.cons e2 .nil))) σ .int (fun K => w1 fun x => w2 fun y => K (min x y)) := fun K hK R hR => by
  obtain ⟨y, R1, g1, g2, g3⟩ := h1 _ hK R hR
  obtain ⟨z, R2, r1, r2, r3⟩ := h2 _ g3 R1 g2
  have e : (if z < y then z else y) = min y z := by split <;> omega
  exact ⟨_, R2, by simp only [ev, evb, g1, r1, Res.bind, bltD, e, Res.of], r2, r3⟩
theorem WE.cmp {o : Cop} {b1 : Int → Int → Bool} (h1 : WE VB ck e1 σ .int w1) (h2 : WE VB ck e2 σ .int w2) (h : ∀ x y, cmpD o (.int x) (.int y) = some (b1 x y)) : WE VB ck (.cmp o e1 e2) σ .bl (fun K => w1 fun x => w2 fun y => K (b1 x y)) := fun K hK R hR => by
  obtain ⟨y, R1, g1, g2, g3⟩ := h1 _ hK R hR
  obtain ⟨z, R2, r1, r2, r3⟩ := h2 _ g3 R1 g2
  exact ⟨_, R2, by simp only [ev, g1, r1, Res.bind, h, Option.map, Res.of], r2, r3⟩
theorem WE.eq [DecidableEq α] {n : Nat} [FT enc n] [DQ enc] {w' : (α → Prop) → Prop} (hn : n ≤ 60) (h1 : WE VB ck e1 σ enc w) (h2 : WE VB ck e2 σ enc w') : WE VB ck (.cmp .eq e1 e2) σ .bl (fun K => w fun x => w' fun y => K (decide (x = y))) := fun K hK R hR => by
  obtain ⟨y, R1, g1, g2, g3⟩ := h1 _ hK R hR
  obtain ⟨z, R2, r1, r2, r3⟩ := h2 _ g3 R1 g2
  have f : (flt (enc y) && flt (enc z)) = true := by rw [FT.flt hn y, FT.flt hn z]; rfl
  exact ⟨_, R2, by simp only [ev, g1, r1, Res.bind, cmpD, f, if_true, Option.map, Res.of, DQ.dq], r2, r3⟩
theorem WE.ne [DecidableEq α] {n : Nat} [FT enc n] [DQ enc] {w' : (α → Prop) → Prop} (hn : n ≤ 60) (h1 : WE VB ck e1 σ enc w) (h2 : WE VB ck e2 σ enc w') : WE VB ck (.cmp .ne e1 e2) σ .bl (fun K => w fun x => w' fun y => K (!decide (x = y))) := fun K hK R hR => by
  obtain ⟨y, R1, g1, g2, g3⟩ := h1 _ hK R hR
  obtain ⟨z, R2, r1, r2, r3⟩ := h2 _ g3 R1 g2
  have f : (flt (enc y) && flt (enc z)) = true := by rw [FT.flt hn y, FT.flt hn z]; rfl
  exact ⟨_, R2, by simp only [ev, g1, r1, Res.bind, cmpD, f, if_true, Option.map, Res.of, DQ.dq], r2, r3⟩
theorem WE.not {w0 : (Bool → Prop) → Prop} (h1 : WE VB ck e1 σ .bl w0) : WE VB ck (.not e1) σ .bl (fun K => w0 fun x => K (!x)) := fun K hK R hR => by
  obtain ⟨y, R1, g1, g2, g3⟩ := h1 _ hK R hR
  exact ⟨_, R1, by simp only [ev, g1, Res.bind, notD, Res.of], g2, g3⟩
theorem WA.one {w0 : (Bool → Prop) → Prop} (h1 : WE VB ck e1 σ .bl w0) (hk : ∀ r : Res D, stx e1 σ r = r) : WA VB ck (.cons e1 .nil) σ w0 := fun K hK R hR => by
  obtain ⟨y, R1, g1, g2⟩ := h1 _ hK R hR
  exact ⟨y, R1, by simp only [evAnd, hk, g1], g2⟩
theorem WA.cons {w0 w3 : (Bool → Prop) → Prop} (h1 : WE VB ck e1 σ .bl w0) (t : WA VB ck (.cons e2 es) σ w3) : WA VB ck (.cons e1 (.cons e2 es)) σ (fun K => w0 fun b => (b = true → w3 K) ∧ (b = false → K false)) := fun K hK R hR => by
  obtain ⟨y, R1, g1, g2, g3, g4⟩ := h1 _ hK R hR
  cases y with
  | true =>
    obtain ⟨z, R2, r1, r2⟩ := t K (g3 rfl) R1 g2
    exact ⟨z, R2, (by rw [evAnd, g1]; exact r1; intro z; cases z), r2⟩
  | false => exact ⟨false, R1, (by rw [evAnd, g1]; rfl; intro z; cases z), g2, g4 rfl⟩
theorem WO.one {w0 : (Bool → Prop) → Prop} (h1 : WE VB ck e1 σ .bl w0) (hk : ∀ r : Res D, stx e1 σ r = r) : WO VB ck (.cons e1 .nil) σ w0 := fun K hK R hR => by
  obtain ⟨y, R1, g1, g2⟩ := h1 _ hK R hR
  exact ⟨y, R1, by simp only [evOr, hk, g1], g2⟩
theorem WO.cons {w0 w3 : (Bool → Prop) → Prop} (h1 : WE VB ck e1 σ .bl w0) (t : WO VB ck (.cons e2 es) σ w3) : WO VB ck (.cons e1 (.cons e2 es)) σ (fun K => w0 fun b => (b = true → K true) ∧ (b = false → w3 K)) := fun K hK R hR => by
  obtain ⟨y, R1, g1, g2, g3, g4⟩ := h1 _ hK R hR
  cases y with
  | false =>
    obtain ⟨z, R2, r1, r2⟩ := t K (g4 rfl) R1 g2
    exact ⟨z, R2, (by rw [evOr, g1]; exact r1; intro z; cases z), r2⟩
  | true => exact ⟨true, R1, (by rw [evOr, g1]; rfl; intro z; cases z), g2, g3 rfl⟩
theorem WE.and {w0 w3 : (Bool → Prop) → Prop} (h1 : WE VB ck e1 σ .bl w0) (t : WA VB ck es σ w3) : WE VB ck (.and e1 es) σ .bl (fun K => w0 fun b => (b = true → w3 K) ∧ (b = false → K false)) := fun K hK R hR => by
  obtain ⟨y, R1, g1, g2, g3, g4⟩ := h1 _ hK R hR
  cases y with
  | true =>
    obtain ⟨z, R2, r1, r2⟩ := t K (g3 rfl) R1 g2
    exact ⟨z, R2, by simp only [ev, g1, Res.bind, r1], r2⟩
  | false => exact ⟨false, R1, by simp only [ev, g1, Res.bind], g2, g4 rfl⟩
theorem WE.or {w0 w3 : (Bool → Prop) → Prop} (h1 : WE VB ck e1 σ .bl w0) (t : WO VB ck es σ w3) : WE VB ck (.or e1 es) σ .bl (fun K => w0 fun b => (b = true → K true) ∧ (b = false → w3 K)) := fun K hK R hR => by
  obtain ⟨y, R1, g1, g2, g3, g4⟩ := h1 _ hK R hR
  cases y with
  | false =>
    obtain ⟨z, R2, r1, r2⟩ := t K (g4 rfl) R1 g2
    exact ⟨z, R2, by simp only [ev, g1, Res.bind, r1], r2⟩
  | true => exact ⟨true, R1, by simp only [ev, g1, Res.bind], g2, g3 rfl⟩
theorem WE.ite {w0 : (Bool → Prop) → Prop} {w' : (α → Prop) → Prop} (h : WE VB ck e σ .bl w0) (h1 : WE VB ck e1 σ enc w) (k1 : ∀ r : Res D, stx e1 σ r = r) (h2 : WE VB ck e2 σ enc w') (k2 : ∀ r : Res D, stx e2 σ r = r) : WE VB ck (.ite e e1 e2) σ enc (fun K => w0 fun b => (b = true → w K) ∧ (b = false → w' K)) := fun K hK R hR => by
  obtain ⟨y, R1, g1, g2, g3, g4⟩ := h _ hK R hR
  cases y with
  | true =>
    obtain ⟨z, R2, r1, r2⟩ := h1 K (g3 rfl) R1 g2
    exact ⟨z, R2, by simp only [ev, g1, Res.bind, k1, r1], r2⟩
  | false =>
    obtain ⟨z, R2, r1, r2⟩ := h2 K (g4 rfl) R1 g2
    exact ⟨z, R2, by simp only [ev, g1, Res.bind, k2, r1], r2⟩
theorem WE.tup2 (h1 : WE VB ck e1 σ enc w) (k1 : ∀ r : Res D, stx e1 σ r = r) (h2 : WE VB ck e2 σ encb wb) (k2 : ∀ r : Res D, stx e2 σ r = r) : WE VB ck (.tup (.cons e1 (.cons e2 .nil))) σ (eP enc encb) (fun K => w fun x => wb fun y => K (x, y)) := fun K hK R hR => by
  obtain ⟨y, R1, g1, g2, g3⟩ := h1 _ hK R hR
  obtain ⟨z, R2, r1, r2, r3⟩ := h2 _ g3 R1 g2
  exact ⟨_, R2, by simp only [ev, evs, k1, k2, g1, r1, Res.bind, eP], r2, r3⟩
theorem WE.tup3 (h1 : WE VB ck e1 σ enc w) (k1 : ∀ r : Res D, stx e1 σ r = r) (h2 : WE VB ck e2 σ encb wb) (k2 : ∀ r : Res D, stx e2 σ r = r) (h3 : WE VB ck e3 σ encc wc) (k3 : ∀ r : Res D, stx e3 σ r = r) : WE VB ck (.tup (.cons e1 (.cons e2 (.cons e3 .nil)))) σ (eP3 enc encb encc) (fun K => w fun x => wb fun y => wc fun z => K (x, y, z)) := fun K hK R hR => by
  obtain ⟨y, R1, g1, g2, g3⟩ := h1 _ hK R hR
  obtain ⟨z, R2, r1, r2, r3⟩ := h2 _ g3 R1 g2
  obtain ⟨u, R3, s1, s2, s3⟩ := h3 _ r3 R2 r2
  exact ⟨_, R3, by simp only [ev, evs, k1, k2, k3, g1, r1, s1, Res.bind, eP3], s2, s3⟩
theorem WLs.nil : WLs VB ck .nil σ enc (fun K => K []) := fun K hK R hR => ⟨[], R, rfl, hR, hK⟩
theorem WLs.cons {wl : (List α → Prop) → Prop} (h1 : WE VB ck e1 σ enc w) (k1 : ∀ r : Res D, stx e1 σ r = r) (t : WLs VB ck es σ enc wl) : WLs VB ck (.cons e1 es) σ enc (fun K => w fun x => wl fun l => K (x :: l)) := fun K hK R hR => by
  obtain ⟨y, R1, g1, g2, g3⟩ := h1 _ hK R hR
  obtain ⟨z, R2, r1, r2, r3⟩ := t _ g3 R1 g2
  exact ⟨_, R2, by simp only [evs, k1, g1, r1, Res.bind, List.map_cons], r2, r3⟩
theorem WE.lst {wl : (List α → Prop) → Prop} (t : WLs VB ck es σ enc wl) : WE VB ck (.lst es) σ (eL enc) wl := fun K hK R hR => by
  obtain ⟨z, R2, r1, r2, r3⟩ := t _ hK R hR
  exact ⟨_, R2, by simp only [ev, r1, Res.bind, eL], r2, r3⟩
theorem WE.tupH {wl : (List α → Prop) → Prop} (t : WLs VB ck es σ enc wl) : WE VB ck (.tup es) σ (eT enc) wl := fun K hK R hR => by
  obtain ⟨z, R2, r1, r2, r3⟩ := t _ hK R hR
  exact ⟨_, R2, by simp only [ev, r1, Res.bind, eT], r2, r3⟩
/-- an operation on one value -/
theorem WE.op {g : α → β} {pg : α → Prop} {f : Blt} (hf : (match f with | .len => false | _ => true) = true) (h1 : WE VB ck e1 σ enc w) (hg : ∀ y, pg y → bltD f [enc y] = some (encb (g y))) : WE VB ck (.blt f (.cons e1 .nil)) σ encb (fun K => w fun y => pg y ∧ K (g y)) := fun K hK R hR => by
  obtain ⟨y, R1, g1, g2, g3, g4⟩ := h1 _ hK R hR
  exact ⟨_, R1, by cases f <;> first | (cases hf; done) | simp only [ev, evb, g1, Res.bind, hg y g3, Res.of], g2, g4⟩
theorem WE.tupleL {wl : (List α → Prop) → Prop} (h1 : WE VB ck e1 σ (eL enc) wl) : WE VB ck (.blt .tuple (.cons e1 .nil)) σ (eT enc) wl := fun K hK R hR => by
  obtain ⟨y, R1, g1, g2, g3⟩ := h1 _ hK R hR
  exact ⟨_, R1, by simp only [ev, evb, g1, Res.bind, eL, eT, bltD, Res.of], g2, g3⟩
theorem WE.all {wl : (List Bool → Prop) → Prop} (h1 : WE VB ck e1 σ (eL .bl) wl) : WE VB ck (.blt .all (.cons e1 .nil)) σ .bl (fun K => wl fun l => K (l.all id)) := fun K hK R hR => by
  obtain ⟨y, R1, g1, g2, g3⟩ := h1 _ hK R hR
  exact ⟨_, R1, by simp only [ev, evb, g1, Res.bind, eL, bltD, blsD_map, Option.map, Res.of], g2, g3⟩
theorem WE.sum {wl : (List Int → Prop) → Prop} (h1 : WE VB ck e1 σ (eL .int) wl) : WE VB ck (.blt .sum (.cons e1 .nil)) σ .int (fun K => wl fun l => K l.sum) := fun K hK R hR => by
  obtain ⟨y, R1, g1, g2, g3⟩ := h1 _ hK R hR
  exact ⟨_, R1, by simp only [ev, evb, g1, Res.bind, eL, bltD, intsD_map, Option.map, Res.of], g2, g3⟩
theorem WE.sortI {wl : (List Int → Prop) → Prop} (h1 : WE VB ck e1 σ (eL .int) wl) : WE VB ck (.blt .sorted (.cons e1 .nil)) σ (eL .int) (fun K => wl fun l => K (sortI l)) := fun K hK R hR => by
  obtain ⟨y, R1, g1, g2, g3⟩ := h1 _ hK R hR
  exact ⟨_, R1, by simp only [ev, evb, g1, Res.bind, eL, bltD, intsD_map, Option.map, Res.of], g2, g3⟩
theorem WE.addL {wl wm : (List α → Prop) → Prop} (h1 : WE VB ck e1 σ (eL enc) wl) (h2 : WE VB ck e2 σ (eL enc) wm) : WE VB ck (.bin .add e1 e2) σ (eL enc) (fun K => wl fun l => wm fun m => l.length + m.length ≤ sizeLine ∧ K (l ++ m)) := fun K hK R hR => by
  obtain ⟨y, R1, g1, g2, g3⟩ := h1 _ hK R hR
  obtain ⟨z, R2, r1, r2, r3, r4⟩ := h2 _ g3 R1 g2
  exact ⟨_, R2, by simp only [ev, g1, r1, Res.bind, eL, binD, List.length_map, r3, if_true, Res.of, List.map_append], r2, r4⟩
theorem WE.addT {wl wm : (List α → Prop) → Prop} (h1 : WE VB ck e1 σ (eT enc) wl) (h2 : WE VB ck e2 σ (eT enc) wm) : WE VB ck (.bin .add e1 e2) σ (eT enc) (fun K => wl fun l => wm fun m => l.length + m.length ≤ sizeLine ∧ K (l ++ m)) := fun K hK R hR => by
  obtain ⟨y, R1, g1, g2, g3⟩ := h1 _ hK R hR
  obtain ⟨z, R2, r1, r2, r3, r4⟩ := h2 _ g3 R1 g2
  exact ⟨_, R2, by simp only [ev, g1, r1, Res.bind, eT, binD, List.length_map, r3, if_true, Res.of, List.map_append], r2, r4⟩
theorem WE.idxL [Inhabited α] {l : List α} (h1 : TV ck e1 σ (eL enc) l p) (h2 : WE VB ck e2 σ .int w1) : WE VB ck (.idx e1 e2) σ enc (fun K => p ∧ w1 fun y => okI l y ∧ K (gI l y)) := fun K ⟨hp, hK⟩ R hR => by
  obtain ⟨y, R1, g1, g2, g3, g4⟩ := h2 _ hK R hR
  obtain ⟨z, hz⟩ := Option.isSome_iff_exists.mp g3
  exact ⟨_, R1, by simp only [ev, h1 hp R, g1, Res.bind, eL, idxD, atI_enc, gI, hz, Option.map, Option.getD, Res.of], g2, g4⟩
theorem WE.idxT [Inhabited α] {l : List α} (h1 : TV ck e1 σ (eT enc) l p) (h2 : WE VB ck e2 σ .int w1) : WE VB ck (.idx e1 e2) σ enc (fun K => p ∧ w1 fun y => okI l y ∧ K (gI l y)) := fun K ⟨hp, hK⟩ R hR => by
  obtain ⟨y, R1, g1, g2, g3, g4⟩ := h2 _ hK R hR
  obtain ⟨z, hz⟩ := Option.isSome_iff_exists.mp g3
  exact ⟨_, R1, by simp only [ev, h1 hp R, g1, Res.bind, eT, idxD, atI_enc, gI, hz, Option.map, Option.getD, Res.of], g2, g4⟩
/-! walks -/
theorem WI.pure {it : Itr} {xs : List α} (h : TI ck it σ (xs.map enc) p) : WI VB ck it σ enc (fun K => p ∧ K xs) := fun K ⟨hp, hK⟩ R hR => ⟨xs, R, h hp R, hR, hK⟩
theorem WI.rng (h1 : WE VB ck e1 σ .int w1) : WI VB ck (.rng e1) σ .int (fun K => w1 fun n => okR n ∧ K (rng n)) := fun K hK R hR => by
  obtain ⟨y, R1, g1, g2, ⟨c1, c2⟩, g4⟩ := h1 _ hK R hR
  have c : (decide (-(2 ^ 62) ≤ y) && decide (y ≤ sizeLine)) = true := by simp only [c1, c2, decide_true, Bool.and_self]
  refine ⟨_, R1, ?_, g2, g4⟩
  simp only [evi, g1, Res.bind, rngD]
  rw [if_pos c, rngI_ir]
  rfl
theorem WI.exL {wl : (List α → Prop) → Prop} (h1 : WE VB ck e1 σ (eL enc) wl) : WI VB ck (.ex e1) σ enc wl := fun K hK R hR => by
  obtain ⟨y, R1, g1, g2, g3⟩ := h1 _ hK R hR
  exact ⟨_, R1, by simp only [evi, g1, Res.bind, eL, itmD, Res.of], g2, g3⟩
theorem WI.exT {wl : (List α → Prop) → Prop} (h1 : WE VB ck e1 σ (eT enc) wl) : WI VB ck (.ex e1) σ enc wl := fun K hK R hR => by
  obtain ⟨y, R1, g1, g2, g3⟩ := h1 _ hK R hR
  exact ⟨_, R1, by simp only [evi, g1, Res.bind, eT, itmD, Res.of], g2, g3⟩
theorem WIs.pure {it : Itr} {xs : List α} (h : TIs ck it σ (xs.map enc) p) : WIs VB ck it σ enc (fun K => p ∧ K xs) := fun K ⟨hp, hK⟩ R hR => ⟨xs, R, h hp R, hR, hK⟩
theorem WIs.rng (h1 : WE VB ck e1 σ .int w1) : WIs VB ck (.rng e1) σ .int (fun K => w1 fun n => okR n ∧ K (rng n)) := WI.rng h1
theorem WIs.exL {wl : (List α → Prop) → Prop} (h1 : WE VB ck e1 σ (eL enc) wl) (hk : ∀ r : Res D, stx e1 σ r = r) : WIs VB ck (.ex e1) σ enc wl := fun K hK R hR => by
  obtain ⟨y, R1, g1, g2, g3⟩ := h1 _ hK R hR
  exact ⟨_, R1, by simp only [evis, evX, if_true, hk, g1, Res.bind, eL, itmD, Res.of], g2, g3⟩
theorem WIs.exT {wl : (List α → Prop) → Prop} (h1 : WE VB ck e1 σ (eT enc) wl) (hk : ∀ r : Res D, stx e1 σ r = r) : WIs VB ck (.ex e1) σ enc wl := fun K hK R hR => by
  obtain ⟨y, R1, g1, g2, g3⟩ := h1 _ hK R hR
  exact ⟨_, R1, by simp only [evis, evX, if_true, hk, g1, Res.bind, eT, itmD, Res.of], g2, g3⟩
theorem lcL_w {f : D → RH → Res (Option D)} {Q : α → β → Prop} {pr : α → Prop} : ∀ {xs : List α}, (∀ x ∈ xs, ∀ R, VB R → ∃ v R', f (enc x) R = .ok (some (encb v)) R' ∧ VB R' ∧ Q x v) → ∀ R, VB R → ∃ l R', lcL f (xs.map enc) R = .ok (l.map encb) R' ∧ VB R' ∧ Al2 Q xs l
  | [], _, R, hR => ⟨[], R, rfl, hR, .nil⟩
  | y :: xs, h, R, hR => by
    obtain ⟨v, R1, g1, g2, g3⟩ := h y List.mem_cons_self R hR
    obtain ⟨l, R2, r1, r2, r3⟩ := lcL_w (pr := pr) (xs := xs) (fun z hz => h z (List.mem_cons_of_mem _ hz)) R1 g2
    exact ⟨v :: l, R2, by simp only [List.map_cons, lcL, g1, r1], r2, .cons g3 r3⟩
theorem WE.lc {elt : Ex} {tg : Tg} {it : Itr} {we : α → (β → Prop) → Prop} {wi : (List α → Prop) → Prop} (hi : WI VB ck it σ enc wi) (hb : ∀ y, ∃ σx, setC tg (enc y) σ = some σx ∧ WE VB ck elt σx encb (we y) ∧ ∀ r : Res D, stx elt σx r = r) :
    WE VB ck (.lc elt tg it .no) σ (eL encb) (fun K => wi fun xs => ∃ Q : α → β → Prop, (∀ y ∈ xs, we y (Q y)) ∧ ∀ l, Al2 Q xs l → K l) := fun K hK R hR => by
  obtain ⟨xs, R1, g1, g2, Q, g3, g4⟩ := hi _ hK R hR
  obtain ⟨l, R2, r1, r2, r3⟩ := lcL_w (VB := VB) (pr := fun _ => True) (f := lcF ck elt tg .no σ) (enc := enc) (encb := encb) (Q := Q) (xs := xs) (fun y hy R hR => by
    obtain ⟨σx, h1, h2, h3⟩ := hb y
    obtain ⟨v, R', s1, s2⟩ := h2 _ (g3 y hy) R hR
    exact ⟨v, R', by unfold lcF; simp only [h1, evc, Res.bind, if_true, h3, s1], s2⟩) R1 g2
  exact ⟨l, R2, by rw [ev_lc, g1]; simp only [Res.bind, r1, eL], r2, g4 l r3⟩
/-! statements -/
section
variable {S : γ → Js → List Sl} {encr : β → D}
theorem WB.at_ (σ' : List Sl) {w : (Fw β γ → Prop) → Prop} (h : σ = σ') (t : WB VB ck fu x ss σ' encr S w) : WB VB ck fu x ss σ encr S w := h ▸ t
theorem WB.wkx {w : (Fw β γ → Prop) → Prop} (t : WB VB ck fu true ss σ encr S w) : WB VB ck fu x ss σ encr S w := fun K hK R hR => let ⟨o, R', m, h1, h2, h3, h4, h5⟩ := t K hK R hR; ⟨o, R', m, h1, h2, h3, h4, fun _ => h5 rfl⟩
theorem WB.nil {v : γ} (js : Js) (h : σ = S v js) : WB VB ck fu false .nil σ encr S (fun K => K (.nx v)) := fun K hK R hR => ⟨(.nx, σ), R, .nx v, rfl, hR, ⟨js, by rw [h]⟩, hK, fun h => by cases h⟩
theorem WB.brk {v : γ} (js : Js) (h : σ = S v js) : WB VB ck fu x (.cons .brk ss) σ encr S (fun K => K (.bk v)) := fun K hK R hR => ⟨(.bk, σ), R, .bk v, rfl, hR, ⟨js, by rw [h]⟩, hK, fun _ => rfl⟩
theorem WB.cnt {v : γ} (js : Js) (h : σ = S v js) : WB VB ck fu x (.cons .cnt ss) σ encr S (fun K => K (.ct v)) := fun K hK R hR => ⟨(.ct, σ), R, .ct v, rfl, hR, ⟨js, by rw [h]⟩, hK, fun _ => rfl⟩
theorem WB.ret {w : (β → Prop) → Prop} (h : WE VB ck e σ encr w) : WB VB ck fu x (.cons (.ret (.ex e)) ss) σ encr S (fun K => w fun v => K (.rt v)) := fun K hK R hR => by
  obtain ⟨v, R', g1, g2, g3⟩ := h _ hK R hR
  refine ⟨(.rt (encr v), σ), R', .rt v, ?_, g2, ⟨σ, rfl⟩, g3, fun _ => rfl⟩
  rw [execs_cons]
  simp only [exec, g1, Res.bind, sqK]
theorem WB.retN {v : β} (h : encr v = .non) : WB VB ck fu x (.cons .retN ss) σ encr S (fun K => K (.rt v)) := fun K hK R hR => by
  refine ⟨(.rt (encr v), σ), R, .rt v, ?_, hR, ⟨σ, rfl⟩, hK, fun _ => rfl⟩
  rw [execs_cons, h]
  rfl
variable {wr : α → (Fw β γ → Prop) → Prop} {w0 : (Fw β γ → Prop) → Prop}
theorem WB.set (h : WE VB ck e σ enc w) (hk : ∀ r : Res D, stx e σ r = r) (hr : ∀ y, WB VB ck fu x ss (sS σ i (.sh (enc y))) encr S (wr y)) : WB VB ck fu x (.cons (.set i (.ex e)) ss) σ encr S (fun K => w fun y => wr y K) := fun K hK R hR => by
  obtain ⟨v, R', g1, g2, g3⟩ := h _ hK R hR
  obtain ⟨o, R2, m, r1, r2⟩ := hr v K g3 R' g2
  refine ⟨o, R2, m, ?_, r2⟩
  rw [execs_cons]
  simp only [exec, evSE, hk, g1, Res.bind, sqK]
  exact r1
theorem WB.ow (h : WE VB ck e σ enc w) (ho : ∀ y, ownable (enc y) = true) (hr : ∀ y, WB VB ck fu x ss (sS σ i (.ow (enc y))) encr S (wr y)) : WB VB ck fu x (.cons (.own i e) ss) σ encr S (fun K => w fun y => wr y K) := fun K hK R hR => by
  obtain ⟨v, R', g1, g2, g3⟩ := h _ hK R hR
  obtain ⟨o, R2, m, r1, r2⟩ := hr v K g3 R' g2
  refine ⟨o, R2, m, ?_, r2⟩
  rw [execs_cons]
  simp only [exec, ho, if_true, g1, Res.bind, sqK]
  exact r1
theorem WB.unp {ts : Tgs} (σ' : α → List Sl) (h : WE VB ck e σ enc w) (hk : ∀ r : Res D, stx e σ r = r) (hs : ∀ y, setT (.tp ts) (enc y) σ = some (σ' y)) (hr : ∀ y, WB VB ck fu x ss (σ' y) encr S (wr y)) : WB VB ck fu x (.cons (.unp ts (.ex e)) ss) σ encr S (fun K => w fun y => wr y K) := fun K hK R hR => by
  obtain ⟨v, R', g1, g2, g3⟩ := h _ hK R hR
  obtain ⟨o, R2, m, r1, r2⟩ := hr v K g3 R' g2
  refine ⟨o, R2, m, ?_, r2⟩
  rw [execs_cons]
  simp only [exec, evSE, hk, g1, Res.bind, hs, sqK]
  exact r1
theorem WPc.sh (h : WE VB ck e σ enc w) (hk : ∀ r : Res D, stx e σ r = r) : WPc VB ck false e σ enc w := fun K hK R hR => by
  obtain ⟨v, R', g1, g2, g3⟩ := h _ hK R hR
  exact ⟨v, R', by rw [if_neg Bool.false_ne_true, hk, g1], g2, g3, fun h => by cases h⟩
theorem WPc.ow (h : WE VB ck e σ enc w) (ho : ∀ y, ownable (enc y) = true) : WPc VB ck true e σ enc w := fun K hK R hR => by
  obtain ⟨v, R', g1, g2, g3⟩ := h _ hK R hR
  exact ⟨v, R', by rw [if_pos rfl, g1], g2, g3, fun _ => ho v⟩
theorem no_own {b : Bool} {d : D} (h : b = true → ownable d = true) : ¬ (b = true ∧ ownable d = false) := fun ⟨h1, h2⟩ => by
  rw [h h1] at h2
  cases h2
theorem WB.par2 {i1 i2 : Nat} {b1 b2 : Bool} {δ1 : Type} {encd : δ1 → D} {wd : (δ1 → Prop) → Prop} {wr : α → δ1 → (Fw β γ → Prop) → Prop} (h1 : WPc VB ck b1 e1 σ enc w) (h2 : WPc VB ck b2 e2 σ encd wd) (hr : ∀ y z, WB VB ck fu x ss (setP [(i1, b1), (i2, b2)] [enc y, encd z] σ) encr S (wr y z)) :
    WB VB ck fu x (.cons (.par [(i1, b1), (i2, b2)] (.cons e1 (.cons e2 .nil))) ss) σ encr S (fun K => w fun y => wd fun z => wr y z K) := fun K hK R hR => by
  obtain ⟨y, R1, g1, g2, g3, g4⟩ := h1 _ hK R hR
  obtain ⟨z, R2, s1, s2, s3, s4⟩ := h2 _ g3 R1 g2
  obtain ⟨o, R3, m, r1, r2⟩ := hr y z K s3 R2 s2
  refine ⟨o, R3, m, ?_, r2⟩
  rw [execs_cons]
  simp only [exec, evP, g1, s1, Res.bind, no_own g4, no_own s4, if_false, sqK]
  exact r1
theorem WB.par3 {i1 i2 i3 : Nat} {b1 b2 b3 : Bool} {δ1 δ2 : Type} {encd : δ1 → D} {ence : δ2 → D} {wd : (δ1 → Prop) → Prop} {we : (δ2 → Prop) → Prop} {wr : α → δ1 → δ2 → (Fw β γ → Prop) → Prop} (h1 : WPc VB ck b1 e1 σ enc w) (h2 : WPc VB ck b2 e2 σ encd wd) (h3 : WPc VB ck b3 e3 σ ence we) (hr : ∀ y z u, WB VB ck fu x ss (setP [(i1, b1), (i2, b2), (i3, b3)] [enc y, encd z, ence u] σ) encr S (wr y z u)) :
    WB VB ck fu x (.cons (.par [(i1, b1), (i2, b2), (i3, b3)] (.cons e1 (.cons e2 (.cons e3 .nil)))) ss) σ encr S (fun K => w fun y => wd fun z => we fun u => wr y z u K) := fun K hK R hR => by
  obtain ⟨y, R1, g1, g2, g3, g4⟩ := h1 _ hK R hR
  obtain ⟨z, R2, s1, s2, s3, s4⟩ := h2 _ g3 R1 g2
  obtain ⟨u, R3, t1, t2, t3, t4⟩ := h3 _ s3 R2 s2
  obtain ⟨o, R4, m, r1, r2⟩ := hr y z u K t3 R3 t2
  refine ⟨o, R4, m, ?_, r2⟩
  rw [execs_cons]
  simp only [exec, evP, g1, s1, t1, Res.bind, no_own g4, no_own s4, no_own t4, if_false, sqK]
  exact r1
theorem WB.xpr (h : WE VB ck e σ enc w) (hk : ∀ r : Res D, stx e σ r = r) (hr : WB VB ck fu x ss σ encr S w0) : WB VB ck fu x (.cons (.xpr (.ex e)) ss) σ encr S (fun K => w fun _ => w0 K) := fun K hK R hR => by
  obtain ⟨v, R', g1, g2, g3⟩ := h _ hK R hR
  obtain ⟨o, R2, m, r1, r2⟩ := hr K g3 R' g2
  refine ⟨o, R2, m, ?_, r2⟩
  rw [execs_cons]
  simp only [exec, evSE, hk, g1, Res.bind, sqK]
  exact r1
theorem WB.app {l : List α} {wr : List α → (Fw β γ → Prop) → Prop} (hg : gS σ i = .ow (eL enc l)) (h : WE VB ck e σ enc w) (hk : ∀ r : Res D, stx e σ r = r) (hr : ∀ y, WB VB ck fu x ss (sS σ i (.ow (eL enc y))) encr S (wr y)) : WB VB ck fu x (.cons (.app i (.ex e)) ss) σ encr S (fun K => w fun v => l.length < sizeLine ∧ wr (l ++ [v]) K) := fun K hK R hR => by
  obtain ⟨v, R', g1, g2, g3, g4⟩ := h _ hK R hR
  obtain ⟨o, R2, m, r1, r2⟩ := hr _ K g4 R' g2
  refine ⟨o, R2, m, ?_, r2⟩
  rw [execs_cons]
  unfold eL at hg r1
  simp only [exec, evSE, hk, g1, Res.bind, hg, List.length_map, g3, if_true, sqK]
  simpa using r1
theorem WB.ext {l : List α} {wl : (List α → Prop) → Prop} {wr : List α → (Fw β γ → Prop) → Prop} (hg : gS σ i = .ow (eL enc l)) (h : WE VB ck e σ (eL enc) wl) (hr : ∀ y, WB VB ck fu x ss (sS σ i (.ow (eL enc y))) encr S (wr y)) : WB VB ck fu x (.cons (.ext i e) ss) σ encr S (fun K => wl fun v => l.length + v.length ≤ sizeLine ∧ wr (l ++ v) K) := fun K hK R hR => by
  obtain ⟨v, R', g1, g2, g3, g4⟩ := h _ hK R hR
  obtain ⟨o, R2, m, r1, r2⟩ := hr _ K g4 R' g2
  refine ⟨o, R2, m, ?_, r2⟩
  rw [execs_cons]
  unfold eL at hg r1 g1
  simp only [exec, hg, g1, Res.bind, extD, List.length_map, g3, if_true, ofS, sqK]
  simpa using r1
theorem WB.sub {l : List α} {k : Ex} {z : Int} {pk : Prop} {wr : List α → (Fw β γ → Prop) → Prop} (hg : gS σ i = .ow (eL enc l)) (hz : TV ck k σ .int z pk) (h : WE VB ck e σ enc w) (hk : ∀ r : Res D, stx e σ r = r) (hr : ∀ y, WB VB ck fu x ss (sS σ i (.ow (eL enc y))) encr S (wr y)) : WB VB ck fu x (.cons (.sub i k e) ss) σ encr S (fun K => w fun v => pk ∧ okS l z ∧ wr (sI l z v) K) := fun K hK R hR => by
  obtain ⟨v, R', g1, g2, g3, hl, g4⟩ := h _ hK R hR
  obtain ⟨o, R2, m, r1, r2⟩ := hr _ K g4 R' g2
  refine ⟨o, R2, m, ?_, r2⟩
  rw [execs_cons]
  obtain ⟨j, hj⟩ := Option.isSome_iff_exists.mp hl
  unfold sI at r1
  rw [hj] at r1
  unfold eL at hg r1
  simp only [exec, hk, g1, Res.bind, hg, hz g3 R', putD, List.length_map, hj, ofS, sqK, set_enc]
  exact r1
theorem WB.augA {z : Int} {wr : Int → (Fw β γ → Prop) → Prop} (hg : gS σ i = .sh (.int z)) (h : WE VB ck e σ .int w1) (hr : ∀ y, WB VB ck fu x ss (sS σ i (.sh (.int y))) encr S (wr y)) : WB VB ck fu x (.cons (.aug i .add e) ss) σ encr S (fun K => w1 fun v => wr (z + v) K) := fun K hK R hR => by
  obtain ⟨v, R', g1, g2, g4⟩ := h _ hK R hR
  obtain ⟨o, R2, m, r1, r2⟩ := hr _ K g4 R' g2
  refine ⟨o, R2, m, ?_, r2⟩
  rw [execs_cons]
  simp only [exec, hg, g1, Res.bind, augD, sqK]
  exact r1
theorem WB.esc {is : List Nat} (hr : WB VB ck fu x ss (escS is σ) encr S w0) : WB VB ck fu x (.cons (.esc is) ss) σ encr S w0 := fun K hK R hR => by
  obtain ⟨o, R2, m, r1, r2⟩ := hr K hK R hR
  exact ⟨o, R2, m, by rw [execs_cons]; simp only [exec, sqK]; exact r1, r2⟩
theorem WB.pas (hr : WB VB ck fu x ss σ encr S w0) : WB VB ck fu x (.cons .pas ss) σ encr S w0 := fun K hK R hR => by
  obtain ⟨o, R2, m, r1, r2⟩ := hr K hK R hR
  exact ⟨o, R2, m, by rw [execs_cons]; simp only [exec, sqK]; exact r1, r2⟩
theorem WB.iteE {c : Ex} {wc : (Bool → Prop) → Prop} {wa : (Fw β γ → Prop) → Prop} (h : WE VB ck c σ .bl wc) (ha : WB VB ck fu true a σ encr S wa) (hr : WB VB ck fu x ss σ encr S w0) : WB VB ck fu x (.cons (.ite c a .nil) ss) σ encr S (fun K => wc fun b => (b = true → wa K) ∧ (b = false → w0 K)) := fun K hK R hR => by
  obtain ⟨y, R1, g1, g2, g3, g4⟩ := h _ hK R hR
  rw [execs_cons]
  simp only [exec, g1, Res.bind]
  cases y with
  | true =>
    obtain ⟨o, R2, m, r1, r2, r3, r4, r5⟩ := ha K (g3 rfl) R1 g2
    refine ⟨o, R2, m, ?_, r2, r3, r4, fun _ => r5 rfl⟩
    simp only [r1]
    have g4 := r5 rfl
    obtain ⟨f, σ'⟩ := o
    cases f <;> first | rfl | cases g4
  | false =>
    obtain ⟨o, R2, m, r1, r2⟩ := hr K (g4 rfl) R1 g2
    exact ⟨o, R2, m, by simp only [execs, sqK]; exact r1, r2⟩
theorem WB.iteJ {c : Ex} {δ1 : Type} {S1 : δ1 → Js → List Sl} {wc : (Bool → Prop) → Prop} {wa wb : (Fw β δ1 → Prop) → Prop} {wr : δ1 → (Fw β γ → Prop) → Prop} (h : WE VB ck c σ .bl wc) (ha : WB VB ck fu false a σ encr S1 wa) (hb : WB VB ck fu false b σ encr S1 wb) (hr : ∀ y js, WB VB ck fu x ss (S1 y js) encr S (wr y)) :
    WB VB ck fu x (.cons (.ite c a b) ss) σ encr S (fun K => wc fun b => (b = true → wa (jnK wr K)) ∧ (b = false → wb (jnK wr K))) := fun K hK R hR => by
  obtain ⟨y, R1, g1, g2, g3, g4⟩ := h _ hK R hR
  rw [execs_cons]
  simp only [exec, g1, Res.bind]
  have fin : ∀ (o : Po) (R2 : RH) (m : Fw β δ1), VB R2 → pF encr S1 m o → jnK wr K m → ∃ o' R' m', sqK (fun σ R => execs ck fu ss σ R) (.ok o R2) = .ok o' R' ∧ VB R' ∧ pF encr S m' o' ∧ K m' ∧ (x = true → isNx o'.1 = false) := fun o R2 m v1 v2 v3 => by
    cases m with
    | nx s =>
      obtain ⟨js, rfl⟩ := v2
      obtain ⟨o, R3, m, r⟩ := hr s js K v3 R2 v1
      exact ⟨o, R3, m, r⟩
    | rt v =>
      obtain ⟨σ', rfl⟩ := v2
      exact ⟨_, R2, .rt v, rfl, v1, ⟨σ', rfl⟩, v3, fun _ => rfl⟩
    | bk s => exact v3.elim
    | ct s => exact v3.elim
  cases y with
  | true =>
    obtain ⟨o, R2, m, r1, r2, r3, r4, _⟩ := ha _ (g3 rfl) R1 g2
    simp only [r1]
    exact fin o R2 m r2 r3 r4
  | false =>
    obtain ⟨o, R2, m, r1, r2, r3, r4, _⟩ := hb _ (g4 rfl) R1 g2
    simp only [r1]
    exact fin o R2 m r2 r3 r4
/-- both leave -/
theorem WB.iteB {c : Ex} {wc : (Bool → Prop) → Prop} {wa wb : (Fw β γ → Prop) → Prop} (h : WE VB ck c σ .bl wc) (ha : WB VB ck fu true a σ encr S wa) (hb : WB VB ck fu true b σ encr S wb) : WB VB ck fu x (.cons (.ite c a b) ss) σ encr S (fun K => wc fun b => (b = true → wa K) ∧ (b = false → wb K)) := fun K hK R hR => by
  obtain ⟨y, R1, g1, g2, g3, g4⟩ := h _ hK R hR
  rw [execs_cons]
  simp only [exec, g1, Res.bind]
  cases y with
  | true =>
    obtain ⟨o, R2, m, r1, r2, r3, r4, r5⟩ := ha K (g3 rfl) R1 g2
    refine ⟨o, R2, m, ?_, r2, r3, r4, fun _ => r5 rfl⟩
    simp only [r1]
    have g4 := r5 rfl
    obtain ⟨f, σ'⟩ := o
    cases f <;> first | rfl | cases g4
  | false =>
    obtain ⟨o, R2, m, r1, r2, r3, r4, r5⟩ := hb K (g4 rfl) R1 g2
    refine ⟨o, R2, m, ?_, r2, r3, r4, fun _ => r5 rfl⟩
    simp only [r1]
    have g4 := r5 rfl
    obtain ⟨f, σ'⟩ := o
    cases f <;> first | rfl | cases g4
theorem forL_w {f : D → List Sl → RH → Res (Fl × List Sl)} {δ1 δ2 : Type} {ex : δ2 → D} {S1 : δ1 → Js → List Sl} {wb : δ1 → δ2 → (Fw β δ1 → Prop) → Prop} {I : List δ2 → δ1 → Prop} {B : δ1 → Prop} {C : β → Prop} (hf : ∀ s js y, ∀ K, wb s y K → ∀ R, VB R → ∃ o R' m, f (ex y) (S1 s js) R = .ok o R' ∧ VB R' ∧ pF encr S1 m o ∧ K m) :
    ∀ {xs pre : List δ2} {s : δ1} {js : Js}, (∀ pre' y post s, pre ++ xs = pre' ++ y :: post → I pre' s → wb s y (lpW (I (pre' ++ [y])) B C)) → I pre s → ∀ R, VB R →
      (∃ s' js' R', forL f (xs.map ex) (S1 s js) R = .ok (.nx, S1 s' js') R' ∧ VB R' ∧ (I (pre ++ xs) s' ∨ B s')) ∨ (∃ v σ' R', forL f (xs.map ex) (S1 s js) R = .ok (.rt (encr v), σ') R' ∧ VB R' ∧ C v)
  | [], pre, s, js, h, hi, R, hR => .inl ⟨s, js, R, rfl, hR, .inl (by simpa using hi)⟩
  | y :: xs, pre, s, js, h, hi, R, hR => by
    obtain ⟨o, R1, m, g1, g2, g3, g4⟩ := hf s js y _ (h pre y xs s rfl hi) R hR
    simp only [List.map_cons, forL, g1]
    have nxt : ∀ s1 js1, I (pre ++ [y]) s1 → _ := fun s1 js1 hi1 => forL_w hf (xs := xs) (pre := pre ++ [y]) (s := s1) (js := js1) (fun pre' z post s he => h pre' z post s (by rw [← he]; simp)) hi1 R1 g2
    rw [show pre ++ [y] ++ xs = pre ++ y :: xs by simp] at nxt
    cases m with
    | nx s1 =>
      obtain ⟨js1, rfl⟩ := g3
      exact nxt s1 js1 g4
    | ct s1 =>
      obtain ⟨js1, rfl⟩ := g3
      exact nxt s1 js1 g4
    | bk s1 =>
      obtain ⟨js1, rfl⟩ := g3
      exact .inl ⟨s1, js1, R1, rfl, g2, .inr g4⟩
    | rt v =>
      obtain ⟨σ', rfl⟩ := g3
      exact .inr ⟨v, σ', R1, rfl, g2, g4⟩
theorem WB.for_ {tg : Tg} {it : Itr} {body : Sms} {δ1 δ2 : Type} {ex : δ2 → D} {s0 : δ1} {wi : (List δ2 → Prop) → Prop} {wb : δ1 → δ2 → (Fw β δ1 → Prop) → Prop} {wr : δ1 → (Fw β γ → Prop) → Prop} (S1 : δ1 → Js → List Sl) (js0 : Js) (hi : WIs VB ck it σ ex wi) (h0 : σ = S1 s0 js0) (hb : ∀ s js y, ∃ σ1, setT tg (ex y) (S1 s js) = some σ1 ∧ WB VB ck fu false body σ1 encr S1 (wb s y)) (hr : ∀ s js, WB VB ck fu x ss (S1 s js) encr S (wr s)) :
    WB VB ck fu x (.cons (.for_ tg it body) ss) σ encr S (fun K => wi fun xs => ∃ I : List δ2 → δ1 → Prop, I [] s0 ∧ (∀ pre y post s, xs = pre ++ y :: post → I pre s → wb s y (lpK wr K (I (pre ++ [y])))) ∧ ∀ s, I xs s → wr s K) := fun K hK R hR => by
  subst h0
  obtain ⟨xs, R1, g1, g2, I, g3, g4, g5⟩ := hi _ hK R hR
  rw [execs_cons, exec_for, g1]
  simp only [Res.bind]
  rcases forL_w (VB := VB) (f := forF ck fu tg body) (ex := ex) (S1 := S1) (encr := encr) (wb := wb) (I := I) (B := fun s => wr s K) (C := fun v => K (.rt v)) (fun s js y K hK R hR => by
    obtain ⟨σ1, h1, h2⟩ := hb s js y
    obtain ⟨o, R', m, r1, r2, r3, r4, _⟩ := h2 K hK R hR
    exact ⟨o, R', m, by unfold forF; rw [h1]; exact r1, r2, r3, r4⟩) (xs := xs) (pre := []) (s := s0) (js := js0) (fun pre y post s he hI => by
      exact g4 pre y post s he hI) g3 R1 g2 with ⟨s', js', R', r1, r2, r3⟩ | ⟨v, σ', R', r1, r2, r3⟩
  · have hw : wr s' K := r3.elim (g5 s') id
    obtain ⟨o, R2, m, q⟩ := hr s' js' K hw R' r2
    exact ⟨o, R2, m, by simp only [r1, sqK]; exact q.1, q.2⟩
  · exact ⟨_, R', .rt v, by simp only [r1, sqK], r2, ⟨σ', rfl⟩, r3, fun _ => rfl⟩
end
/-- the law's first statement makes the hand -/
theorem WB.first {S : γ → Js → List Sl} {encr : β → D} {d : Df} {args : List D} {w : (Fw β γ → Prop) → Prop} {s0 : Sm} {ss : Sms} {σ1 : List Sl} (hl : args.length = d.ps.length) (hd : d.code = .cons s0 ss) (h0 : ∃ R', exec ck fu s0 (args.map Sl.sh ++ List.replicate (d.N.length - args.length) Sl.no) [] = .ok (.nx, σ1) R' ∧ VB R') (h : WB VB ck fu x ss σ1 encr S w) {K : β → Prop} (hK : w (rtK K)) : ∃ v R', runD ck fu d args [] = .ok (encr v) R' ∧ K v := by
  obtain ⟨R0, e0, hR⟩ := h0
  obtain ⟨o, R', m, h1, h2, h3, h4, _⟩ := h _ hK R0 hR
  unfold runD
  rw [if_pos hl, hd, execs_cons, e0]
  simp only [sqK, h1]
  cases m with
  | rt v =>
    obtain ⟨σ', rfl⟩ := h3
    exact ⟨v, R', rfl, h4⟩
  | nx s => exact h4.elim
  | bk s => exact h4.elim
  | ct s => exact h4.elim
/-- a number below m -/
def drw (m : Int) (K : Int → Prop) : Prop := 1 ≤ m ∧ m < 1073741824 ∧ ∀ x, 0 ≤ x → x < m → K x
def eH (n : Nat) (_ : Unit) : D := .ref n
/-! a def -/
theorem WB.run {S : γ → Js → List Sl} {encr : β → D} {d : Df} {args : List D} {w : (Fw β γ → Prop) → Prop} (hl : args.length = d.ps.length) (h : WB VB ck fu x d.code (args.map Sl.sh ++ List.replicate (d.N.length - args.length) Sl.no) encr S w) {K : β → Prop} (hK : w (rtK K)) {R : RH} (hR : VB R) : ∃ v R', runD ck fu d args R = .ok (encr v) R' ∧ VB R' ∧ K v := by
  obtain ⟨o, R', m, h1, h2, h3, h4, _⟩ := h _ hK R hR
  unfold runD
  rw [if_pos hl, h1]
  cases m with
  | rt v =>
    obtain ⟨σ', rfl⟩ := h3
    exact ⟨v, R', rfl, h2, h4⟩
  | nx s => exact h4.elim
  | bk s => exact h4.elim
  | ct s => exact h4.elim
end
end Cw

end
section
/-! Nz: what a law's own comparison tells; the hand. -/
namespace Cw
open PySem L2
mutual
def sameD : D → D → Bool
  | .non, .non => true
  | .bl a, .bl b => decide (a = b)
  | .int i, .int j => decide (i = j)
  | .str x, .str y => decide (x = y)
  | .lst xs, .lst ys => sameDs xs ys
  | .tup xs, .tup ys => sameDs xs ys
  | _, _ => false
def sameDs : List D → List D → Bool
  | [], [] => true
  | x :: xs, y :: ys => sameD x y && sameDs xs ys
  | _, _ => false
end
theorem sameDs_zip : ∀ xs ys : List D, sameDs xs ys = (decide (xs.length = ys.length) && (List.zipWith sameD xs ys).all id)
  | [], [] => rfl
  | [], _ :: _ => rfl
  | _ :: _, [] => rfl
  | x :: xs, y :: ys => by
    simp only [sameDs, sameDs_zip xs ys, List.length_cons, Nat.add_right_cancel_iff, List.zipWith_cons_cons, List.all_cons, id_eq]
    cases sameD x y <;> simp
/-- a list of unlike things -/
def eLP {α β : Type} (e : α → D) (f : β → D) (p : α × β) : D := .lst [e p.1, f p.2]
def eLP3 {α β γ : Type} (e : α → D) (f : β → D) (g : γ → D) (p : α × β × γ) : D := .lst [e p.1, f p.2.1, g p.2.2]
def eLP4 {α β γ δ : Type} (e : α → D) (f : β → D) (g : γ → D) (h : δ → D) (p : α × β × γ × δ) : D := .lst [e p.1, f p.2.1, g p.2.2.1, h p.2.2.2]
def eLP5 {α β γ δ ε : Type} (e : α → D) (f : β → D) (g : γ → D) (h : δ → D) (i : ε → D) (p : α × β × γ × δ × ε) : D := .lst [e p.1, f p.2.1, g p.2.2.1, h p.2.2.2.1, i p.2.2.2.2]
class SD {α : Type} [DecidableEq α] (e : α → D) : Prop where sd : ∀ a b, sameD (e a) (e b) = decide (a = b)
instance : SD D.int := ⟨fun _ _ => rfl⟩
instance : SD D.bl := ⟨fun _ _ => rfl⟩
instance : SD D.str := ⟨fun _ _ => rfl⟩
theorem sd_list {α : Type} [DecidableEq α] {e : α → D} [h : SD e] : ∀ l m : List α, sameDs (l.map e) (m.map e) = decide (l = m)
  | [], [] => rfl
  | [], _ :: _ => rfl
  | _ :: _, [] => rfl
  | a :: l, b :: m => by
    simp only [List.map_cons, sameDs, h.sd a b, sd_list l m, List.cons.injEq, Bool.decide_and]
instance {α : Type} [DecidableEq α] {e : α → D} [SD e] : SD (eL e) := ⟨fun l m => by
  simp only [eL, sameD]
  exact sd_list l m⟩
instance {α : Type} [DecidableEq α] {e : α → D} [SD e] : SD (eT e) := ⟨fun l m => by
  simp only [eT, sameD]
  exact sd_list l m⟩
instance {α β : Type} [DecidableEq α] [DecidableEq β] {e : α → D} {f : β → D} [h1 : SD e] [h2 : SD f] : SD (eP e f) := ⟨fun p q => by
  obtain ⟨a, b⟩ := p
  obtain ⟨c, d⟩ := q
  simp only [eP, sameD, sameDs, h1.sd, h2.sd, Bool.and_true, Prod.mk.injEq, Bool.decide_and]⟩
instance {α β : Type} [DecidableEq α] [DecidableEq β] {e : α → D} {f : β → D} [h1 : SD e] [h2 : SD f] : SD (eLP e f) := ⟨fun p q => by
  obtain ⟨a, b⟩ := p
  obtain ⟨c, d⟩ := q
  simp only [eLP, sameD, sameDs, h1.sd, h2.sd, Bool.and_true, Prod.mk.injEq, Bool.decide_and]⟩
instance {α β γ : Type} [DecidableEq α] [DecidableEq β] [DecidableEq γ] {e : α → D} {f : β → D} {g : γ → D} [h1 : SD e] [h2 : SD f] [h3 : SD g] : SD (eLP3 e f g) := ⟨fun p q => by
  obtain ⟨a, b, c⟩ := p
  obtain ⟨a', b', c'⟩ := q
  simp only [eLP3, sameD, sameDs, h1.sd, h2.sd, h3.sd, Bool.and_true, Prod.mk.injEq, Bool.decide_and]⟩
instance {α β γ : Type} [DecidableEq α] [DecidableEq β] [DecidableEq γ] {e : α → D} {f : β → D} {g : γ → D} [h1 : SD e] [h2 : SD f] [h3 : SD g] : SD (eP3 e f g) := ⟨fun p q => by
  obtain ⟨a, b, x⟩ := p
  obtain ⟨c, d, y⟩ := q
  simp only [eP3, sameD, sameDs, h1.sd, h2.sd, h3.sd, Bool.and_true, Prod.mk.injEq, Bool.decide_and]⟩
instance {α β γ δ : Type} [DecidableEq α] [DecidableEq β] [DecidableEq γ] [DecidableEq δ] {e : α → D} {f : β → D} {g : γ → D} {i : δ → D} [h1 : SD e] [h2 : SD f] [h3 : SD g] [h4 : SD i] : SD (eP4 e f g i) := ⟨fun p q => by
  obtain ⟨a, b, x, z⟩ := p
  obtain ⟨c, d, y, w⟩ := q
  simp only [eP4, sameD, sameDs, h1.sd, h2.sd, h3.sd, h4.sd, Bool.and_true, Prod.mk.injEq, Bool.decide_and]⟩
theorem sameD_nonL : ∀ d : D, isNon d = false → sameD .non d = false
  | .non, h => by cases h
  | .bl _, _ => rfl
  | .int _, _ => rfl
  | .str _, _ => rfl
  | .tup _, _ => rfl
  | .lst _, _ => rfl
  | .dK _, _ => rfl
  | .dT _, _ => rfl
  | .ref _, _ => rfl
  | .fn _, _ => rfl
  | .frz _, _ => rfl
theorem sameD_nonR : ∀ d : D, isNon d = false → sameD d .non = false
  | .non, h => by cases h
  | .bl _, _ => rfl
  | .int _, _ => rfl
  | .str _, _ => rfl
  | .tup _, _ => rfl
  | .lst _, _ => rfl
  | .dK _, _ => rfl
  | .dT _, _ => rfl
  | .ref _, _ => rfl
  | .fn _, _ => rfl
  | .frz _, _ => rfl
instance {α : Type} [DecidableEq α] {e : α → D} [h : SD e] [n : NN e] : SD (eO e) := ⟨fun a b => by
  cases a with
  | none => cases b with
    | none => rfl
    | some y =>
      show sameD .non (e y) = _
      rw [sameD_nonL _ (n.nn y)]
      rfl
  | some x => cases b with
    | none =>
      show sameD (e x) .non = _
      rw [sameD_nonR _ (n.nn x)]
      rfl
    | some y =>
      show sameD (e x) (e y) = _
      rw [h.sd]
      simp⟩
theorem plains_all2 : ∀ {l : List D}, plains l = true → ∀ d ∈ l, plain d = true
  | [], _, d, h => by cases h
  | x :: l, h, d, hd => by
    simp only [plains, Bool.and_eq_true] at h
    rcases List.mem_cons.mp hd with rfl | hd
    · exact h.1
    · exact plains_all2 h.2 d hd
theorem deps_leN : ∀ {l : List D} {n : Nat}, deps l < n → ∀ d ∈ l, dep d < n
  | [], _, _, d, h => by cases h
  | x :: l, n, h, d, hd => by
    simp only [deps] at h
    rcases List.mem_cons.mp hd with rfl | hd
    · omega
    · exact deps_leN (l := l) (by omega) d hd
theorem lcL_zip {f : D → RH → Res (Option D)} {R : RH} : ∀ {xs ys : List D}, (∀ x ∈ xs, ∀ y ∈ ys, f (.tup [x, y]) R = .ok (some (.bl (sameD x y))) R) → lcL f (zipL xs ys) R = .ok ((List.zipWith sameD xs ys).map D.bl) R
  | [], _, _ => rfl
  | _ :: _, [], _ => rfl
  | x :: xs, y :: ys, h => by
    simp only [zipL, lcL]
    rw [h x List.mem_cons_self y List.mem_cons_self]
    simp only
    rw [lcL_zip fun a ha b hb => h a (List.mem_cons_of_mem _ ha) b (List.mem_cons_of_mem _ hb)]
    simp only [List.zipWith_cons_cons, List.map_cons]
theorem fmod_in {a b : Int} (h : 0 < b) : 0 ≤ a.fmod b ∧ a.fmod b < b := by
  rw [Int.fmod_eq_emod_of_nonneg a (Int.le_of_lt h)]
  exact ⟨Int.emod_nonneg _ (by omega), Int.emod_lt_of_pos _ h⟩
theorem flt_bl (b : Bool) : flt (.bl b) = true := rfl
theorem flt_int (b : Int) : flt (.int b) = true := rfl
theorem flt_str {x : Str} (h : plain (.str x) = true) : flt (.str x) = true := by
  unfold flt
  rw [h]
  rfl
end Cw

end
section
/-! Nv: what may raise; lambdas handed to catchers. -/
namespace Cw
open PySem L2
/-- the sum of what may be ints -/
def sumD (l : List D) : Int := ((intsD l).getD []).sum
section
variable {ck : Nat → List D → RH → Res D} {σ : List Sl} {a : Ex} {p : Prop}
theorem TV.sumDT {l : List D} (h : TV ck a σ (eT eId) l p) : TV ck (.blt .sum (.cons a .nil)) σ .int (sumD l) (p ∧ (intsD l).isSome = true) := fun ⟨hp, hq⟩ R => by
  simp only [ev, evb, h hp R, Res.bind, eT, bltD, map_eId]
  unfold sumD
  cases e : intsD l with
  | none => rw [e] at hq; cases hq
  | some ns => rfl
theorem TV.sumDL {l : List D} (h : TV ck a σ (eL eId) l p) : TV ck (.blt .sum (.cons a .nil)) σ .int (sumD l) (p ∧ (intsD l).isSome = true) := fun ⟨hp, hq⟩ R => by
  simp only [ev, evb, h hp R, Res.bind, eL, bltD, map_eId]
  unfold sumD
  cases e : intsD l with
  | none => rw [e] at hq; cases hq
  | some ns => rfl
end
def bX {α β : Type} (r : Except Nat α) (K : α → Except Nat β) : Except Nat β := match r with
  | .ok v => K v
  | .error c => .error c
def pX {α : Type} (r : Except Nat α) (P : α → Prop) : Prop := match r with
  | .ok v => P v
  | .error _ => True
theorem pX_true {α : Type} {r : Except Nat α} : pX r (fun _ => True) ↔ True := by cases r <;> simp [pX]
def mX {α β : Type} (f : α → β) (r : Except Nat α) : Except Nat β := match r with
  | .ok v => .ok (f v)
  | .error c => .error c
/-- the own answer -/
def resX {α : Type} (enc : α → D) (r : Except Nat α) (R : RH) : Res D := match r with
  | .ok v => .ok (enc v) R
  | .error c => .exc c R
/-- checks one behind another -/
def forE {α : Type} (step : α → Except Nat Unit) : List α → Except Nat Unit
  | [] => .ok ()
  | x :: xs => match step x with
    | .ok _ => forE step xs
    | .error c => .error c
def ForEOk {α : Type} (step : α → Except Nat Unit) (pb : α → Prop) : List α → Prop
  | [] => True
  | x :: xs => pb x ∧ match step x with
    | .ok _ => ForEOk step pb xs
    | .error _ => True
/-- what a catcher tells -/
def triD {α : Type} (td : Td) (ws : List D) (enc : α → D) (r : Except Nat α) : D := match r with
  | .ok v => td.of (enc v)
  | .error c => ws.getD c .non
def okW {α : Type} (n : Nat) (r : Except Nat α) : Prop := match r with
  | .ok _ => True
  | .error c => c < n
/-- the slots that a lambda reads -/
def hid : Sl → Sl
  | .sh d => .sh d
  | _ => .no
theorem hide_map : ∀ σ : List Sl, hideS σ = σ.map hid
  | [] => rfl
  | s :: σ => by
    rw [List.map_cons, ← hide_map σ]
    cases s <;> rfl
section
variable (ck : Nat → List D → RH → Res D) (fu : Nat)
def XV {α : Type} (e : Ex) (σ : List Sl) (enc : α → D) (r : Except Nat α) (p : Prop) : Prop := p → ∀ R, ev ck e σ R = resX enc r R
def rQ {α : Type} (R : RH) (z : Res Po) (enc : α → D) : Except Nat α → Prop
  | .ok v => ∃ o, z = .ok o R ∧ pR enc v o
  | .error c => z = .exc c R
def XQ {α : Type} (ss : Sms) (σ : List Sl) (enc : α → D) (m : Except Nat α) (p : Prop) : Prop := p → ∀ R, rQ R (execs ck fu ss σ R) enc m
/-- a loop's body that only checks -/
def rB (R : RH) (z : Res Po) (S : Js → List Sl) : Except Nat Unit → Prop
  | .ok _ => ∃ js, z = .ok (.nx, S js) R
  | .error c => z = .exc c R
def XB (ss : Sms) (σ : List Sl) (S : Js → List Sl) (m : Except Nat Unit) (p : Prop) : Prop := p → ∀ R, rB R (execs ck fu ss σ R) S m
end
section
variable {ck : Nat → List D → RH → Res D} {fu : Nat} {α β γ δ : Type} {x : Bool} {ss a b : Sms} {σ σ' : List Sl} {enc : α → D} {encb : β → D} {v : α} {r : Except Nat α} {m : Except Nat β} {p q pa pb pr : Prop} {e : Ex} {i : Nat}
theorem XV.pure (h : TV ck e σ enc v p) : XV ck e σ enc (.ok v) p := fun hp R => h hp R
theorem XV.wk (h : XV ck e σ enc r p) (w : q → p) : XV ck e σ enc r q := fun hq => h (w hq)
theorem XV.call {f : Nat} {es : Exs} {ds : List D} (h : TVs ck es σ ds p) (c : q → ∀ R, ck f ds R = resX enc r R) : XV ck (.call f es) σ enc r (p ∧ q) := fun ⟨hp, hq⟩ R => by
  simp only [ev, h hp R, Res.bind]
  exact c hq R
/-- any value is told as it is -/
theorem XV.dyn (h : XV ck e σ enc r p) : XV ck e σ eId (mX enc r) p := fun hp R => by
  rw [h hp R]
  cases r <;> rfl
theorem XV.callv {fs : List Nat} {es : Exs} {ds : List D} {f : Nat} {r : Except Nat D} (hg : gS σ i = .sh (.fn f)) (h : TVs ck es σ ds p) (c : q → ∀ R, ck f ds R = resX eId r R) : XV ck (.callv i fs es) σ eId r (p ∧ f ∈ fs ∧ q) := fun ⟨hp, hm, hq⟩ R => by
  simp only [ev, hg, hm, if_true, h hp R, Res.bind]
  exact c hq R
theorem XV.notX {r : Except Nat Bool} (h : XV ck e σ .bl r p) : XV ck (.not e) σ .bl (mX (fun b => !b) r) p := fun hp R => by
  simp only [ev, h hp R]
  cases r <;> rfl
theorem TV.tri {f n : Nat} {td : Td} {ws : List D} {s : List Sl} (hn : n = ws.length) (hs : σ.map hid = s) (h : XV ck e s enc r p) (hk : ∀ r : Res D, stx e s r = r) : TV ck (.tri f td ws e) σ eId (triD td ws enc r) (p ∧ okW n r) := fun ⟨hp, ho⟩ R => by
  subst hn
  show triR td ws (stx e (hideS σ) (ev ck e (hideS σ) R)) = _
  rw [hide_map, hs, hk, h hp R]
  cases r with
  | ok v => rfl
  | error c =>
    have ho : c < ws.length := ho
    simp only [resX, triR, List.getElem?_eq_getElem ho, triD, List.getD_eq_getElem?_getD, Option.getD_some, eId]
theorem XQ.at_ (σ' : List Sl) (h : σ = σ') (t : XQ ck fu ss σ' encb m p) : XQ ck fu ss σ encb m p := h ▸ t
theorem XQ.pure {v : β} (t : TQ ck fu x ss σ (pR encb) v p) : XQ ck fu ss σ encb (.ok v) p := fun hp R => let ⟨o, h1, h2, _⟩ := t hp R; ⟨o, h1, h2⟩
/-- one of several defs -/
def CV (ck : Nat → List D → RH → Res D) (ds : List D) (f : Nat) (r : Except Nat D) (q : Prop) : Prop := q → ∀ R, ck f ds R = resX eId r R
theorem CV.nil {f : Nat} {ds : List D} : CV ck ds f (.error 0) False := fun h => h.elim
theorem CV.cons {f j : Nat} {ds : List D} {r : Except Nat α} {r' : Except Nat D} (h : p → ∀ R, ck j ds R = resX enc r R) (t : CV ck ds f r' q) : CV ck ds f (if f = j then mX enc r else r') ((f = j → p) ∧ (f ≠ j → q)) := fun ⟨h1, h2⟩ R => by
  by_cases e : f = j
  · subst e
    rw [if_pos rfl, h (h1 rfl) R]
    cases r <;> rfl
  · rw [if_neg e]
    exact t (h2 e) R
theorem TV.dic0 : TV ck .dic0 σ eId (D.dK []) True := fun _ R => rfl
theorem TV.dic1 {k : Int} (h : TV ck e σ enc v p) (hk : ∀ r : Res D, stx e σ r = r) : TV ck (.dic1 k e) σ eId (D.dK [(.inl k, enc v)]) p := fun hp R => by
  simp only [ev, hk, h hp R, Res.bind, eId]
theorem ForEOk_true {step : α → Except Nat Unit} {xs : List α} : ForEOk step (fun _ => True) xs ↔ True := by
  refine ⟨fun _ => trivial, fun _ => ?_⟩
  induction xs with
  | nil => trivial
  | cons x xs ih => exact ⟨trivial, by cases step x <;> first | exact ih | trivial⟩
theorem countP_deq [DecidableEq α] [DQ enc] (z : α) : ∀ l : List α, ((l.map enc).countP fun y => deq y (enc z)) = l.countP fun y => decide (y = z)
  | [] => rfl
  | y :: l => by rw [List.map_cons, List.countP_cons, List.countP_cons, countP_deq z l, DQ.dq]
theorem TV.count [DecidableEq α] {o y : Ex} {l : List α} {z : α} {n : Nat} [FT enc n] [DQ enc] (hn : n + 1 ≤ 60) (h : TV ck o σ (eL enc) l p) (h2 : TV ck y σ enc z q) : TV ck (.meth .count o (.cons y .nil)) σ .int ((l.countP fun w => decide (w = z) : Nat) : Int) (p ∧ q) := fun ⟨hp, hq⟩ R => by
  have f1 : flt (.lst (l.map enc)) = true := FT.flt (e := eL enc) hn l
  have f2 : flt (enc z) = true := FT.flt (e := enc) (by omega) z
  simp only [ev, evb, h hp R, Res.bind, eL, mthOn, if_true, h2 hq R, methD, f1, f2, Bool.and_self, Res.of, countP_deq]
/-- never reached -/
theorem XQ.stuck : XQ ck fu ss σ encb m False := fun h => h.elim
theorem XQ.iteR {c : Ex} {b1 : Bool} {k : Nat} {s' : Sms} (h : TV ck c σ .bl b1 p) (hr : XQ ck fu ss σ encb m pr) : XQ ck fu (.cons (.ite c (.cons (.raise k) s') .nil) ss) σ encb (if b1 = true then .error k else m) (p ∧ (b1 = false → pr)) := fun ⟨hp, h2⟩ R => by
  rw [execs_cons, ite_run h hp]
  cases b1 with
  | true => exact rfl
  | false => exact hr (h2 rfl) R
theorem XQ.xpr (h : XV ck e σ enc r p) (hk : ∀ r : Res D, stx e σ r = r) (hr : XQ ck fu ss σ encb m pr) : XQ ck fu (.cons (.xpr (.ex e)) ss) σ encb (bX r fun _ => m) (p ∧ pX r fun _ => pr) := fun ⟨hp, hq⟩ R => by
  rw [execs_cons]
  simp only [exec, evSE, hk, h hp R]
  cases r with
  | error c => exact rfl
  | ok v => exact hr hq R
theorem XQ.setX {K : α → Except Nat β} {P : α → Prop} (h : XV ck e σ enc r p) (hk : ∀ r : Res D, stx e σ r = r) (hr : ∀ y, XQ ck fu ss (sS σ i (.sh (enc y))) encb (K y) (P y)) : XQ ck fu (.cons (.set i (.ex e)) ss) σ encb (bX r K) (p ∧ pX r P) := fun ⟨hp, hq⟩ R => by
  rw [execs_cons]
  simp only [exec, evSE, hk, h hp R]
  cases r with
  | error c => exact rfl
  | ok v => exact hr v hq R
theorem XQ.set {K : α → Except Nat β} {P : α → Prop} (h : TV ck e σ enc v p) (hk : ∀ r : Res D, stx e σ r = r) (hr : ∀ y, XQ ck fu ss (sS σ i (.sh (enc y))) encb (K y) (P y)) : XQ ck fu (.cons (.set i (.ex e)) ss) σ encb (bnd v K) (p ∧ bnd v P) := XQ.setX (r := .ok v) (XV.pure h) hk hr
theorem XQ.unp {ts : Tgs} {K : α → Except Nat β} {P : α → Prop} (σ' : α → List Sl) (h : TV ck e σ enc v p) (hk : ∀ r : Res D, stx e σ r = r) (hs : ∀ y, setT (.tp ts) (enc y) σ = some (σ' y)) (hr : ∀ y, XQ ck fu ss (σ' y) encb (K y) (P y)) : XQ ck fu (.cons (.unp ts (.ex e)) ss) σ encb (bnd v K) (p ∧ bnd v P) := fun ⟨hp, hq⟩ R => by
  rw [execs_cons]
  simp only [exec, evSE, hk, h hp R, Res.bind, hs, sqK]
  exact hr v hq R
theorem XQ.par {is : List (Nat × Bool)} {es : Exs} {K : α → Except Nat β} {P : α → Prop} (dd : α → List D) (h : TP ck is es σ (dd v) p) (hr : ∀ y, XQ ck fu ss (setP is (dd y) σ) encb (K y) (P y)) : XQ ck fu (.cons (.par is es) ss) σ encb (bnd v K) (p ∧ bnd v P) := fun ⟨hp, hq⟩ R => by
  rw [execs_cons]
  simp only [exec, h hp R, Res.bind, sqK]
  exact hr v hq R
theorem XQ.ret (h : XV ck e σ encb m p) : XQ ck fu (.cons (.ret (.ex e)) ss) σ encb m p := fun hp R => by
  rw [execs_cons]
  simp only [exec, h hp R]
  cases m with
  | error c => exact rfl
  | ok v => exact ⟨_, rfl, .inl ⟨σ, rfl⟩⟩
/-- a branch that leaves -/
theorem XQ.iteE {c : Ex} {b1 : Bool} {va : β} (h : TV ck c σ .bl b1 p) (ha : TQ ck fu true a σ (pR encb) va pa) (hr : XQ ck fu ss σ encb m pr) : XQ ck fu (.cons (.ite c a .nil) ss) σ encb (if b1 = true then .ok va else m) (p ∧ (b1 = true → pa) ∧ (b1 = false → pr)) := fun ⟨hp, h1, h2⟩ R => by
  rw [execs_cons, ite_run h hp]
  cases b1 with
  | true =>
    obtain ⟨o, g1, g2, g3⟩ := ha (h1 rfl) R
    have g3 := g3 rfl
    refine ⟨o, ?_, g2⟩
    rw [if_pos rfl, g1]
    obtain ⟨f, s⟩ := o
    cases f <;> first | rfl | cases g3
  | false => exact hr (h2 rfl) R
theorem XQ.esc {is : List Nat} (hr : XQ ck fu ss (escS is σ) encb m p) : XQ ck fu (.cons (.esc is) ss) σ encb m p := fun hp R => by
  rw [execs_cons]
  simp only [exec, sqK]
  exact hr hp R
theorem XB.nil {S : Js → List Sl} (js : Js) (h : σ = S js) : XB ck fu .nil σ S (.ok ()) True := fun _ R => ⟨js, by rw [h]; rfl⟩
theorem XB.iteR {S : Js → List Sl} {m : Except Nat Unit} {c : Ex} {b1 : Bool} {k : Nat} {s' : Sms} (h : TV ck c σ .bl b1 p) (hr : XB ck fu ss σ S m pr) : XB ck fu (.cons (.ite c (.cons (.raise k) s') .nil) ss) σ S (if b1 = true then .error k else m) (p ∧ (b1 = false → pr)) := fun ⟨hp, h2⟩ R => by
  rw [execs_cons, ite_run h hp]
  cases b1 with
  | true => exact rfl
  | false => exact hr (h2 rfl) R
theorem XB.xpr {S : Js → List Sl} {m : Except Nat Unit} (h : XV ck e σ enc r p) (hk : ∀ r : Res D, stx e σ r = r) (hr : XB ck fu ss σ S m pr) : XB ck fu (.cons (.xpr (.ex e)) ss) σ S (bX r fun _ => m) (p ∧ pX r fun _ => pr) := fun ⟨hp, hq⟩ R => by
  rw [execs_cons]
  simp only [exec, evSE, hk, h hp R]
  cases r with
  | error c => exact rfl
  | ok v => exact hr hq R
theorem XQ.for_ {tg : Tg} {it : Itr} {body : Sms} {xs : List α} {S : Js → List Sl} {step : α → Except Nat Unit} {pbb : α → Prop} (js0 : Js) (hi : TIs ck it σ (xs.map enc) p) (h0 : σ = S js0) (hb : ∀ js y, ∃ σ1, setT tg (enc y) (S js) = some σ1 ∧ XB ck fu body σ1 S (step y) (pbb y)) (hr : ∀ js, XQ ck fu ss (S js) encb m pr) :
    XQ ck fu (.cons (.for_ tg it body) ss) σ encb (bX (forE step xs) fun _ => m) (p ∧ ForEOk step pbb xs ∧ pX (forE step xs) fun _ => pr) := fun ⟨hp, hq, hz⟩ R => by
  have hl : ∀ (xs : List α) (js : Js), ForEOk step pbb xs → rB R (forL (forF ck fu tg body) (xs.map enc) (S js) R) S (forE step xs) := by
    intro xs
    induction xs with
    | nil => exact fun js _ => ⟨js, rfl⟩
    | cons y ys ih =>
      intro js ⟨h1, h2⟩
      obtain ⟨σ1, g1, g2⟩ := hb js y
      have g := g2 h1 R
      simp only [List.map_cons, forL, forF, g1, forE]
      cases z : step y with
      | error c =>
        rw [z] at g
        have g : execs ck fu body σ1 R = .exc c R := g
        rw [g]
        exact rfl
      | ok u =>
        rw [z] at g h2
        obtain ⟨js', g⟩ := g
        rw [g]
        exact ih js' h2
  have hl := hl xs js0 hq
  rw [execs_cons, exec_for, hi hp R]
  show rQ R (sqK (fun σ R => execs ck fu ss σ R) (forL (forF ck fu tg body) (xs.map enc) σ R)) encb _
  rw [h0]
  cases z : forE step xs with
  | error c =>
    rw [z] at hl
    have hl : forL (forF ck fu tg body) (xs.map enc) (S js0) R = .exc c R := hl
    rw [hl]
    exact rfl
  | ok u =>
    rw [z] at hl hz
    obtain ⟨js', hl⟩ := hl
    rw [hl]
    exact hr js' hz R
/-- a def's whole -/
theorem XQ.run {d : Df} {args : List D} (hl : args.length = d.ps.length) (t : XQ ck fu d.code (args.map Sl.sh ++ List.replicate (d.N.length - args.length) Sl.no) encb m p) (hp : p) : ∀ R, runD ck fu d args R = resX encb m R := fun R => by
  have g := t hp R
  unfold runD
  rw [if_pos hl]
  cases m with
  | error c =>
    have g : execs ck fu d.code (args.map Sl.sh ++ List.replicate (d.N.length - args.length) Sl.no) R = .exc c R := g
    rw [g]
    rfl
  | ok v =>
    obtain ⟨o, g1, g2⟩ := g
    rw [g1]
    rcases g2 with ⟨s, rfl⟩ | ⟨s, rfl, h⟩
    · rfl
    · show Res.ok D.non R = _
      rw [← h]
      rfl
end
end Cw

end
section
/-! Nl: plain lemmas for what nat.py prints. -/
namespace Cw
open L2
theorem mxL_mem' {l : List Int} (h : l ≠ []) : mxL l ∈ l := by
  cases l with
  | nil => exact absurd rfl h
  | cons x l => exact (maxI_spec l x).1
theorem le_mxL' {l : List Int} {y : Int} (h : y ∈ l) : y ≤ mxL l := by
  cases l with
  | nil => cases h
  | cons x l => exact (maxI_spec l x).2 y h
theorem mxL_eq' {l : List Int} {m : Int} (h1 : m ∈ l) (h2 : ∀ y ∈ l, y ≤ m) : mxL l = m :=
  Int.le_antisymm (h2 _ (mxL_mem' (fun e => by rw [e] at h1; cases h1))) (le_mxL' h1)
theorem szL : PySem.sizeLine = 16777216 := rfl
/-- a test that must not hold -/
theorem cf {b : Bool} {X Y : Prop} (h : b = false) (hy : Y) : (b = true → X) ∧ (b = false → Y) := ⟨fun q => absurd (h.symm.trans q) (by decide), fun _ => hy⟩
theorem ct {b : Bool} {X Y : Prop} (h : b = true) (hx : X) : (b = true → X) ∧ (b = false → Y) := ⟨fun _ => hx, fun q => absurd (h.symm.trans q) (by decide)⟩
theorem bnd_g {α : Type} {v : α} {P : α → Prop} (h : ∀ x, x = v → P x) : bnd v P := h v rfl
theorem mxL_ext {l m : List Int} (h : ∀ x, x ∈ l ↔ x ∈ m) (hn : l ≠ []) : mxL l = mxL m := by
  have h1 := mxL_mem' hn
  exact (mxL_eq' ((h _).mp h1) fun y hy => le_mxL' ((h _).mpr hy)).symm
theorem nd {α : Type} [DecidableEq α] {a b : α} (h : a = b) : (!decide (a = b)) = false := by simp [h]
theorem orF {a b : Bool} (h1 : a = false) (h2 : b = false) : (a || b) = false := by rw [h1, h2]; rfl
theorem drw_i {m : Int} {K : Int → Prop} (h1 : 1 ≤ m) (h2 : m < 1073741824) (h : ∀ x, 0 ≤ x → x < m → K x) : drw m K := ⟨h1, h2, h⟩
section
variable {α β : Type}
theorem ixN_of {n : Nat} {i : Int} (h1 : 0 ≤ i) (h2 : i < n) : ixN n i = some i.toNat := by
  obtain ⟨j, rfl⟩ := Int.eq_ofNat_of_zero_le h1
  unfold ixN
  have : j < n := by omega
  simp [this]
theorem atI_of {l : List α} {i : Int} (h1 : 0 ≤ i) (h2 : i < l.length) : L2.atI l i = l[i.toNat]? := by
  unfold L2.atI
  rw [ixN_of h1 h2]
  rfl
theorem okI_of {l : List α} {i : Int} (h1 : 0 ≤ i) (h2 : i < l.length) : okI l i := by
  unfold okI
  rw [atI_of h1 h2, List.getElem?_eq_getElem (by omega)]
  rfl
theorem okS_of {l : List α} {i : Int} (h1 : 0 ≤ i) (h2 : i < l.length) : okS l i := by
  unfold okS
  rw [ixN_of h1 h2]
  rfl
theorem gI_of [Inhabited α] {l : List α} {i : Int} (h1 : 0 ≤ i) (h2 : i < l.length) : gI l i = l[i.toNat]'(by omega) := by
  unfold gI
  rw [atI_of h1 h2, List.getElem?_eq_getElem (by omega)]
  rfl
theorem gI_nat [Inhabited α] {l : List α} {j : Nat} (h : j < l.length) : gI l (j : Int) = l[j] := by
  rw [gI_of (by omega) (by omega)]
  rfl
theorem gI_mem [Inhabited α] {l : List α} {i : Int} (h1 : 0 ≤ i) (h2 : i < l.length) : gI l i ∈ l := by
  rw [gI_of h1 h2]
  exact List.getElem_mem _
theorem sI_of {l : List α} {i : Int} {v : α} (h1 : 0 ≤ i) (h2 : i < l.length) : sI l i v = l.set i.toNat v := by
  unfold sI
  rw [ixN_of h1 h2]
/-- of drawn places -/
theorem sme [Inhabited α] {l : List α} {K : α → Prop} (h0 : l ≠ []) (h1 : l.length < 1073741824) (h : ∀ x ∈ l, K x) : drw (l.length : Int) fun d => okI l d ∧ K (gI l d) := by
  have := List.length_pos_iff.mpr h0
  exact ⟨by omega, by omega, fun x h2 h3 => ⟨okI_of h2 h3, h _ (gI_mem h2 h3)⟩⟩
theorem mem_rng {n x : Int} : x ∈ rng n ↔ 0 ≤ x ∧ x < n := by
  unfold rng
  rw [mem_ir]
  omega
theorem mem_rng2 {a b x : Int} : x ∈ rng2 a b ↔ a ≤ x ∧ x < b := by
  unfold rng2
  rw [mem_ir]
  omega
theorem rng_length {n : Int} : (rng n).length = n.toNat := by simp [rng, ir]
theorem rng2_length {a b : Int} : (rng2 a b).length = (b - a).toNat := by simp [rng2, ir]
theorem okR_of {n : Int} (h1 : -1000 ≤ n) (h2 : n ≤ 1000000) : okR n := by
  unfold okR
  rw [szL]
  omega
theorem okR2_of {a b : Int} (h1 : -1000000 ≤ a) (h2 : a ≤ 1000000) (h3 : -1000000 ≤ b) (h4 : b ≤ 1000000) : okR2 a b := by
  unfold okR2
  rw [szL]
  omega
/-- where a walk over numbers stands -/
theorem rng_split {n : Int} {pre post : List Int} {x : Int} (h : rng n = pre ++ x :: post) : x = pre.length ∧ pre = rng pre.length ∧ (pre.length : Int) < n := by
  have hl := congrArg List.length h
  rw [rng_length, List.length_append, List.length_cons] at hl
  have e : ∀ i, i < n.toNat → (rng n)[i]? = some (i : Int) := fun i hi => by
    unfold rng ir
    rw [List.getElem?_map, List.getElem?_range hi]
    simp
  have h1 := e pre.length (by omega)
  rw [h, List.getElem?_append_right (Nat.le_refl _), Nat.sub_self, List.getElem?_cons_zero] at h1
  refine ⟨by simpa using h1, ?_, by omega⟩
  refine List.ext_getElem? fun i => ?_
  by_cases hi : i < pre.length
  · have h2 := e i (by omega)
    rw [h, List.getElem?_append_left hi] at h2
    rw [h2]
    unfold rng ir
    rw [List.getElem?_map, List.getElem?_range (by omega)]
    simp
  · rw [List.getElem?_eq_none (by omega), List.getElem?_eq_none (by rw [rng_length]; omega)]
theorem rng_snoc (n : Nat) : rng ((n + 1 : Nat) : Int) = rng (n : Int) ++ [(n : Int)] := by
  unfold rng ir
  have h1 : ((n + 1 : Nat) : Int).toNat = n + 1 := by omega
  have h2 : ((n : Nat) : Int).toNat = n := by omega
  rw [h1, h2, List.range_succ, List.map_append]
  simp
/-! folds -/
theorem foldOk_inv {step : β → α → β} {pb : β → α → Prop} (P : β → Prop) : ∀ {xs : List α} {s : β}, P s → (∀ s x, x ∈ xs → P s → pb s x ∧ P (step s x)) → FoldOk step pb s xs
  | [], _, _, _ => trivial
  | x :: xs, s, h, hs => by
    obtain ⟨h1, h2⟩ := hs s x List.mem_cons_self h
    exact ⟨h1, foldOk_inv P h2 fun s y hy => hs s y (List.mem_cons_of_mem _ hy)⟩
theorem foldl_inv {step : β → α → β} (P : β → Prop) : ∀ {xs : List α} {s : β}, P s → (∀ s x, x ∈ xs → P s → P (step s x)) → P (xs.foldl step s)
  | [], _, h, _ => h
  | x :: xs, s, h, hs => by
    rw [List.foldl_cons]
    exact foldl_inv P (hs s x List.mem_cons_self h) fun s y hy => hs s y (List.mem_cons_of_mem _ hy)
theorem foldOk_pre {step : β → α → β} {pb : β → α → Prop} (P : List α → β → Prop) : ∀ {xs pre : List α} {s : β}, P pre s → (∀ pre' x post s, pre ++ xs = pre' ++ x :: post → P pre' s → pb s x ∧ P (pre' ++ [x]) (step s x)) → FoldOk step pb s xs
  | [], _, _, _, _ => trivial
  | x :: xs, pre, s, h, hs => by
    obtain ⟨h1, h2⟩ := hs pre x xs s rfl h
    exact ⟨h1, foldOk_pre P (pre := pre ++ [x]) h2 fun pre' y post s e => hs pre' y post s (by rw [← e]; simp)⟩
theorem foldl_pre {step : β → α → β} (P : List α → β → Prop) : ∀ {xs pre : List α} {s : β}, P pre s → (∀ pre' x post s, pre ++ xs = pre' ++ x :: post → P pre' s → P (pre' ++ [x]) (step s x)) → P (pre ++ xs) (xs.foldl step s)
  | [], pre, s, h, _ => by simpa using h
  | x :: xs, pre, s, h, hs => by
    rw [List.foldl_cons]
    have := foldl_pre P (xs := xs) (pre := pre ++ [x]) (hs pre x xs s rfl h) fun pre' y post s e => hs pre' y post s (by rw [← e]; simp)
    simpa using this
theorem forOk_inv {γ : Type} {step : β → α → Fw γ β} {pb : β → α → Prop} (P : β → Prop) : ∀ {xs : List α} {s : β}, P s → (∀ s x, x ∈ xs → P s → pb s x ∧ (∀ s', step s x = .nx s' → P s') ∧ (∀ s', step s x = .ct s' → P s')) → ForOk step pb s xs
  | [], _, _, _ => trivial
  | x :: xs, s, h, hs => by
    obtain ⟨h1, h2, h3⟩ := hs s x List.mem_cons_self h
    refine ⟨h1, ?_⟩
    have hr := fun s y hy => hs s y (List.mem_cons_of_mem _ hy)
    cases q : step s x with
    | nx s' => exact forOk_inv P (h2 s' q) hr
    | ct s' => exact forOk_inv P (h3 s' q) hr
    | bk s' => trivial
    | rt v => trivial
/-- a loop that answers at the first that fits -/
theorem forW_find {γ : Type} {step : β → α → Fw γ β} {s : β} {p : α → Bool} {r : α → γ} : ∀ {xs : List α}, (∀ x ∈ xs, step s x = if p x = true then .rt (r x) else .nx s) → forW step s xs = match xs.find? p with
    | some x => .rt (r x)
    | none => .nx s
  | [], _ => rfl
  | x :: xs, h => by
    simp only [forW, List.find?_cons]
    rw [h x List.mem_cons_self]
    cases q : p x with
    | true => rfl
    | false =>
      simp only [Bool.false_eq_true, if_false]
      exact forW_find fun y hy => h y (List.mem_cons_of_mem _ hy)
theorem whl_run {c : β → Bool} {next : β → β} {pc pb : β → Prop} (I : β → Prop) (μ : β → Nat) (hi : ∀ s, I s → pc s ∧ (c s = true → pb s ∧ I (next s) ∧ μ (next s) < μ s)) : ∀ {n : Nat} {s : β}, I s → μ s < n → WhlOk c next pc pb n s ∧ I (whlI c next n s) ∧ c (whlI c next n s) = false
  | 0, s, _, h => absurd h (Nat.not_lt_zero _)
  | n + 1, s, h, hn => by
    obtain ⟨h1, h2⟩ := hi s h
    unfold WhlOk whlI
    cases q : c s with
    | false => exact ⟨⟨h1, fun z => by cases z⟩, by simpa using h, by simpa using q⟩
    | true =>
      obtain ⟨g1, g2, g3⟩ := h2 q
      obtain ⟨r1, r2, r3⟩ := whl_run I μ hi (n := n) g2 (by omega)
      exact ⟨⟨h1, fun _ => ⟨g1, r1⟩⟩, by simpa using r2, by simpa using r3⟩
end
/-! cuts -/
theorem cut_nat {α : Type} {l : List α} {i j : Int} (hi : 0 ≤ i) (hj : 0 ≤ j) : cut l (some i) (some j) = (l.drop i.toNat).take (j.toNat - i.toNat) := by
  obtain ⟨a, rfl⟩ := Int.eq_ofNat_of_zero_le hi
  obtain ⟨b, rfl⟩ := Int.eq_ofNat_of_zero_le hj
  unfold cut
  rw [HT.sIx_nat, HT.sIx_nat]
  simp only [Int.toNat_natCast]
  by_cases h : a ≤ l.length
  · rw [Nat.min_eq_left h]
    by_cases h2 : b ≤ l.length
    · rw [Nat.min_eq_left h2]
    · rw [Nat.min_eq_right (by omega), List.take_of_length_le (by rw [List.length_drop]; omega), List.take_of_length_le (by rw [List.length_drop]; omega)]
  · rw [show min a l.length = l.length by omega, List.drop_of_length_le (Nat.le_refl _), List.drop_of_length_le (by omega)]
    simp
theorem cut_lo {α : Type} {l : List α} {i : Int} (hi : 0 ≤ i) : cut l (some i) none = l.drop i.toNat := by
  obtain ⟨a, rfl⟩ := Int.eq_ofNat_of_zero_le hi
  unfold cut
  rw [HT.sIx_nat]
  simp only [Int.toNat_natCast]
  have e : HT.sIx l.length l.length none = l.length := rfl
  rw [e]
  by_cases h : a ≤ l.length
  · rw [Nat.min_eq_left h, List.take_of_length_le (by rw [List.length_drop]; omega)]
  · rw [Nat.min_eq_right (by omega), List.drop_of_length_le (by omega), List.drop_of_length_le (by omega)]
    simp
theorem cut_hi {α : Type} {l : List α} {j : Int} (hj : 0 ≤ j) : cut l none (some j) = l.take j.toNat := by
  obtain ⟨b, rfl⟩ := Int.eq_ofNat_of_zero_le hj
  unfold cut
  rw [HT.sIx_nat]
  have e : HT.sIx l.length 0 none = 0 := rfl
  rw [e]
  simp only [Int.toNat_natCast, List.drop_zero, Nat.sub_zero]
  by_cases h2 : b ≤ l.length
  · rw [Nat.min_eq_left h2]
  · rw [Nat.min_eq_right (by omega), List.take_of_length_le (by omega), List.take_of_length_le (by omega)]
theorem pw_zip {α : Type} {R : α → α → Prop} : ∀ {l : List α}, l.Pairwise R → ∀ p ∈ l.zip (l.drop 1), R p.1 p.2
  | [], _, p, h => by simp at h
  | [x], _, p, h => by simp at h
  | x :: y :: l, h, p, hp => by
    simp only [List.drop_succ_cons, List.drop_zero, List.zip_cons_cons, List.mem_cons] at hp
    rcases hp with rfl | hp
    · exact (List.pairwise_cons.mp h).1 y List.mem_cons_self
    · exact pw_zip (List.pairwise_cons.mp h).2 p (by simpa using hp)
theorem zip_pw {α : Type} {R : α → α → Prop} (tr : ∀ a b c, R a b → R b c → R a c) : ∀ {l : List α}, (∀ p ∈ l.zip (l.drop 1), R p.1 p.2) → l.Pairwise R
  | [], _ => .nil
  | [x], _ => List.pairwise_singleton _ _
  | x :: y :: l, h => by
    have ih := zip_pw tr (l := y :: l) fun p hp => h p (by simp only [List.drop_succ_cons, List.drop_zero, List.zip_cons_cons, List.mem_cons]; exact .inr (by simpa using hp))
    have h1 : R x y := h (x, y) (by simp)
    refine List.pairwise_cons.mpr ⟨fun z hz => ?_, ih⟩
    rcases List.mem_cons.mp hz with rfl | hz
    · exact h1
    · exact tr _ _ _ h1 ((List.pairwise_cons.mp ih).1 z hz)
theorem all_id {α : Type} (f : α → Bool) (l : List α) : (l.map f).all id = l.all f := by rw [List.all_map]; rfl
theorem all_of {α : Type} {f : α → Bool} {l : List α} (h : ∀ x ∈ l, f x = true) : (l.map f).all id = true := by
  rw [all_id, List.all_eq_true]
  exact h
theorem any_of {α : Type} {f : α → Bool} {l : List α} (h : ∀ x ∈ l, f x = false) : (l.map f).any id = false := by
  rw [List.any_map, List.any_eq_false]
  intro x hx
  simp [h x hx]
theorem foldl_ext {α β : Type} {f g : β → α → β} (P : β → Prop) : ∀ {xs : List α} {s : β}, P s → (∀ s x, x ∈ xs → P s → f s x = g s x ∧ P (g s x)) → xs.foldl f s = xs.foldl g s
  | [], _, _, _ => rfl
  | x :: xs, s, h, hs => by
    obtain ⟨h1, h2⟩ := hs s x List.mem_cons_self h
    rw [List.foldl_cons, List.foldl_cons, h1]
    exact foldl_ext P h2 fun s y hy => hs s y (List.mem_cons_of_mem _ hy)
theorem repL_one {α : Type} {x : α} {k : Int} : repL [x] k = List.replicate k.toNat x := by
  unfold repL
  induction k.toNat with
  | zero => rfl
  | succ n ih => rw [List.replicate_succ, List.flatten_cons, ih, List.replicate_succ]; rfl
/-! greatest, least -/
theorem mxL_mem {l : List Int} (h : l ≠ []) : mxL l ∈ l := by
  cases l with
  | nil => exact absurd rfl h
  | cons x l => exact (maxI_spec l x).1
theorem le_mxL {l : List Int} {y : Int} (h : y ∈ l) : y ≤ mxL l := by
  cases l with
  | nil => cases h
  | cons x l => exact (maxI_spec l x).2 y h
theorem mnL_mem {l : List Int} (h : l ≠ []) : mnL l ∈ l := by
  cases l with
  | nil => exact absurd rfl h
  | cons x l => exact (minI_spec l x).1
theorem mnL_le {l : List Int} {y : Int} (h : y ∈ l) : mnL l ≤ y := by
  cases l with
  | nil => cases h
  | cons x l => exact (minI_spec l x).2 y h
theorem mxL_eq {l : List Int} {m : Int} (h1 : m ∈ l) (h2 : ∀ y ∈ l, y ≤ m) : mxL l = m :=
  Int.le_antisymm (h2 _ (mxL_mem (fun e => by rw [e] at h1; cases h1))) (le_mxL h1)
theorem mnL_eq {l : List Int} {m : Int} (h1 : m ∈ l) (h2 : ∀ y ∈ l, m ≤ y) : mnL l = m :=
  Int.le_antisymm (mnL_le h1) (h2 _ (mnL_mem (fun e => by rw [e] at h1; cases h1)))
theorem idxO_spec {α : Type} [DecidableEq α] {a : α} : ∀ {l : List α}, a ∈ l → ∃ j, idxO a l = some j ∧ l[j]? = some a ∧ ∀ i, i < j → l[i]? ≠ some a
  | [], h => by cases h
  | x :: l, h => by
    unfold idxO
    by_cases q : x = a
    · exact ⟨0, by simp [q], by simp [q], fun i hi => absurd hi (Nat.not_lt_zero _)⟩
    · rcases List.mem_cons.mp h with h | h
      · exact absurd h.symm q
      · obtain ⟨j, h1, h2, h3⟩ := idxO_spec h
        refine ⟨j + 1, by simp [q, h1], by simpa using h2, fun i hi => ?_⟩
        cases i with
        | zero => simpa using q
        | succ i => simpa using h3 i (by omega)
/-! fractions -/
def frac (a b : Int) : Int × Int := (a.fdiv (Int.gcd a b : Int), b.fdiv (Int.gcd a b : Int))
theorem fmod_emod {a b : Int} (hb : 0 < b) : a.fmod b = a % b := Int.fmod_eq_emod_of_nonneg a (Int.le_of_lt hb)
theorem fdiv_ediv {a b : Int} (hb : 0 < b) : a.fdiv b = a / b := Int.fdiv_eq_ediv_of_nonneg a (Int.le_of_lt hb)
theorem gcd_step {a b : Int} : a - b * a.fdiv b = a.fmod b := by
  have := Int.mul_fdiv_add_fmod a b
  omega
theorem gcd_fmod {a b : Int} (hb : 0 < b) : Int.gcd b (a.fmod b) = Int.gcd a b := by
  have e : a = a.fmod b + b * a.fdiv b := by
    have := Int.mul_fdiv_add_fmod a b
    omega
  rw [Int.gcd_comm a b]
  conv => rhs; rw [e]
  rw [Int.gcd_add_mul_left_right]
theorem gcd_pos {a b : Int} (h : 0 < b) : 0 < (Int.gcd a b : Int) ∧ (Int.gcd a b : Int) ≤ b := by
  have h1 : 0 < Int.gcd a b := Int.gcd_pos_of_ne_zero_right a (by omega)
  have h2 : Int.gcd a b ∣ b.natAbs := Nat.gcd_dvd_right _ _
  have h3 := Nat.le_of_dvd (by omega) h2
  omega
section
variable {c : Int × Int → Bool} {next : Int × Int → Int × Int} {pc pb : Int × Int → Prop} {fu : Nat}
/-- the loop of a greatest common part, however it is written -/
theorem whl_gcd (hc : ∀ s : Int × Int, 0 ≤ s.2 → c s = decide (s.2 ≠ 0)) (hn : ∀ s : Int × Int, 0 < s.2 → next s = (s.2, s.1.fmod s.2)) (hpc : ∀ s, pc s) (hpb : ∀ s : Int × Int, 0 < s.2 → s.2 < 1000000000 → pb s) {a b : Int} (hb : 0 ≤ b) (hb2 : b < 1000000000) (hfu : b.toNat < fu) :
    WhlOk c next pc pb fu (a, b) ∧ ∃ x : Int, whlI c next fu (a, b) = (x, 0) ∧ x.natAbs = Int.gcd a b ∧ (0 ≤ a → 0 ≤ x) := by
  obtain ⟨h1, ⟨i1, i2, i3, i4⟩, h3⟩ := whl_run (c := c) (next := next) (pc := pc) (pb := pb) (fun s => 0 ≤ s.2 ∧ s.2 < 1000000000 ∧ Int.gcd s.1 s.2 = Int.gcd a b ∧ (0 ≤ a → 0 ≤ s.1)) (fun s => s.2.toNat) (fun s ⟨i1, i2, i3, i4⟩ => ⟨hpc s, fun q => by
    rw [hc s i1] at q
    have h0 : s.2 ≠ 0 := of_decide_eq_true q
    have hp : 0 < s.2 := by omega
    have g1 : 0 ≤ s.1.fmod s.2 := by rw [fmod_emod hp]; exact Int.emod_nonneg _ h0
    have g2 : s.1.fmod s.2 < s.2 := by rw [fmod_emod hp]; exact Int.emod_lt_of_pos _ hp
    refine ⟨hpb s hp i2, ?_, ?_⟩
    · rw [hn s hp]
      exact ⟨g1, by show s.1.fmod s.2 < _; omega, by show Int.gcd s.2 (s.1.fmod s.2) = _; rw [gcd_fmod hp]; exact i3, fun _ => i1⟩
    · rw [hn s hp]
      show (s.1.fmod s.2).toNat < s.2.toNat
      omega⟩) (n := fu) (s := (a, b)) ⟨hb, hb2, rfl, fun h => h⟩ hfu
  refine ⟨h1, ?_⟩
  generalize whlI c next fu (a, b) = s at i1 i2 i3 i4 h3
  obtain ⟨x, y⟩ := s
  rw [hc _ i1] at h3
  have h0 : y = 0 := by simpa using h3
  subst h0
  refine ⟨x, rfl, ?_, i4⟩
  rw [← i3, Int.gcd_zero_right]
end
theorem natAbs_max {x g : Int} (h : (x.natAbs : Int) = g) : max 1 (x.natAbs : Int) = max 1 g := by rw [h]
theorem gcd_natAbs (a b : Int) : Int.gcd (a.natAbs : Int) (b.natAbs : Int) = Int.gcd a b := by simp [Int.gcd]
theorem mulI {a b : Int} (h : a.natAbs ≤ 1000000000000000000) : L2.CMul a b := .inl ⟨by omega, by omega⟩
theorem mulJ {a b : Int} (h : b.natAbs ≤ 1000000000000000000) : L2.CMul a b := .inr ⟨by omega, by omega⟩
theorem divI {a b : Int} (h1 : 0 < b) (h2 : b < 1073741824) : L2.CDivN a b := ⟨by omega, by omega⟩
theorem zip_swp {α β : Type} : ∀ (l : List α) (m : List β), l.zip m = (m.zip l).map fun p => (p.2, p.1)
  | [], m => by cases m <;> rfl
  | _ :: _, [] => rfl
  | a :: l, b :: m => by
    simp only [List.zip_cons_cons, List.map_cons]
    rw [zip_swp l m]
theorem al2_all {α : Type} {xs : List α} {l : List Bool} (h : Al2 (fun _ b => b = true) xs l) : l.all id = true := by
  induction h with
  | nil => rfl
  | cons h _ ih => simp [h, ih]
theorem zip_swap {α β γ : Type} (f : α × β → γ) : ∀ (l : List α) (m : List β), (l.zip m).map f = (m.zip l).map fun p => f (p.2, p.1)
  | [], m => by cases m <;> rfl
  | _ :: _, [] => rfl
  | a :: l, b :: m => by
    simp only [List.zip_cons_cons, List.map_cons, zip_swap f l m]
end Cw

end
section
namespace Lw
open PySem PySem.Spec PyProof.Rows L2 Cw
def top (i : Nat) : Stmt := PySem.Challenge.pw_circusweek_k04_whole_sight_from_rows.main.body.getD i (.Pass ⟨0, 0, 0, 0⟩)
def dOf (x : Str) (i : Nat) : He.DefD := ⟨(x, none), x, x, defArgs (top i), defBody (top i), defScope (top i), [], []⟩
def fn : List He.DefD := ([dOf "is_integer" 1, dOf "is_within" 2, dOf "is_tuple_of" 3, dOf "common_part" 10, dOf "ratio" 11, dOf "minus" 12, dOf "sign_of" 13, dOf "whole_of" 14, dOf "is_seat_row" 22, dOf "check_rows" 23, dOf "check_row" 24, dOf "line_at" 25, dOf "raw_blockers" 26, dOf "sees" 27, dOf "blockers" 28, dOf "blind_rows" 29, dOf "floor_needed" 30, dOf "least_floors" 31, dOf "raise_for" 32, dOf "check_ahead" 33] : List He.DefD) ++ ([dOf "height_over" 34, dOf "least_height" 35, dOf "lowest_seen" 36, dOf "_law_bag" 38, dOf "_law_pick" 39, dOf "_law_some" 40, dOf "_law_frac" 41, dOf "_law_blocks" 42, dOf "_law_blockers" 43, dOf "_law_raise" 44, dOf "_law_is_right" 45, dOf "law" 46] : List He.DefD)
def d0 : Df := { x := "is_integer", ps := ["thing"], N := (["thing"] : List Str), code :=
                    (.cons (.ret (.ex (.and (.isi [.int] (.var 0)) (.cons (.not (.isi [.bool] (.var 0))) .nil))))
                    .nil) }
def d1 : Df := { x := "is_within", ps := ["thing", "least", "most"], N := (["thing", "least", "most"] : List Str), code :=
                    (.cons (.ret (.ex (.and (.call 0 (.cons (.var 0) .nil)) (.cons (.ch2 .le .le (.var 1) (.var 0) (.var 2)) .nil))))
                    .nil) }
def d2 : Df := { x := "is_tuple_of", ps := ["thing", "size"], N := (["thing", "size"] : List Str), code :=
                    (.cons (.ret (.ex (.and (.isi [.tuple] (.var 0)) (.cons (.cmp .eq (.blt .len (.cons (.var 0) .nil)) (.var 1)) .nil))))
                    .nil) }
def d3c0 : Ex := (.cmp .ne (.var 1) (.con (.int 0)))
def d3b0 : Sms := (.cons (.par [(0, false), (1, false)] (.cons (.var 1) (.cons (.bin .sub (.var 0) (.bin .mul (.var 1) (.bin .fdiv (.var 0) (.var 1)))) .nil)))
    .nil)
def d3s0 : Sm := .whl d3c0 d3b0
def d3 : Df := { x := "common_part", ps := ["one", "other"], N := (["one", "other"] : List Str), code :=
                    (.cons (.par [(0, false), (1, false)] (.cons (.blt .abs (.cons (.var 0) .nil)) (.cons (.blt .abs (.cons (.var 1) .nil)) .nil)))
                    (.cons d3s0
                    (.cons (.ret (.ex (.var 0)))
                    .nil))) }
def d4 : Df := { x := "ratio", ps := ["top", "bottom"], N := (["top", "bottom", "part"] : List Str), code :=
                    (.cons (.set 2 (.ex (.call 3 (.cons (.var 0) (.cons (.var 1) .nil)))))
                    (.cons (.set 2 (.ex (.ite (.cmp .gt (.var 1) (.con (.int 0))) (.var 2) (.neg (.var 2)))))
                    (.cons (.ret (.ex (.tup (.cons (.bin .fdiv (.var 0) (.var 2)) (.cons (.bin .fdiv (.var 1) (.var 2)) .nil)))))
                    .nil))) }
def d5 : Df := { x := "minus", ps := ["one", "other"], N := (["one", "other"] : List Str), code :=
                    (.cons (.ret (.ex (.call 4 (.cons (.bin .sub (.bin .mul (.idx (.var 0) (.con (.int 0))) (.idx (.var 1) (.con (.int 1)))) (.bin .mul (.idx (.var 1) (.con (.int 0))) (.idx (.var 0) (.con (.int 1))))) (.cons (.bin .mul (.idx (.var 0) (.con (.int 1))) (.idx (.var 1) (.con (.int 1)))) .nil)))))
                    .nil) }
def d6 : Df := { x := "sign_of", ps := ["one", "other"], N := (["one", "other", "gap"] : List Str), code :=
                    (.cons (.set 2 (.ex (.bin .sub (.bin .mul (.idx (.var 0) (.con (.int 0))) (.idx (.var 1) (.con (.int 1)))) (.bin .mul (.idx (.var 1) (.con (.int 0))) (.idx (.var 0) (.con (.int 1)))))))
                    (.cons (.ret (.ex (.bin .sub (.blt .int (.cons (.cmp .gt (.var 2) (.con (.int 0))) .nil)) (.blt .int (.cons (.cmp .lt (.var 2) (.con (.int 0))) .nil)))))
                    .nil)) }
def d7 : Df := { x := "whole_of", ps := ["number"], N := (["number"] : List Str), code :=
                    (.cons (.ret (.ex (.tup (.cons (.var 0) (.cons (.con (.int 1)) .nil)))))
                    .nil) }
def d8 : Df := { x := "is_seat_row", ps := ["thing"], N := (["thing"] : List Str), code :=
                    (.cons (.ret (.ex (.and (.call 2 (.cons (.var 0) (.cons (.con (.int 2)) .nil))) (.cons (.call 1 (.cons (.idx (.var 0) (.con (.int 0))) (.cons (.con (.int 1)) (.cons (.con (.int 100)) .nil)))) (.cons (.call 1 (.cons (.idx (.var 0) (.con (.int 1))) (.cons (.con (.int (-50))) (.cons (.con (.int 200)) .nil)))) .nil)))))
                    .nil) }
def d9x0 : Ex := .lc (.call 8 (.cons (.var 1) .nil)) (.nm 1) (.ex (.var 0)) .no
theorem d9x0s {σ : List Sl} {r : Res D} : stx d9x0 σ r = r := rfl
def d9x1 : Ex := .lc (.cmp .lt (.idx (.var 2) (.con (.int 0))) (.idx (.var 3) (.con (.int 0)))) (.tp (.cons (.nm 2) (.cons (.nm 3) .nil))) (.zip (.var 0) (.slc (.var 0) (.so (.con (.int 1))) .no)) .no
theorem d9x1s {σ : List Sl} {r : Res D} : stx d9x1 σ r = r := rfl
def d9 : Df := { x := "check_rows", ps := ["rows"], N := (["rows", "row", "one", "other"] : List Str), code :=
                    (.cons (.ite (.or (.not (.isi [.tuple] (.var 0))) (.cons (.not (.ch2 .le .le (.con (.int 1)) (.blt .len (.cons (.var 0) .nil)) (.con (.int 12)))) (.cons (.not (.blt .all (.cons d9x0 .nil))) .nil))) (.cons (.raise 0)
                    .nil) .nil)
                    (.cons (.ite (.not (.blt .all (.cons d9x1 .nil))) (.cons (.raise 0)
                    .nil) .nil)
                    .nil)) }
def d10 : Df := { x := "check_row", ps := ["rows", "row"], N := (["rows", "row"] : List Str), code :=
                    (.cons (.xpr (.ex (.call 9 (.cons (.var 0) .nil))))
                    (.cons (.ite (.not (.call 1 (.cons (.var 1) (.cons (.con (.int 0)) (.cons (.bin .sub (.blt .len (.cons (.var 0) .nil)) (.con (.int 1))) .nil))))) (.cons (.raise 1)
                    .nil) .nil)
                    .nil)) }
def d11 : Df := { x := "line_at", ps := ["rows", "row", "ahead"], N := (["rows", "row", "ahead"] : List Str), code :=
                    (.cons (.ret (.ex (.call 4 (.cons (.bin .mul (.bin .add (.idx (.idx (.var 0) (.var 1)) (.con (.int 1))) (.con (.int 4))) (.idx (.idx (.var 0) (.var 2)) (.con (.int 0)))) (.cons (.idx (.idx (.var 0) (.var 1)) (.con (.int 0))) .nil)))))
                    .nil) }
def d12x0 : Ex := .lc (.call 7 (.cons (.bin .add (.idx (.idx (.var 0) (.var 3)) (.con (.int 1))) (.con (.int 5))) .nil)) (.nm 3) (.rng (.var 1)) .no
theorem d12x0s {σ : List Sl} {r : Res D} : stx d12x0 σ r = r := rfl
def d12x1 : Ex := .lc (.var 3) (.nm 3) (.rng (.var 1)) (.so (.cmp .lt (.call 6 (.cons (.call 11 (.cons (.var 0) (.cons (.var 1) (.cons (.var 3) .nil)))) (.cons (.idx (.var 2) (.var 3)) .nil))) (.con (.int 0))))
theorem d12x1s {σ : List Sl} {r : Res D} : stx d12x1 σ r = r := rfl
def d12 : Df := { x := "raw_blockers", ps := ["rows", "row"], N := (["rows", "row", "heads", "ahead"] : List Str), code :=
                    (.cons (.set 2 (.ex d12x0))
                    (.cons (.ret (.ex d12x1))
                    .nil)) }
def d13 : Df := { x := "sees", ps := ["rows", "row"], N := (["rows", "row"] : List Str), code :=
                    (.cons (.xpr (.ex (.call 10 (.cons (.var 0) (.cons (.var 1) .nil)))))
                    (.cons (.ret (.ex (.cmp .eq (.blt .len (.cons (.call 12 (.cons (.var 0) (.cons (.var 1) .nil))) .nil)) (.con (.int 0)))))
                    .nil)) }
def d14 : Df := { x := "blockers", ps := ["rows", "row"], N := (["rows", "row"] : List Str), code :=
                    (.cons (.xpr (.ex (.call 10 (.cons (.var 0) (.cons (.var 1) .nil)))))
                    (.cons (.ret (.ex (.blt .tuple (.cons (.call 12 (.cons (.var 0) (.cons (.var 1) .nil))) .nil))))
                    .nil)) }
def d15x0 : Ex := .lc (.var 1) (.nm 1) (.rng (.blt .len (.cons (.var 0) .nil))) (.so (.cmp .gt (.blt .len (.cons (.call 12 (.cons (.var 0) (.cons (.var 1) .nil))) .nil)) (.con (.int 0))))
theorem d15x0s {σ : List Sl} {r : Res D} : stx d15x0 σ r = r := rfl
def d15 : Df := { x := "blind_rows", ps := ["rows"], N := (["rows", "row"] : List Str), code :=
                    (.cons (.xpr (.ex (.call 9 (.cons (.var 0) .nil))))
                    (.cons (.ret (.ex (.blt .tuple (.cons d15x0 .nil))))
                    .nil)) }
def d16b0 : Sms := (.cons (.par [(5, false), (6, false)] (.cons (.idx (.idx (.var 0) (.var 2)) (.con (.int 0))) (.cons (.bin .add (.idx (.idx (.var 0) (.var 2)) (.con (.int 1))) (.con (.int 5))) .nil)))
    (.cons (.set 4 (.ex (.blt .max (.cons (.var 4) (.cons (.bin .sub (.neg (.bin .fdiv (.bin .mul (.neg (.var 6)) (.var 3)) (.var 5))) (.con (.int 4))) .nil)))))
    .nil))
def d16s0 : Sm := .for_ (.nm 2) (.rng (.var 1)) d16b0
def d16 : Df := { x := "floor_needed", ps := ["rows", "row"], N := (["rows", "row", "ahead", "far", "found", "near", "head"] : List Str), code :=
                    (.cons (.par [(3, false), (4, false)] (.cons (.idx (.idx (.var 0) (.var 1)) (.con (.int 0))) (.cons (.idx (.idx (.var 0) (.var 1)) (.con (.int 1))) .nil)))
                    (.cons d16s0
                    (.cons (.ret (.ex (.var 4)))
                    .nil))) }
def d17b0 : Sms := (.cons (.sub 1 (.var 2) (.tup (.cons (.idx (.idx (.var 0) (.var 2)) (.con (.int 0))) (.cons (.callb 16 (.cons (.var 1) (.cons (.var 2) .nil))) .nil))))
    .nil)
def d17s0 : Sm := .for_ (.nm 2) (.rng (.blt .len (.cons (.var 0) .nil))) d17b0
def d17x0 : Ex := .lc (.var 4) (.tp (.cons (.nm 3) (.cons (.nm 4) .nil))) (.ex (.var 1)) .no
theorem d17x0s {σ : List Sl} {r : Res D} : stx d17x0 σ r = r := rfl
def d17 : Df := { x := "least_floors", ps := ["rows"], N := (["rows", "found", "row", "far", "floor"] : List Str), code :=
                    (.cons (.xpr (.ex (.call 9 (.cons (.var 0) .nil))))
                    (.cons (.own 1 (.blt .list (.cons (.var 0) .nil)))
                    (.cons d17s0
                    (.cons (.ret (.ex (.blt .tuple (.cons d17x0 .nil))))
                    .nil)))) }
def d18 : Df := { x := "raise_for", ps := ["rows", "row"], N := (["rows", "row"] : List Str), code :=
                    (.cons (.xpr (.ex (.call 10 (.cons (.var 0) (.cons (.var 1) .nil)))))
                    (.cons (.ret (.ex (.bin .sub (.call 16 (.cons (.var 0) (.cons (.var 1) .nil))) (.idx (.idx (.var 0) (.var 1)) (.con (.int 1))))))
                    .nil)) }
def d19 : Df := { x := "check_ahead", ps := ["rows", "row", "ahead"], N := (["rows", "row", "ahead"] : List Str), code :=
                    (.cons (.xpr (.ex (.call 10 (.cons (.var 0) (.cons (.var 1) .nil)))))
                    (.cons (.ite (.not (.call 1 (.cons (.var 2) (.cons (.con (.int 0)) (.cons (.bin .sub (.var 1) (.con (.int 1))) .nil))))) (.cons (.raise 1)
                    .nil) .nil)
                    .nil)) }
def d20 : Df := { x := "height_over", ps := ["rows", "row", "ahead"], N := (["rows", "row", "ahead"] : List Str), code :=
                    (.cons (.xpr (.ex (.call 19 (.cons (.var 0) (.cons (.var 1) (.cons (.var 2) .nil))))))
                    (.cons (.ret (.ex (.call 5 (.cons (.call 11 (.cons (.var 0) (.cons (.var 1) (.cons (.var 2) .nil)))) (.cons (.call 7 (.cons (.idx (.idx (.var 0) (.var 2)) (.con (.int 1))) .nil)) .nil)))))
                    .nil)) }
def d21 : Df := { x := "least_height", ps := ["rows", "row", "ahead"], N := (["rows", "row", "ahead", "far", "near", "eye", "head"] : List Str), code :=
                    (.cons (.par [(3, false), (4, false)] (.cons (.idx (.idx (.var 0) (.var 1)) (.con (.int 0))) (.cons (.idx (.idx (.var 0) (.var 2)) (.con (.int 0))) .nil)))
                    (.cons (.par [(5, false), (6, false)] (.cons (.bin .add (.idx (.idx (.var 0) (.var 1)) (.con (.int 1))) (.con (.int 4))) (.cons (.bin .add (.idx (.idx (.var 0) (.var 2)) (.con (.int 1))) (.con (.int 5))) .nil)))
                    (.cons (.ret (.ex (.call 4 (.cons (.bin .sub (.bin .mul (.var 6) (.var 3)) (.bin .mul (.var 5) (.var 4))) (.cons (.bin .sub (.var 3) (.var 4)) .nil)))))
                    .nil))) }
def d22b0 : Sms := (.cons (.set 4 (.ex (.call 21 (.cons (.var 0) (.cons (.var 1) (.cons (.var 3) .nil))))))
    (.cons (.set 2 (.ex (.ite (.cmp .gt (.call 6 (.cons (.var 4) (.cons (.var 2) .nil))) (.con (.int 0))) (.var 4) (.var 2))))
    .nil))
def d22s0 : Sm := .for_ (.nm 3) (.rng (.var 1)) d22b0
def d22 : Df := { x := "lowest_seen", ps := ["rows", "row"], N := (["rows", "row", "found", "ahead", "high"] : List Str), code :=
                    (.cons (.xpr (.ex (.call 10 (.cons (.var 0) (.cons (.var 1) .nil)))))
                    (.cons (.set 2 (.ex (.con (.tup [(.int 0), (.int 1)]))))
                    (.cons d22s0
                    (.cons (.ret (.ex (.var 2)))
                    .nil)))) }
def d23x0 : Ex := .lc (.blt .abs (.cons (.blt .int (.cons (.var 3) .nil)) .nil)) (.nm 3) (.ex (.slc (.var 0) .no (.so (.con (.int 63))))) (.so (.cmp .ge (.blt .abs (.cons (.blt .int (.cons (.var 3) .nil)) .nil)) (.bin .pow (.con (.int 10)) (.con (.int 18)))))
theorem d23x0s {σ : List Sl} {r : Res D} : stx d23x0 σ r = r := rfl
def d23b0 : Sms := (.cons (.set 2 (.ex (.bin .mod (.blt .int (.cons (.bin .add (.bin .add (.bin .add (.bin .mul (.var 2) (.con (.int 69621))) (.bin .mul (.blt .abs (.cons (.blt .int (.cons (.var 3) .nil)) .nil)) (.con (.int 2)))) (.blt .int (.cons (.cmp .lt (.blt .int (.cons (.var 3) .nil)) (.con (.int 0))) .nil))) (.con (.int 17))) .nil)) (.con (.int 2147483629)))))
    .nil)
def d23s0 : Sm := .for_ (.nm 3) (.ex (.slc (.var 0) .no (.so (.con (.int 63))))) d23b0
def d23 : Df := { x := "_law_bag", ps := ["script"], N := (["script", "great", "seed", "cell"] : List Str), code :=
                    (.cons (.set 1 (.nref d23x0))
                    (.cons (.set 2 (.ex (.con (.int 4904))))
                    (.cons d23s0
                    (.cons (.ret (.nref (.lst (.cons (.var 1) (.cons (.var 2) (.cons (.blt .len (.cons (.var 0) .nil)) (.cons (.con (.int 0)) .nil)))))))
                    .nil)))) }
def d24 : Df := { x := "_law_pick", ps := ["bag", "many"], N := (["bag", "many", "number"] : List Str), code :=
                    (.cons (.ite (.cmp .eq (.idx (.var 0) (.con (.int 2))) (.con (.int 0))) (.cons (.ret (.ex (.con (.int 0))))
                    .nil) .nil)
                    (.cons (.ite (.cmp .gt (.blt .len (.cons (.idx (.var 0) (.con (.int 0))) .nil)) (.con (.int 0))) (.cons (.set 2 (.ex (.idx (.idx (.var 0) (.con (.int 0))) (.con (.int 0)))))
                    (.cons (.rsb (.idx (.var 0) (.con (.int 0))) (.con (.int 0)) (.bin .fdiv (.var 2) (.var 1)))
                    (.cons (.ite (.cmp .lt (.var 2) (.var 1)) (.cons (.rpp (.idx (.var 0) (.con (.int 0))) (.con (.int 0)))
                    .nil) .nil)
                    (.cons (.ret (.ex (.bin .mod (.blt .int (.cons (.var 2) .nil)) (.var 1))))
                    .nil)))) .nil)
                    (.cons (.rsb (.var 0) (.con (.int 3)) (.bin .add (.idx (.var 0) (.con (.int 3))) (.con (.int 1))))
                    (.cons (.set 2 (.ex (.bin .mod (.blt .int (.cons (.bin .add (.bin .mul (.bin .add (.idx (.var 0) (.con (.int 1))) (.bin .mul (.con (.int 7919)) (.idx (.var 0) (.con (.int 3))))) (.con (.int 48271))) (.con (.int 11))) .nil)) (.con (.int 2147483647)))))
                    (.cons (.set 2 (.ex (.bin .mod (.blt .int (.cons (.bin .add (.bin .mul (.var 2) (.bin .add (.bin .fdiv (.var 2) (.con (.int 1009))) (.con (.int 69621)))) (.idx (.var 0) (.con (.int 3)))) .nil)) (.con (.int 2147483399)))))
                    (.cons (.rsb (.var 0) (.con (.int 1)) (.bin .mod (.blt .int (.cons (.bin .add (.idx (.var 0) (.con (.int 1))) (.var 2)) .nil)) (.con (.int 2147483629))))
                    (.cons (.ret (.ex (.bin .mod (.blt .int (.cons (.bin .fdiv (.var 2) (.con (.int 16))) .nil)) (.var 1))))
                    .nil))))))) }
def d25 : Df := { x := "_law_some", ps := ["bag", "things"], N := (["bag", "things"] : List Str), code :=
                    (.cons (.ret (.ex (.idx (.var 1) (.call 24 (.cons (.var 0) (.cons (.blt .len (.cons (.var 1) .nil)) .nil))))))
                    .nil) }
def d26c0 : Ex := (.cmp .ne (.var 3) (.con (.int 0)))
def d26b0 : Sms := (.cons (.par [(2, false), (3, false)] (.cons (.var 3) (.cons (.bin .mod (.blt .int (.cons (.var 2) .nil)) (.var 3)) .nil)))
    .nil)
def d26s0 : Sm := .whl d26c0 d26b0
def d26 : Df := { x := "_law_frac", ps := ["top", "bottom"], N := (["top", "bottom", "one", "other"] : List Str), code :=
                    (.cons (.par [(2, false), (3, false)] (.cons (.blt .abs (.cons (.var 0) .nil)) (.cons (.var 1) .nil)))
                    (.cons d26s0
                    (.cons (.ret (.ex (.tup (.cons (.bin .fdiv (.var 0) (.blt .max (.cons (.con (.int 1)) (.cons (.var 2) .nil)))) (.cons (.bin .fdiv (.var 1) (.blt .max (.cons (.con (.int 1)) (.cons (.var 2) .nil)))) .nil)))))
                    .nil))) }
def d27 : Df := { x := "_law_blocks", ps := ["rows", "row", "ahead", "floor"], N := (["rows", "row", "ahead", "floor", "far", "near"] : List Str), code :=
                    (.cons (.par [(4, false), (5, false)] (.cons (.idx (.idx (.var 0) (.var 1)) (.con (.int 0))) (.cons (.idx (.idx (.var 0) (.var 2)) (.con (.int 0))) .nil)))
                    (.cons (.ret (.ex (.cmp .lt (.bin .mul (.bin .add (.var 3) (.con (.int 4))) (.var 5)) (.bin .mul (.bin .add (.idx (.idx (.var 0) (.var 2)) (.con (.int 1))) (.con (.int 5))) (.var 4)))))
                    .nil)) }
def d28x0 : Ex := .lc (.var 3) (.nm 3) (.rng (.var 1)) (.so (.call 27 (.cons (.var 0) (.cons (.var 1) (.cons (.var 3) (.cons (.var 2) .nil))))))
theorem d28x0s {σ : List Sl} {r : Res D} : stx d28x0 σ r = r := rfl
def d28 : Df := { x := "_law_blockers", ps := ["rows", "row", "floor"], N := (["rows", "row", "floor", "ahead"] : List Str), code :=
                    (.cons (.ret (.ex (.blt .tuple (.cons d28x0 .nil))))
                    .nil) }
def d29b0 : Sms := (.cons (.set 7 (.ex (.bin .sub (.bin .mul (.bin .add (.var 6) (.con (.int 5))) (.var 3)) (.bin .mul (.bin .add (.var 4) (.con (.int 4))) (.var 5)))))
    (.cons (.set 2 (.ex (.blt .max (.cons (.var 2) (.cons (.bin .fdiv (.bin .sub (.bin .add (.var 7) (.var 5)) (.con (.int 1))) (.var 5)) .nil)))))
    .nil))
def d29s0 : Sm := .for_ (.tp (.cons (.nm 5) (.cons (.nm 6) .nil))) (.ex (.slc (.var 0) .no (.so (.var 1)))) d29b0
def d29 : Df := { x := "_law_raise", ps := ["rows", "row"], N := (["rows", "row", "need", "far", "floor", "near", "other", "short"] : List Str), code :=
                    (.cons (.unp (.cons (.nm 3) (.cons (.nm 4) .nil)) (.ex (.idx (.var 0) (.var 1))))
                    (.cons (.set 2 (.ex (.con (.int 0))))
                    (.cons d29s0
                    (.cons (.ret (.ex (.var 2)))
                    .nil)))) }
def d30b0 : Sms := (.cons (.set 5 (.ex (.call 28 (.cons (.var 1) (.cons (.var 2) (.cons (.idx (.idx (.var 1) (.var 2)) (.con (.int 1))) .nil))))))
    (.cons (.ite (.or (.cmp .ne (.call 14 (.cons (.var 1) (.cons (.var 2) .nil))) (.var 5)) (.cons (.cmp .ne (.blt .repr (.cons (.call 13 (.cons (.var 1) (.cons (.var 2) .nil))) .nil)) (.blt .repr (.cons (.cmp .eq (.var 5) (.tup .nil)) .nil))) .nil)) (.cons (.ret (.ex (.con (.bl false))))
    .nil) .nil)
    (.cons (.ite (.cmp .ne (.call 18 (.cons (.var 1) (.cons (.var 2) .nil))) (.call 29 (.cons (.var 1) (.cons (.var 2) .nil)))) (.cons (.ret (.ex (.con (.bl false))))
    .nil) .nil)
    .nil)))
def d30s0 : Sm := .for_ (.nm 2) (.rng (.blt .len (.cons (.var 1) .nil))) d30b0
def d30x0 : Ex := .lc (.var 2) (.nm 2) (.rng (.blt .len (.cons (.var 1) .nil))) (.so (.cmp .ne (.call 28 (.cons (.var 1) (.cons (.var 2) (.cons (.idx (.idx (.var 1) (.var 2)) (.con (.int 1))) .nil)))) (.tup .nil)))
theorem d30x0s {σ : List Sl} {r : Res D} : stx d30x0 σ r = r := rfl
def d30b1 : Sms := (.cons (.set 10 (.ex (.call 26 (.cons (.bin .sub (.bin .mul (.bin .add (.var 9) (.con (.int 5))) (.var 6)) (.bin .mul (.bin .add (.var 7) (.con (.int 4))) (.var 8))) (.cons (.bin .sub (.var 6) (.var 8)) .nil)))))
    (.cons (.set 3 (.ex (.ite (.cmp .gt (.bin .mul (.idx (.var 10) (.con (.int 0))) (.idx (.var 3) (.con (.int 1)))) (.bin .mul (.idx (.var 3) (.con (.int 0))) (.idx (.var 10) (.con (.int 1))))) (.var 10) (.var 3))))
    .nil))
def d30s1 : Sm := .for_ (.tp (.cons (.nm 8) (.cons (.nm 9) .nil))) (.ex (.slc (.var 1) .no (.so (.var 2)))) d30b1
def d30b2 : Sms := (.cons (.app 4 (.ex (.tup (.cons (.var 6) (.cons (.var 7) .nil)))))
    (.cons (.sub 4 (.neg (.con (.int 1))) (.tup (.cons (.var 6) (.cons (.bin .add (.var 7) (.callb 29 (.cons (.var 4) (.cons (.bin .sub (.blt .len (.cons (.var 4) .nil)) (.con (.int 1))) .nil)))) .nil))))
    .nil))
def d30s2 : Sm := .for_ (.tp (.cons (.nm 6) (.cons (.nm 7) .nil))) (.ex (.var 1)) d30b2
def d30x1 : Ex := .lc (.var 7) (.tp (.cons (.nm 6) (.cons (.nm 7) .nil))) (.ex (.var 4)) .no
theorem d30x1s {σ : List Sl} {r : Res D} : stx d30x1 σ r = r := rfl
def d30x2 : Ex := .lc (.cmp .eq (.call 28 (.cons (.var 4) (.cons (.var 2) (.cons (.idx (.idx (.var 4) (.var 2)) (.con (.int 1))) .nil)))) (.tup .nil)) (.nm 2) (.rng (.blt .len (.cons (.var 4) .nil))) .no
theorem d30x2s {σ : List Sl} {r : Res D} : stx d30x2 σ r = r := rfl
def d30t1 : Sm := (.ite (.cmp .ne (.call 15 (.cons (.var 1) .nil)) (.blt .tuple (.cons d30x0 .nil))) (.cons (.ret (.ex (.con (.bl false))))
    .nil) .nil)
def d30t2 : Sm := (.set 2 (.ex (.call 24 (.cons (.var 0) (.cons (.blt .len (.cons (.var 1) .nil)) .nil)))))
def d30t3 : Sm := (.unp (.cons (.nm 6) (.cons (.nm 7) .nil)) (.ex (.idx (.var 1) (.var 2))))
def d30t4 : Sm := (.set 3 (.ex (.tup (.cons (.con (.int 0)) (.cons (.con (.int 1)) .nil)))))
def d30t6 : Sm := (.ite (.cmp .ne (.call 22 (.cons (.var 1) (.cons (.var 2) .nil))) (.var 3)) (.cons (.ret (.ex (.con (.bl false))))
    .nil) .nil)
def d30t7 : Sm := (.ite (.cmp .gt (.var 2) (.con (.int 0))) (.cons (.set 11 (.ex (.call 24 (.cons (.var 0) (.cons (.var 2) .nil)))))
    (.cons (.unp (.cons (.nm 8) (.cons (.nm 9) .nil)) (.ex (.idx (.var 1) (.var 11))))
    (.cons (.ite (.cmp .ne (.call 20 (.cons (.var 1) (.cons (.var 2) (.cons (.var 11) .nil)))) (.call 26 (.cons (.bin .sub (.bin .mul (.bin .add (.var 7) (.con (.int 4))) (.var 8)) (.bin .mul (.var 9) (.var 6))) (.cons (.var 6) .nil)))) (.cons (.ret (.ex (.con (.bl false))))
    .nil) .nil)
    .nil))) .nil)
def d30t8 : Sm := (.own 4 (.lst .nil))
def d30t10 : Sm := (.ite (.cmp .ne (.call 17 (.cons (.var 1) .nil)) (.blt .tuple (.cons d30x1 .nil))) (.cons (.ret (.ex (.con (.bl false))))
    .nil) .nil)
def d30t11 : Sm := (.esc [4])
def d30t12 : Sm := (.ret (.ex (.blt .all (.cons d30x2 .nil))))
def d30 : Df := { x := "_law_is_right", ps := ["bag", "rows"], N := (["bag", "rows", "row", "lowest", "led", "some", "far", "floor", "near", "other", "told", "ahead"] : List Str), code :=
                    (.cons d30s0
                    (.cons d30t1
                    (.cons d30t2
                    (.cons d30t3
                    (.cons d30t4
                    (.cons d30s1
                    (.cons d30t6
                    (.cons d30t7
                    (.cons d30t8
                    (.cons d30s2
                    (.cons d30t10
                    (.cons d30t11
                    (.cons d30t12
                    .nil))))))))))))) }
def d31b1 : Sms := (.cons (.set 4 (.ex (.bin .add (.bin .add (.var 4) (.con (.int 1))) (.call 24 (.cons (.var 1) (.cons (.con (.int 5)) .nil))))))
    (.cons (.app 5 (.ex (.tup (.cons (.var 4) (.cons (.bin .sub (.call 24 (.cons (.var 1) (.cons (.con (.int 30)) .nil))) (.con (.int 8))) .nil)))))
    .nil))
def d31s1 : Sm := .for_ (.nm 3) (.rng (.bin .add (.con (.int 1)) (.call 24 (.cons (.var 1) (.cons (.con (.int 7)) .nil))))) d31b1
def d31b0 : Sms := (.cons (.par [(4, false), (5, true)] (.cons (.con (.int 0)) (.cons (.lst .nil) .nil)))
    (.cons d31s1
    (.cons (.ite (.not (.call 30 (.cons (.var 1) (.cons (.blt .tuple (.cons (.var 5) .nil)) .nil)))) (.cons (.ret (.ex (.con (.bl false))))
    .nil) .nil)
    .nil)))
def d31s0 : Sm := .for_ (.nm 2) (.rng (.con (.int 5))) d31b0
def d31 : Df := { x := "law", ps := ["script"], N := (["script", "bag", "lap", "turn", "far", "rows"] : List Str), code :=
                    (.cons (.set 1 (.ex (.call 23 (.cons (.var 0) .nil))))
                    (.cons (.ite (.or (.cmp .isn (.call 13 (.cons (.tup (.cons (.tup (.cons (.con (.int 2)) (.cons (.con (.int 0)) .nil))) (.cons (.tup (.cons (.con (.int 4)) (.cons (.con (.int 0)) .nil))) .nil))) (.cons (.con (.int 1)) .nil))) (.con (.bl false))) (.cons (.cmp .ne (.call 18 (.cons (.tup (.cons (.tup (.cons (.con (.int 2)) (.cons (.con (.int 0)) .nil))) (.cons (.tup (.cons (.con (.int 4)) (.cons (.con (.int 0)) .nil))) .nil))) (.cons (.con (.int 1)) .nil))) (.con (.int 6))) .nil)) (.cons (.ret (.ex (.con (.bl false))))
                    .nil) .nil)
                    (.cons (.ite (.cmp .ne (.call 17 (.cons (.tup (.cons (.tup (.cons (.con (.int 2)) (.cons (.con (.int 0)) .nil))) (.cons (.tup (.cons (.con (.int 4)) (.cons (.con (.int 0)) .nil))) .nil))) .nil)) (.tup (.cons (.con (.int 0)) (.cons (.con (.int 6)) .nil)))) (.cons (.ret (.ex (.con (.bl false))))
                    .nil) .nil)
                    (.cons d31s0
                    (.cons (.ret (.ex (.con (.bl true))))
                    .nil))))) }
def defs : List Df := ([d0, d1, d2, d3, d4, d5, d6, d7, d8, d9, d10, d11, d12, d13, d14, d15, d16, d17, d18, d19] : List Df) ++ ([d20, d21, d22, d23, d24, d25, d26, d27, d28, d29, d30, d31] : List Df)
def G : Gm := ⟨([("is_integer", 1), ("is_within", 3), ("is_tuple_of", 2), ("common_part", 2), ("ratio", 2), ("minus", 2), ("sign_of", 2), ("whole_of", 1), ("is_seat_row", 1), ("check_rows", 1), ("check_row", 2), ("line_at", 3), ("raw_blockers", 2), ("sees", 2), ("blockers", 2), ("blind_rows", 1), ("floor_needed", 2), ("least_floors", 1), ("raise_for", 2), ("check_ahead", 3)] : List (Str × Nat)) ++ ([("height_over", 3), ("least_height", 3), ("lowest_seen", 2), ("_law_bag", 1), ("_law_pick", 2), ("_law_some", 2), ("_law_frac", 2), ("_law_blocks", 4), ("_law_blockers", 3), ("_law_raise", 2), ("_law_is_right", 2), ("law", 1)] : List (Str × Nat)), (["NoRows", "NoRow"] : List Str), ([("MOST_FAR", (.int 100)), ("LEAST_FLOOR", (.int (-50))), ("MOST_FLOOR", (.int 200)), ("MOST_ROWS", (.int 12)), ("EYE", (.int 4)), ("HEAD", (.int 5)), ("NOUGHT", (.tup [(.int 0), (.int 1)]))] : List (Str × D)), (["ValueError", "abs", "all", "bool", "int", "isinstance", "len", "list", "max", "range", "repr", "tuple", "zip"] : List Str), ([] : List (Str × Td × List D)), ([] : List (Str × List Bool)), "CircusError"⟩
theorem al : alB G defs fn = true := by kernel_rfl
theorem ca : catsB G defs = true := by kernel_rfl
abbrev R : PySem.W.OpenRow := PySem.W.OpenLaw.row PySem.Challenge.rw_circusweek_k04_whole_sight_from_rows
abbrev hk : PySem.W.Hook := hookC 4 fn G defs
def ob (s : PySem.W.SharedT) : AlC := obsC 4 fn (exB G defs) (HandSHeadRun.getT s)
theorem ob_eq (s : PySem.W.SharedT) : ob s = hk.obs s.abs := obsC_eq (HandSHeadRun.getT_eq s)
def loose : List Str := (["__name__", "is_integer", "is_within", "is_tuple_of", "CircusError", "NoRows", "NoRow", "NOUGHT", "common_part", "ratio", "minus", "sign_of", "whole_of", "MOST_ROWS", "MOST_FAR", "LEAST_FLOOR", "MOST_FLOOR", "EYE", "HEAD", "is_seat_row"] : List Str) ++ (["check_rows", "check_row", "line_at", "raw_blockers", "sees", "blockers", "blind_rows", "floor_needed", "least_floors", "raise_for", "check_ahead", "height_over", "least_height", "lowest_seen", "_law_bag", "_law_pick", "_law_some", "_law_frac", "_law_blocks", "_law_blockers"] : List Str) ++ (["_law_raise", "_law_is_right"] : List Str)
theorem run (w : World) : HandSHeadRun.RunEq R (PySem.W.view R.prog [46]) hk ob 6000 loose w := by
  intro os
  kernel_rfl
theorem catEv {fu : Nat} : ∀ d ∈ defs, CatEv fu d := by
  intro d h
  have h : d ∈ [d0, d1, d2, d3, d4, d5, d6, d7, d8, d9, d10, d11, d12, d13, d14, d15, d16, d17, d18, d19, d20, d21, d22, d23, d24, d25, d26, d27, d28, d29, d30, d31] := h
  simp only [List.mem_cons, List.not_mem_nil, or_false] at h
  rcases h with rfl | rfl | rfl | rfl | rfl | rfl | rfl | rfl | rfl | rfl | rfl | rfl | rfl | rfl | rfl | rfl | rfl | rfl | rfl | rfl | rfl | rfl | rfl | rfl | rfl | rfl | rfl | rfl | rfl | rfl | rfl | rfl
  · exact fun _ _ h => by cases h
  · exact fun _ _ h => by cases h
  · exact fun _ _ h => by cases h
  · exact fun _ _ h => by cases h
  · exact fun _ _ h => by cases h
  · exact fun _ _ h => by cases h
  · exact fun _ _ h => by cases h
  · exact fun _ _ h => by cases h
  · exact fun _ _ h => by cases h
  · exact fun _ _ h => by cases h
  · exact fun _ _ h => by cases h
  · exact fun _ _ h => by cases h
  · exact fun _ _ h => by cases h
  · exact fun _ _ h => by cases h
  · exact fun _ _ h => by cases h
  · exact fun _ _ h => by cases h
  · exact fun _ _ h => by cases h
  · exact fun _ _ h => by cases h
  · exact fun _ _ h => by cases h
  · exact fun _ _ h => by cases h
  · exact fun _ _ h => by cases h
  · exact fun _ _ h => by cases h
  · exact fun _ _ h => by cases h
  · exact fun _ _ h => by cases h
  · exact fun _ _ h => by cases h
  · exact fun _ _ h => by cases h
  · exact fun _ _ h => by cases h
  · exact fun _ _ h => by cases h
  · exact fun _ _ h => by cases h
  · exact fun _ _ h => by cases h
  · exact fun _ _ h => by cases h
  · exact fun _ _ h => by cases h
end Lw
open PySem PySem.W PySem.Calls PyProof.Rows
theorem law_holds (h : Cw.Answers Lw.defs 1000000000000 70 31) : PySem.Challenge.rw_circusweek_k04_whole_sight_from_rows.Holds := by
  w_on; o_law
  refine HandSHeadRun.head_any (r := OpenLaw.row PySem.Challenge.rw_circusweek_k04_whole_sight_from_rows) (q := view (OpenLaw.row PySem.Challenge.rw_circusweek_k04_whole_sight_from_rows).prog [46]) (H := Lw.hk) (ob := Lw.ob) (M := 6000) (loose := Lw.loose) (d := HandSHeadRun.topDef (OpenLaw.row PySem.Challenge.rw_circusweek_k04_whole_sight_from_rows).prog 46) (kwd := []) Lw.ob_eq
    (by kernel_rfl) (fun s => by kernel_rfl) Lw.run (by kernel_rfl) (by kernel_rfl) (by kernel_rfl) (by rfl) (by first | assumption | decide +kernel) (by decide +kernel) ⟨rfl, rfl, rfl, rfl, rfl, by decide +kernel⟩ ?hw ?hc
  case hw => w_witness2
  case hc =>
    exact Cw.law_end (l := PySem.Challenge.rw_circusweek_k04_whole_sight_from_rows) (k := 70) (i := 31) (G := Lw.G) (defs := Lw.defs) (fn := Lw.fn) (fu := 1000000000000) (df := Lw.d31) (x := "script") rfl (by kernel_rfl) ⟨rfl, by decide, by decide⟩ Lw.al (by kernel_rfl) Lw.ca Lw.catEv rfl (by kernel_rfl) rfl h

end
section
namespace Lw
open Cw
theorem exFU : ∃ n : Nat, n = 1000000000000 := ⟨_, rfl⟩
noncomputable def FU : Nat := exFU.choose
theorem FU_eq : FU = 1000000000000 := exFU.choose_spec
noncomputable def cl (k : Nat) : Nat → List D → RH → Res D := callN defs FU k
theorem clE {k i : Nat} {d : Df} {args : List D} {R : RH} (h : defs[i]? = some d) (hc : d.cat = none := by rfl) : cl (k + 1) i args R = runD (cl k) FU d args R := callE h hc
theorem mulOk {a b : Int} (h : a.natAbs ≤ 1000000000) : L2.CMul a b := .inl ⟨by omega, by omega⟩
def bagR (g : List Int) (s n c : Int) : RH := [g.map D.int, [.ref 0, .int s, .int n, .int c]]
def VB (R : RH) : Prop := ∃ g s n c, R = bagR g s n c
theorem e_draw {k : Nat} {m : Int} {R : RH} (h : VB R) (h1 : 1 ≤ m) (h2 : m < 1073741824) : ∃ x R', cl (k + 1) 24 [.ref 1, .int m] R = .ok (.int x) R' ∧ 0 ≤ x ∧ x < m ∧ VB R' := by
  obtain ⟨g, s, n, c, rfl⟩ := h
  rw [clE (d := d24) rfl]
  have i0 : ∀ s n c : Int, L2.atI [D.ref 0, D.int s, D.int n, D.int c] 0 = some (.ref 0) := fun _ _ _ => rfl
  have i1 : ∀ s n c : Int, L2.atI [D.ref 0, D.int s, D.int n, D.int c] 1 = some (.int s) := fun _ _ _ => rfl
  have i2 : ∀ s n c : Int, L2.atI [D.ref 0, D.int s, D.int n, D.int c] 2 = some (.int n) := fun _ _ _ => rfl
  have i3 : ∀ s n c : Int, L2.atI [D.ref 0, D.int s, D.int n, D.int c] 3 = some (.int c) := fun _ _ _ => rfl
  have x1 : L2.ixN 4 1 = some 1 := rfl
  have x3 : L2.ixN 4 3 = some 3 := rfl
  have hm0 : m ≠ 0 := by omega
  have cd : ∀ x, L2.CDivN x m := fun x => ⟨hm0, by omega⟩
  have cd16 : ∀ x, L2.CDivN x 16 := fun x => ⟨by decide, by decide⟩
  have cd10 : ∀ x, L2.CDivN x 1009 := fun x => ⟨by decide, by decide⟩
  have mk1 : ∀ x, L2.CMul 7919 x := fun x => mulOk (by decide)
  have mk2 : ∀ x, L2.CMul x 48271 := fun x => .inr ⟨by decide, by decide⟩
  by_cases hn : n = 0
  · subst hn
    exact ⟨0, _, by unfold bagR; simp [runD, execs, exec, sqK, ev, evs, evb, evAnd, evOr, evo, evc, evi, evis, evX, evSE, evP, setP, stk_var, stk_con, stk_tup, stk_lst, stk_bin, stk_neg, stk_cmp, stk_ch2, stk_and, stk_or, stk_not, stk_ite, stk_call, stk_blt, stk_isi, stk_meth, stk_idx, stk_slc, stk_rev, stk_lc, Res.bind, Res.of, gS, sS, Sl.val, isOw, bltD, idxD, cmpD, binD, notD, negD, isKs, isK, lenR, slcD, itmD, rngD, rngD2, setT, setTs, tgs, tgss, killS, setC, isNon, ownable, putD, augD, extD, ofS, popD, deqI, deqB, deqS, deqT, deqL, deqs, deqNN, deqNT, deqTN, deqNI, deqIN, cmpb, dlt, flt, plain, plains, dep, deps, d24, i2], by omega, by omega, g, s, 0, c, rfl⟩
  · cases g with
    | nil =>
      obtain ⟨a1, a2⟩ := fmod_in (a := (s + 7919 * (c + 1)) * 48271 + 11) (b := 2147483647) (by decide)
      have mk3 : ∀ y, L2.CMul (((s + 7919 * (c + 1)) * 48271 + 11).fmod 2147483647) y := fun y => .inl ⟨by omega, by omega⟩
      obtain ⟨b1, b2⟩ := fmod_in (a := (((((s + 7919 * (c + 1)) * 48271 + 11).fmod 2147483647) * ((((s + 7919 * (c + 1)) * 48271 + 11).fmod 2147483647).fdiv 1009 + 69621) + (c + 1)).fmod 2147483399).fdiv 16) (b := m) (by omega)
      exact ⟨_, _, by unfold bagR; simp [runD, execs, exec, sqK, ev, evs, evb, evAnd, evOr, evo, evc, evi, evis, evX, evSE, evP, setP, stk_var, stk_con, stk_tup, stk_lst, stk_bin, stk_neg, stk_cmp, stk_ch2, stk_and, stk_or, stk_not, stk_ite, stk_call, stk_blt, stk_isi, stk_meth, stk_idx, stk_slc, stk_rev, stk_lc, Res.bind, Res.of, gS, sS, Sl.val, isOw, bltD, idxD, cmpD, binD, notD, negD, isKs, isK, lenR, slcD, itmD, rngD, rngD2, setT, setTs, tgs, tgss, killS, setC, isNon, ownable, putD, augD, extD, ofS, popD, deqI, deqB, deqS, deqT, deqL, deqs, deqNN, deqNT, deqTN, deqNI, deqIN, cmpb, dlt, flt, plain, plains, dep, deps, d24, i0, i1, i2, i3, x1, x3, hn, hm0, cd, cd16, cd10, mk1, mk2, mk3]; rfl, b1, b2, [], _, n, c + 1, rfl⟩
    | cons x g =>
      have j0 : ∀ l : List D, ∀ d, L2.atI (d :: l) 0 = some d := fun l d => L2.atI_nat (j := 0) rfl
      have z0 : ∀ l : Nat, L2.ixN (l + 1) 0 = some 0 := fun l => by unfold L2.ixN; simp
      have gl : (0 : Int) < (g.length : Int) + 1 := by omega
      obtain ⟨b1, b2⟩ := fmod_in (a := x) (b := m) (by omega)
      by_cases hx : x < m
      · exact ⟨_, _, by unfold bagR; simp [runD, execs, exec, sqK, ev, evs, evb, evAnd, evOr, evo, evc, evi, evis, evX, evSE, evP, setP, stk_var, stk_con, stk_tup, stk_lst, stk_bin, stk_neg, stk_cmp, stk_ch2, stk_and, stk_or, stk_not, stk_ite, stk_call, stk_blt, stk_isi, stk_meth, stk_idx, stk_slc, stk_rev, stk_lc, Res.bind, Res.of, gS, sS, Sl.val, isOw, bltD, idxD, cmpD, binD, notD, negD, isKs, isK, lenR, slcD, itmD, rngD, rngD2, setT, setTs, tgs, tgss, killS, setC, isNon, ownable, putD, augD, extD, ofS, popD, deqI, deqB, deqS, deqT, deqL, deqs, deqNN, deqNT, deqTN, deqNI, deqIN, cmpb, dlt, flt, plain, plains, dep, deps, d24, i0, i1, i2, i3, j0, z0, hn, hm0, cd, hx, gl], b1, b2, g, s, n, c, rfl⟩
      · exact ⟨_, _, by unfold bagR; simp [runD, execs, exec, sqK, ev, evs, evb, evAnd, evOr, evo, evc, evi, evis, evX, evSE, evP, setP, stk_var, stk_con, stk_tup, stk_lst, stk_bin, stk_neg, stk_cmp, stk_ch2, stk_and, stk_or, stk_not, stk_ite, stk_call, stk_blt, stk_isi, stk_meth, stk_idx, stk_slc, stk_rev, stk_lc, Res.bind, Res.of, gS, sS, Sl.val, isOw, bltD, idxD, cmpD, binD, notD, negD, isKs, isK, lenR, slcD, itmD, rngD, rngD2, setT, setTs, tgs, tgss, killS, setC, isNon, ownable, putD, augD, extD, ofS, popD, deqI, deqB, deqS, deqT, deqL, deqs, deqNN, deqNT, deqTN, deqNI, deqIN, cmpb, dlt, flt, plain, plains, dep, deps, d24, i0, i1, i2, i3, j0, z0, hn, hm0, cd, hx, gl], b1, b2, x.fdiv m :: g, s, n, c, rfl⟩
theorem fm_int2 {c : Int → Bool} {f : Int → Int} : ∀ l : List Int, l.filterMap (fun p => if c p = true then some (D.int (f p)) else none) = ((l.filter c).map f).map D.int
  | [] => rfl
  | p :: l => by
    rw [List.filterMap_cons, fm_int2 l, List.filter_cons]
    cases c p <;> simp
theorem w_make {k : Nat} {ns : List Int} : ∃ R', cl (k + 1) 23 [.frz (ns.map D.int)] [] = .ok (.ref 1) R' ∧ VB R' := by
  have ea : ∀ x : Int, (if x < 0 then -x else x) = (x.natAbs : Int) := fun x => by omega
  have cp : L2.CPow 10 18 := ⟨by decide, by decide, by decide⟩
  have x : ev (cl k) d23x0 [.sh (.frz (ns.map D.int)), .no, .no, .no] [] = .ok (.lst ((((cut ns none (some 63)).filter fun p => decide (10 ^ 18 ≤ (p.natAbs : Int))).map fun p => (p.natAbs : Int)).map D.int)) [] := by
    rw [← fm_int2]
    refine ev_lcE (ds := (cut ns none (some 63)).map D.int) (R1 := []) (by simp [runD, execs, exec, sqK, ev, evs, evb, evAnd, evOr, evo, evc, evi, evis, evX, evSE, evP, setP, stk_var, stk_con, stk_tup, stk_lst, stk_bin, stk_neg, stk_cmp, stk_ch2, stk_and, stk_or, stk_not, stk_ite, stk_call, stk_blt, stk_isi, stk_meth, stk_idx, stk_slc, stk_rev, stk_lc, Res.bind, Res.of, gS, sS, Sl.val, isOw, bltD, idxD, cmpD, binD, notD, negD, isKs, isK, lenR, slcD, itmD, rngD, rngD2, setT, setTs, tgs, tgss, killS, setC, isNon, ownable, putD, augD, extD, ofS, popD, deqI, deqB, deqS, deqT, deqL, deqs, deqNN, deqNT, deqTN, deqNI, deqIN, cmpb, dlt, flt, plain, plains, dep, deps, cut_enc]) (lcL_fm fun p hp => ?_)
    unfold lcF
    by_cases q : 10 ^ 18 ≤ (p.natAbs : Int)
    · have q' : (1000000000000000000 : Int) ≤ (p.natAbs : Int) := q
      simp [runD, execs, exec, sqK, ev, evs, evb, evAnd, evOr, evo, evc, evi, evis, evX, evSE, evP, setP, stk_var, stk_con, stk_tup, stk_lst, stk_bin, stk_neg, stk_cmp, stk_ch2, stk_and, stk_or, stk_not, stk_ite, stk_call, stk_blt, stk_isi, stk_meth, stk_idx, stk_slc, stk_rev, stk_lc, Res.bind, Res.of, gS, sS, Sl.val, isOw, bltD, idxD, cmpD, binD, notD, negD, isKs, isK, lenR, slcD, itmD, rngD, rngD2, setT, setTs, tgs, tgss, killS, setC, isNon, ownable, putD, augD, extD, ofS, popD, deqI, deqB, deqS, deqT, deqL, deqs, deqNN, deqNT, deqTN, deqNI, deqIN, cmpb, dlt, flt, plain, plains, dep, deps, ea, cp, q']
    · have q' : ¬ (1000000000000000000 : Int) ≤ (p.natAbs : Int) := q
      simp [runD, execs, exec, sqK, ev, evs, evb, evAnd, evOr, evo, evc, evi, evis, evX, evSE, evP, setP, stk_var, stk_con, stk_tup, stk_lst, stk_bin, stk_neg, stk_cmp, stk_ch2, stk_and, stk_or, stk_not, stk_ite, stk_call, stk_blt, stk_isi, stk_meth, stk_idx, stk_slc, stk_rev, stk_lc, Res.bind, Res.of, gS, sS, Sl.val, isOw, bltD, idxD, cmpD, binD, notD, negD, isKs, isK, lenR, slcD, itmD, rngD, rngD2, setT, setTs, tgs, tgss, killS, setC, isNon, ownable, putD, augD, extD, ofS, popD, deqI, deqB, deqS, deqT, deqL, deqs, deqNN, deqNT, deqTN, deqNI, deqIN, cmpb, dlt, flt, plain, plains, dep, deps, ea, cp, q']
  generalize ((cut ns none (some 63)).filter fun p => decide (10 ^ 18 ≤ (p.natAbs : Int))).map (fun p => (p.natAbs : Int)) = g at x
  have mk2 : ∀ x, L2.CMul x 69621 := fun x => .inr ⟨by decide, by decide⟩
  have mk3 : ∀ x, L2.CMul x 2 := fun x => .inr ⟨by decide, by decide⟩
  obtain ⟨σ', R', e, s, c, p, q⟩ := forL_inv (f := forF (cl k) FU (.nm 3) d23b0) (enc := D.int) (xs := cut ns none (some 63)) (pre := []) (σ := [.sh (.frz (ns.map D.int)), .sh (.ref 0), .sh (.int 4904), .no]) (R := [g.map D.int])
    (fun pre σ R' => ∃ (s : Int) (c : Sl), σ = [.sh (.frz (ns.map D.int)), .sh (.ref 0), .sh (.int s), c] ∧ R' = [g.map D.int]) ⟨4904, .no, rfl, rfl⟩ (fun pre x post σ R' he ⟨s, c, p, q⟩ => by
      subst p q
      unfold forF
      by_cases q : x < 0
      · exact ⟨_, _, by simp [runD, execs, exec, sqK, ev, evs, evb, evAnd, evOr, evo, evc, evi, evis, evX, evSE, evP, setP, stk_var, stk_con, stk_tup, stk_lst, stk_bin, stk_neg, stk_cmp, stk_ch2, stk_and, stk_or, stk_not, stk_ite, stk_call, stk_blt, stk_isi, stk_meth, stk_idx, stk_slc, stk_rev, stk_lc, Res.bind, Res.of, gS, sS, Sl.val, isOw, bltD, idxD, cmpD, binD, notD, negD, isKs, isK, lenR, slcD, itmD, rngD, rngD2, setT, setTs, tgs, tgss, killS, setC, isNon, ownable, putD, augD, extD, ofS, popD, deqI, deqB, deqS, deqT, deqL, deqs, deqNN, deqNT, deqTN, deqNI, deqIN, cmpb, dlt, flt, plain, plains, dep, deps, d23b0, ea, mk2, mk3, q]; exact ⟨rfl, rfl⟩, _, _, rfl, rfl⟩
      · exact ⟨_, _, by simp [runD, execs, exec, sqK, ev, evs, evb, evAnd, evOr, evo, evc, evi, evis, evX, evSE, evP, setP, stk_var, stk_con, stk_tup, stk_lst, stk_bin, stk_neg, stk_cmp, stk_ch2, stk_and, stk_or, stk_not, stk_ite, stk_call, stk_blt, stk_isi, stk_meth, stk_idx, stk_slc, stk_rev, stk_lc, Res.bind, Res.of, gS, sS, Sl.val, isOw, bltD, idxD, cmpD, binD, notD, negD, isKs, isK, lenR, slcD, itmD, rngD, rngD2, setT, setTs, tgs, tgss, killS, setC, isNon, ownable, putD, augD, extD, ofS, popD, deqI, deqB, deqS, deqT, deqL, deqs, deqNN, deqNT, deqTN, deqNI, deqIN, cmpb, dlt, flt, plain, plains, dep, deps, d23b0, ea, mk2, mk3, q]; exact ⟨rfl, rfl⟩, _, _, rfl, rfl⟩)
  subst p q
  have e : exec (cl k) FU d23s0 _ [g.map D.int] = _ := exec_forE (it := .ex (.slc (.var 0) .no (.so (.con (.int 63))))) (R1 := [g.map D.int]) (by simp [runD, execs, exec, sqK, ev, evs, evb, evAnd, evOr, evo, evc, evi, evis, evX, evSE, evP, setP, stk_var, stk_con, stk_tup, stk_lst, stk_bin, stk_neg, stk_cmp, stk_ch2, stk_and, stk_or, stk_not, stk_ite, stk_call, stk_blt, stk_isi, stk_meth, stk_idx, stk_slc, stk_rev, stk_lc, Res.bind, Res.of, gS, sS, Sl.val, isOw, bltD, idxD, cmpD, binD, notD, negD, isKs, isK, lenR, slcD, itmD, rngD, rngD2, setT, setTs, tgs, tgss, killS, setC, isNon, ownable, putD, augD, extD, ofS, popD, deqI, deqB, deqS, deqT, deqL, deqs, deqNN, deqNT, deqTN, deqNI, deqIN, cmpb, dlt, flt, plain, plains, dep, deps, cut_enc]) e
  refine ⟨_, ?_, g, s, ns.length, 0, rfl⟩
  rw [clE (d := d23) rfl]
  simp [runD, execs, exec, sqK, ev, evs, evb, evAnd, evOr, evo, evc, evi, evis, evX, evSE, evP, setP, stk_var, stk_con, stk_tup, stk_lst, stk_bin, stk_neg, stk_cmp, stk_ch2, stk_and, stk_or, stk_not, stk_ite, stk_call, stk_blt, stk_isi, stk_meth, stk_idx, stk_slc, stk_rev, stk_lc, Res.bind, Res.of, gS, sS, Sl.val, isOw, bltD, idxD, cmpD, binD, notD, negD, isKs, isK, lenR, slcD, itmD, rngD, rngD2, setT, setTs, tgs, tgss, killS, setC, isNon, ownable, putD, augD, extD, ofS, popD, deqI, deqB, deqS, deqT, deqL, deqs, deqNN, deqNT, deqTN, deqNI, deqIN, cmpb, dlt, flt, plain, plains, dep, deps, d23, x, e, bagR]
theorem w_draw {k : Nat} (m : Int) : WC VB (cl (k + 1)) 24 [eH 1 (), .int m] D.int (drw m) := fun K ⟨h1, h2, hK⟩ R hR => by
  obtain ⟨x, R', e, g1, g2, g3⟩ := e_draw (k := k) hR h1 h2
  exact ⟨x, R', e, g3, hK x g1 g2⟩
end Lw

end
section
namespace Lw
open Cw
/-! is_tuple_of -/
noncomputable def f2 (a0_thing : (Int × Int)) (a1_size : Int) : Bool :=
  (true && (decide ((2 : Int) = a1_size)))
theorem t2 {k : Nat} (a0_thing : (Int × Int)) (a1_size : Int) : True → ∀ R, cl (k + 1) 2 [(eP D.int D.int) a0_thing, D.int a1_size] R = .ok (D.bl (f2 a0_thing a1_size)) R := fun hok R => by
  rw [clE (d := d2) rfl]
  exact TQ.run (d := d2) (x := true) (v := f2 a0_thing a1_size) rfl (TQ.at_ [.sh ((eP D.int D.int) a0_thing), .sh (D.int a1_size)] rfl
    (TQ.retR (TV.and (TV.isi (b1 := true) (TV.var rfl) rfl) (TA.one (TV.cmp (b1 := (decide ((2 : Int) = a1_size))) (TV.lenP (n := 2) (TV.var rfl) rfl (fun _ => rfl)) (TV.var rfl) rfl) (fun _ => rfl))))) (by simpa only [true_and, and_true, implies_true, forall_const, and_assoc, and_self_left, bnd_true, foldOk_true, forOk_true, fwP_true, and_self, true_implies, pX_true, ForEOk_true] using hok) R
/-! is_integer -/
noncomputable def f0 (a0_thing : Int) : Bool :=
  (true && (!false))
theorem t0 {k : Nat} (a0_thing : Int) : True → ∀ R, cl (k + 1) 0 [D.int a0_thing] R = .ok (D.bl (f0 a0_thing)) R := fun hok R => by
  rw [clE (d := d0) rfl]
  exact TQ.run (d := d0) (x := true) (v := f0 a0_thing) rfl (TQ.at_ [.sh (D.int a0_thing)] rfl
    (TQ.retR (TV.and (TV.isi (b1 := true) (TV.var rfl) rfl) (TA.one (TV.not (TV.isi (b1 := false) (TV.var rfl) rfl)) (fun _ => rfl))))) (by simpa only [true_and, and_true, implies_true, forall_const, and_assoc, and_self_left, bnd_true, foldOk_true, forOk_true, fwP_true, and_self, true_implies, pX_true, ForEOk_true] using hok) R
/-! is_within -/
noncomputable def f1 (a0_thing : Int) (a1_least : Int) (a2_most : Int) : Bool :=
  ((f0 a0_thing) && ((decide (a1_least ≤ a0_thing)) && (decide (a0_thing ≤ a2_most))))
theorem t1 {k : Nat} (a0_thing : Int) (a1_least : Int) (a2_most : Int) : True → ∀ R, cl (k + 2) 1 [D.int a0_thing, D.int a1_least, D.int a2_most] R = .ok (D.bl (f1 a0_thing a1_least a2_most)) R := fun hok R => by
  rw [clE (d := d1) rfl]
  exact TQ.run (d := d1) (x := true) (v := f1 a0_thing a1_least a2_most) rfl (TQ.at_ [.sh (D.int a0_thing), .sh (D.int a1_least), .sh (D.int a2_most)] rfl
    (TQ.retR (TV.and (TV.call (TVs.cons (TV.var rfl) (fun _ => rfl) TVs.nil) (t0 (k := k + 0) a0_thing)) (TA.one (TV.ch2 (b1 := (decide (a1_least ≤ a0_thing))) (b2 := (decide (a0_thing ≤ a2_most))) (TV.var rfl) (TV.var rfl) (TV.var rfl) rfl rfl) (fun _ => rfl))))) (by simpa only [true_and, and_true, implies_true, forall_const, and_assoc, and_self_left, bnd_true, foldOk_true, forOk_true, fwP_true, and_self, true_implies, pX_true, ForEOk_true] using hok) R
/-! is_seat_row -/
noncomputable def f8 (a0_thing : (Int × Int)) : Bool :=
  ((f2 a0_thing (2 : Int)) && ((f1 a0_thing.1 (1 : Int) (100 : Int)) && (f1 a0_thing.2 (-50 : Int) (200 : Int))))
theorem t8 {k : Nat} (a0_thing : (Int × Int)) : True → ∀ R, cl (k + 3) 8 [(eP D.int D.int) a0_thing] R = .ok (D.bl (f8 a0_thing)) R := fun hok R => by
  rw [clE (d := d8) rfl]
  exact TQ.run (d := d8) (x := true) (v := f8 a0_thing) rfl (TQ.at_ [.sh ((eP D.int D.int) a0_thing)] rfl
    (TQ.retR (TV.and (TV.call (TVs.cons (TV.var rfl) (fun _ => rfl) (TVs.cons (TV.con rfl) (fun _ => rfl) TVs.nil)) (t2 (k := k + 1) a0_thing (2 : Int))) (TA.cons (TV.call (TVs.cons (TV.prj (TV.var rfl) rfl rfl) (fun _ => rfl) (TVs.cons (TV.con rfl) (fun _ => rfl) (TVs.cons (TV.con rfl) (fun _ => rfl) TVs.nil))) (t1 (k := k + 0) a0_thing.1 (1 : Int) (100 : Int))) (TA.one (TV.call (TVs.cons (TV.prj (TV.var rfl) rfl rfl) (fun _ => rfl) (TVs.cons (TV.con rfl) (fun _ => rfl) (TVs.cons (TV.con rfl) (fun _ => rfl) TVs.nil))) (t1 (k := k + 0) a0_thing.2 (-50 : Int) (200 : Int))) (fun _ => rfl)))))) (by simpa only [true_and, and_true, implies_true, forall_const, and_assoc, and_self_left, bnd_true, foldOk_true, forOk_true, fwP_true, and_self, true_implies, pX_true, ForEOk_true] using hok) R
/-! check_rows -/
noncomputable def f9 (a0_rows : (List (Int × Int))) : Unit :=
  ()
def ok9 (a0_rows : (List (Int × Int))) : Prop :=
  ((!true) || ((!((decide ((1 : Int) ≤ (a0_rows.length : Int))) && (decide ((a0_rows.length : Int) ≤ (12 : Int))))) || (!((List.map (fun row_3 : (Int × Int) => (f8 row_3)) a0_rows).all id)))) = false ∧ (!((List.map (fun y_4 : ((Int × Int) × (Int × Int)) => (decide (y_4.1.1 < y_4.2.1))) (List.zip a0_rows (cut a0_rows (some (1 : Int)) none))).all id)) = false
theorem t9 {k : Nat} (a0_rows : (List (Int × Int))) : ok9 a0_rows → ∀ R, cl (k + 4) 9 [(eT (eP D.int D.int)) a0_rows] R = .ok (eU (f9 a0_rows)) R := fun hok R => by
  rw [clE (d := d9) rfl]
  exact TQ.run (d := d9) (x := false) (v := f9 a0_rows) rfl (TQ.at_ [.sh ((eT (eP D.int D.int)) a0_rows), .no, .no, .no] rfl
    (TQ.iteR (b1 := ((!true) || ((!((decide ((1 : Int) ≤ (a0_rows.length : Int))) && (decide ((a0_rows.length : Int) ≤ (12 : Int))))) || (!((List.map (fun row_3 : (Int × Int) => (f8 row_3)) a0_rows).all id))))) (TV.or (TV.not (TV.isi (b1 := true) (TV.var rfl) rfl)) (TO.cons (TV.not (TV.ch2 (b1 := (decide ((1 : Int) ≤ (a0_rows.length : Int)))) (b2 := (decide ((a0_rows.length : Int) ≤ (12 : Int)))) (TV.con rfl) (TV.lenT (TV.var rfl)) (TV.con rfl) rfl rfl)) (TO.one (TV.not (TV.all (TV.lc (enc := D.bl) (f := (fun row_3 : (Int × Int) => (f8 row_3))) (TI.ex (TV.var rfl) rfl) (fun row_3 => ⟨[.sh ((eT (eP D.int D.int)) a0_rows), .sh ((eP D.int D.int) row_3), .no, .no], rfl, (TV.call (TVs.cons (TV.var rfl) (fun _ => rfl) TVs.nil) (t8 (k := k + 0) row_3)), fun _ => rfl⟩)))) (fun _ => rfl)))) (TQ.iteR (b1 := (!((List.map (fun y_4 : ((Int × Int) × (Int × Int)) => (decide (y_4.1.1 < y_4.2.1))) (List.zip a0_rows (cut a0_rows (some (1 : Int)) none))).all id))) (TV.not (TV.all (TV.lc (enc := D.bl) (f := (fun y_4 : ((Int × Int) × (Int × Int)) => (decide (y_4.1.1 < y_4.2.1)))) (TI.zip (TV.var rfl) (TV.slcT (TV.var rfl) (TN.so (TV.con rfl)) TN.no) rfl rfl) (fun y_4 => ⟨[.sh ((eT (eP D.int D.int)) a0_rows), .no, .sh ((eP D.int D.int) y_4.1), .sh ((eP D.int D.int) y_4.2)], rfl, (TV.cmp (b1 := (decide (y_4.1.1 < y_4.2.1))) (TV.prj (TV.var rfl) rfl rfl) (TV.prj (TV.var rfl) rfl rfl) rfl), fun _ => rfl⟩)))) (TQ.nilR rfl)))) (by unfold ok9 at hok; simpa only [true_and, and_true, implies_true, forall_const, and_assoc, and_self_left, bnd_true, foldOk_true, forOk_true, fwP_true, and_self, true_implies, pX_true, ForEOk_true] using hok) R
/-! check_row -/
noncomputable def f10 (a0_rows : (List (Int × Int))) (a1_row : Int) : Unit :=
  ()
def ok10 (a0_rows : (List (Int × Int))) (a1_row : Int) : Prop :=
  ok9 a0_rows ∧ (!(f1 a1_row (0 : Int) ((a0_rows.length : Int) - (1 : Int)))) = false
theorem t10 {k : Nat} (a0_rows : (List (Int × Int))) (a1_row : Int) : ok10 a0_rows a1_row → ∀ R, cl (k + 5) 10 [(eT (eP D.int D.int)) a0_rows, D.int a1_row] R = .ok (eU (f10 a0_rows a1_row)) R := fun hok R => by
  rw [clE (d := d10) rfl]
  exact TQ.run (d := d10) (x := false) (v := f10 a0_rows a1_row) rfl (TQ.at_ [.sh ((eT (eP D.int D.int)) a0_rows), .sh (D.int a1_row)] rfl
    (TQ.xpr (TV.call (TVs.cons (TV.var rfl) (fun _ => rfl) TVs.nil) (t9 (k := k + 0) a0_rows)) (fun _ => rfl) (TQ.iteR (b1 := (!(f1 a1_row (0 : Int) ((a0_rows.length : Int) - (1 : Int))))) (TV.not (TV.call (TVs.cons (TV.var rfl) (fun _ => rfl) (TVs.cons (TV.con rfl) (fun _ => rfl) (TVs.cons (TV.sub (TV.lenT (TV.var rfl)) (TV.con rfl)) (fun _ => rfl) TVs.nil))) (t1 (k := k + 2) a1_row (0 : Int) ((a0_rows.length : Int) - (1 : Int))))) (TQ.nilR rfl)))) (by unfold ok10 at hok; simpa only [true_and, and_true, implies_true, forall_const, and_assoc, and_self_left, bnd_true, foldOk_true, forOk_true, fwP_true, and_self, true_implies, pX_true, ForEOk_true] using hok) R
/-! whole_of -/
noncomputable def f7 (a0_number : Int) : (Int × Int) :=
  (a0_number, (1 : Int))
theorem t7 {k : Nat} (a0_number : Int) : True → ∀ R, cl (k + 1) 7 [D.int a0_number] R = .ok ((eP D.int D.int) (f7 a0_number)) R := fun hok R => by
  rw [clE (d := d7) rfl]
  exact TQ.run (d := d7) (x := true) (v := f7 a0_number) rfl (TQ.at_ [.sh (D.int a0_number)] rfl
    (TQ.retR (TV.tup (enc := (eP D.int D.int)) (v := (a0_number, (1 : Int))) (TVs.cons (TV.var rfl) (fun _ => rfl) (TVs.cons (TV.con rfl) (fun _ => rfl) TVs.nil)) rfl))) (by simpa only [true_and, and_true, implies_true, forall_const, and_assoc, and_self_left, bnd_true, foldOk_true, forOk_true, fwP_true, and_self, true_implies, pX_true, ForEOk_true] using hok) R
/-! common_part -/
noncomputable def f3 (a0_one : Int) (a1_other : Int) : Int :=
  (bnd ((a0_one.natAbs : Int), (a1_other.natAbs : Int)) fun q_14 : (Int × Int) => (bnd (whlI (fun s_15 : (Int × Int) => (!decide (s_15.2 = (0 : Int)))) (fun s_15 : (Int × Int) => (bnd (s_15.2, (s_15.1 - (s_15.2 * (Int.fdiv s_15.1 s_15.2)))) fun q_17 : (Int × Int) => (q_17.1, q_17.2))) FU (q_14.1, q_14.2)) fun s_18 : (Int × Int) => s_18.1))
def ok3 (a0_one : Int) (a1_other : Int) : Prop :=
  (bnd ((a0_one.natAbs : Int), (a1_other.natAbs : Int)) fun q_14 : (Int × Int) => WhlOk (fun s_15 : (Int × Int) => (!decide (s_15.2 = (0 : Int)))) (fun s_15 : (Int × Int) => (bnd (s_15.2, (s_15.1 - (s_15.2 * (Int.fdiv s_15.1 s_15.2)))) fun q_17 : (Int × Int) => (q_17.1, q_17.2))) (fun s_15 : (Int × Int) => True) (fun s_15 : (Int × Int) => L2.CDivN s_15.1 s_15.2 ∧ L2.CMul s_15.2 (Int.fdiv s_15.1 s_15.2)) FU (q_14.1, q_14.2))
theorem t3 {k : Nat} (a0_one : Int) (a1_other : Int) : ok3 a0_one a1_other → ∀ R, cl (k + 1) 3 [D.int a0_one, D.int a1_other] R = .ok (D.int (f3 a0_one a1_other)) R := fun hok R => by
  rw [clE (d := d3) rfl]
  exact TQ.run (d := d3) (x := true) (v := f3 a0_one a1_other) rfl (TQ.at_ [.sh (D.int a0_one), .sh (D.int a1_other)] rfl
    (TQ.par (v := (((a0_one.natAbs : Int), (a1_other.natAbs : Int)) : (Int × Int))) (fun q_14 => [D.int q_14.1, D.int q_14.2]) (TP.sh (TV.abs (TV.var rfl)) (fun _ => rfl) (TP.sh (TV.abs (TV.var rfl)) (fun _ => rfl) TP.nil)) (fun q_14 => (TQ.at_ [.sh (D.int q_14.1), .sh (D.int q_14.2)] rfl (TQ.whl (s0 := (q_14.1, q_14.2)) (cond := (fun s_15 : (Int × Int) => (!decide (s_15.2 = (0 : Int))))) (next := (fun s_15 : (Int × Int) => (bnd (s_15.2, (s_15.1 - (s_15.2 * (Int.fdiv s_15.1 s_15.2)))) fun q_17 : (Int × Int) => (q_17.1, q_17.2)))) (fun s_15 js_16 => [.sh (D.int s_15.1), .sh (D.int s_15.2)]) [] rfl (fun s_15 js_16 => (TV.cmp (b1 := (!decide (s_15.2 = (0 : Int)))) (TV.var rfl) (TV.con rfl) rfl)) (fun s_15 js_16 => (TQ.par (v := ((s_15.2, (s_15.1 - (s_15.2 * (Int.fdiv s_15.1 s_15.2)))) : (Int × Int))) (fun q_17 => [D.int q_17.1, D.int q_17.2]) (TP.sh (TV.var rfl) (fun _ => rfl) (TP.sh (TV.sub (TV.var rfl) (TV.mul (TV.var rfl) (TV.fdiv (TV.var rfl) (TV.var rfl)))) (fun _ => rfl) TP.nil)) (fun q_17 => (TQ.nilN (v := (q_17.1, q_17.2)) [] rfl)))) (fun s_18 js_19 => (TQ.retR (TV.var rfl)))))))) (by unfold ok3 at hok; simpa only [true_and, and_true, implies_true, forall_const, and_assoc, and_self_left, bnd_true, foldOk_true, forOk_true, fwP_true, and_self, true_implies, pX_true, ForEOk_true] using hok) R
/-! ratio -/
noncomputable def f4 (a0_top : Int) (a1_bottom : Int) : (Int × Int) :=
  (bnd (f3 a0_top a1_bottom) fun part_22 : Int => (bnd (if (decide ((0 : Int) < a1_bottom)) = true then part_22 else (-part_22)) fun part_23 : Int => ((Int.fdiv a0_top part_23), (Int.fdiv a1_bottom part_23))))
def ok4 (a0_top : Int) (a1_bottom : Int) : Prop :=
  ok3 a0_top a1_bottom ∧ (bnd (f3 a0_top a1_bottom) fun part_22 : Int => (bnd (if (decide ((0 : Int) < a1_bottom)) = true then part_22 else (-part_22)) fun part_23 : Int => L2.CDivN a0_top part_23 ∧ L2.CDivN a1_bottom part_23))
theorem t4 {k : Nat} (a0_top : Int) (a1_bottom : Int) : ok4 a0_top a1_bottom → ∀ R, cl (k + 2) 4 [D.int a0_top, D.int a1_bottom] R = .ok ((eP D.int D.int) (f4 a0_top a1_bottom)) R := fun hok R => by
  rw [clE (d := d4) rfl]
  exact TQ.run (d := d4) (x := true) (v := f4 a0_top a1_bottom) rfl (TQ.at_ [.sh (D.int a0_top), .sh (D.int a1_bottom), .no] rfl
    (TQ.set (enc := D.int) (TV.call (TVs.cons (TV.var rfl) (fun _ => rfl) (TVs.cons (TV.var rfl) (fun _ => rfl) TVs.nil)) (t3 (k := k + 0) a0_top a1_bottom)) (fun _ => rfl) (fun part_22 => (TQ.set (enc := D.int) (TV.ite (TV.cmp (b1 := (decide ((0 : Int) < a1_bottom))) (TV.var rfl) (TV.con rfl) rfl) (TV.var rfl) (fun _ => rfl) (TV.neg (TV.var rfl)) (fun _ => rfl)) (fun _ => rfl) (fun part_23 => (TQ.retR (TV.tup (enc := (eP D.int D.int)) (v := ((Int.fdiv a0_top part_23), (Int.fdiv a1_bottom part_23))) (TVs.cons (TV.fdiv (TV.var rfl) (TV.var rfl)) (fun _ => rfl) (TVs.cons (TV.fdiv (TV.var rfl) (TV.var rfl)) (fun _ => rfl) TVs.nil)) rfl))))))) (by unfold ok4 at hok; simpa only [true_and, and_true, implies_true, forall_const, and_assoc, and_self_left, bnd_true, foldOk_true, forOk_true, fwP_true, and_self, true_implies, pX_true, ForEOk_true] using hok) R
/-! line_at -/
noncomputable def f11 (a0_rows : (List (Int × Int))) (a1_row : Int) (a2_ahead : Int) : (Int × Int) :=
  (f4 (((gI a0_rows a1_row).2 + (4 : Int)) * ((gI a0_rows a2_ahead).1)) ((gI a0_rows a1_row).1))
def ok11 (a0_rows : (List (Int × Int))) (a1_row : Int) (a2_ahead : Int) : Prop :=
  okI a0_rows a1_row ∧ okI a0_rows a2_ahead ∧ L2.CMul ((gI a0_rows a1_row).2 + (4 : Int)) ((gI a0_rows a2_ahead).1) ∧ okI a0_rows a1_row ∧ ok4 (((gI a0_rows a1_row).2 + (4 : Int)) * ((gI a0_rows a2_ahead).1)) ((gI a0_rows a1_row).1)
theorem t11 {k : Nat} (a0_rows : (List (Int × Int))) (a1_row : Int) (a2_ahead : Int) : ok11 a0_rows a1_row a2_ahead → ∀ R, cl (k + 3) 11 [(eT (eP D.int D.int)) a0_rows, D.int a1_row, D.int a2_ahead] R = .ok ((eP D.int D.int) (f11 a0_rows a1_row a2_ahead)) R := fun hok R => by
  rw [clE (d := d11) rfl]
  exact TQ.run (d := d11) (x := true) (v := f11 a0_rows a1_row a2_ahead) rfl (TQ.at_ [.sh ((eT (eP D.int D.int)) a0_rows), .sh (D.int a1_row), .sh (D.int a2_ahead)] rfl
    (TQ.retR (TV.call (TVs.cons (TV.mul (TV.add (TV.prj (TV.idxT (TV.var rfl) (TV.var rfl)) rfl rfl) (TV.con rfl)) (TV.prj (TV.idxT (TV.var rfl) (TV.var rfl)) rfl rfl)) (fun _ => rfl) (TVs.cons (TV.prj (TV.idxT (TV.var rfl) (TV.var rfl)) rfl rfl) (fun _ => rfl) TVs.nil)) (t4 (k := k + 0) (((gI a0_rows a1_row).2 + (4 : Int)) * ((gI a0_rows a2_ahead).1)) ((gI a0_rows a1_row).1))))) (by unfold ok11 at hok; simpa only [true_and, and_true, implies_true, forall_const, and_assoc, and_self_left, bnd_true, foldOk_true, forOk_true, fwP_true, and_self, true_implies, pX_true, ForEOk_true] using hok) R
/-! sign_of -/
noncomputable def f6 (a0_one : (Int × Int)) (a1_other : (Int × Int)) : Int :=
  (bnd ((a0_one.1 * a1_other.2) - (a1_other.1 * a0_one.2)) fun gap_25 : Int => ((if (decide ((0 : Int) < gap_25)) = true then (1 : Int) else 0) - (if (decide (gap_25 < (0 : Int))) = true then (1 : Int) else 0)))
def ok6 (a0_one : (Int × Int)) (a1_other : (Int × Int)) : Prop :=
  L2.CMul a0_one.1 a1_other.2 ∧ L2.CMul a1_other.1 a0_one.2
theorem t6 {k : Nat} (a0_one : (Int × Int)) (a1_other : (Int × Int)) : ok6 a0_one a1_other → ∀ R, cl (k + 1) 6 [(eP D.int D.int) a0_one, (eP D.int D.int) a1_other] R = .ok (D.int (f6 a0_one a1_other)) R := fun hok R => by
  rw [clE (d := d6) rfl]
  exact TQ.run (d := d6) (x := true) (v := f6 a0_one a1_other) rfl (TQ.at_ [.sh ((eP D.int D.int) a0_one), .sh ((eP D.int D.int) a1_other), .no] rfl
    (TQ.set (enc := D.int) (TV.sub (TV.mul (TV.prj (TV.var rfl) rfl rfl) (TV.prj (TV.var rfl) rfl rfl)) (TV.mul (TV.prj (TV.var rfl) rfl rfl) (TV.prj (TV.var rfl) rfl rfl))) (fun _ => rfl) (fun gap_25 => (TQ.retR (TV.sub (TV.intB (TV.cmp (b1 := (decide ((0 : Int) < gap_25))) (TV.var rfl) (TV.con rfl) rfl)) (TV.intB (TV.cmp (b1 := (decide (gap_25 < (0 : Int)))) (TV.var rfl) (TV.con rfl) rfl))))))) (by unfold ok6 at hok; simpa only [true_and, and_true, implies_true, forall_const, and_assoc, and_self_left, bnd_true, foldOk_true, forOk_true, fwP_true, and_self, true_implies, pX_true, ForEOk_true] using hok) R
/-! raw_blockers -/
noncomputable def f12 (a0_rows : (List (Int × Int))) (a1_row : Int) : (List Int) :=
  (bnd (List.map (fun ahead_26 : Int => (f7 ((gI a0_rows ahead_26).2 + (5 : Int)))) (rng a1_row)) fun heads_27 : (List (Int × Int)) => (List.map (fun ahead_28 : Int => ahead_28) (List.filter (fun ahead_28 : Int => (decide ((f6 (f11 a0_rows a1_row ahead_28) (gI heads_27 ahead_28)) < (0 : Int)))) (rng a1_row))))
def ok12 (a0_rows : (List (Int × Int))) (a1_row : Int) : Prop :=
  okR a1_row ∧ (∀ ahead_26 ∈ (rng a1_row), okI a0_rows ahead_26) ∧ (bnd (List.map (fun ahead_26 : Int => (f7 ((gI a0_rows ahead_26).2 + (5 : Int)))) (rng a1_row)) fun heads_27 : (List (Int × Int)) => okR a1_row ∧ (∀ ahead_28 ∈ (rng a1_row), ok11 a0_rows a1_row ahead_28 ∧ okI heads_27 ahead_28 ∧ ok6 (f11 a0_rows a1_row ahead_28) (gI heads_27 ahead_28)))
theorem t12 {k : Nat} (a0_rows : (List (Int × Int))) (a1_row : Int) : ok12 a0_rows a1_row → ∀ R, cl (k + 4) 12 [(eT (eP D.int D.int)) a0_rows, D.int a1_row] R = .ok ((eL D.int) (f12 a0_rows a1_row)) R := fun hok R => by
  rw [clE (d := d12) rfl]
  exact TQ.run (d := d12) (x := true) (v := f12 a0_rows a1_row) rfl (TQ.at_ [.sh ((eT (eP D.int D.int)) a0_rows), .sh (D.int a1_row), .no, .no] rfl
    (TQ.set (enc := (eL (eP D.int D.int))) (TV.lc (enc := (eP D.int D.int)) (f := (fun ahead_26 : Int => (f7 ((gI a0_rows ahead_26).2 + (5 : Int))))) (TI.rng (TV.var rfl)) (fun ahead_26 => ⟨[.sh ((eT (eP D.int D.int)) a0_rows), .sh (D.int a1_row), .no, .sh (D.int ahead_26)], rfl, (TV.call (TVs.cons (TV.add (TV.prj (TV.idxT (TV.var rfl) (TV.var rfl)) rfl rfl) (TV.con rfl)) (fun _ => rfl) TVs.nil) (t7 (k := k + 2) ((gI a0_rows ahead_26).2 + (5 : Int)))), fun _ => rfl⟩)) (fun _ => rfl) (fun heads_27 => (TQ.retR (TV.lcC (enc := D.int) (f := (fun ahead_28 : Int => ahead_28)) (c := (fun ahead_28 : Int => (decide ((f6 (f11 a0_rows a1_row ahead_28) (gI heads_27 ahead_28)) < (0 : Int))))) (TI.rng (TV.var rfl)) (fun ahead_28 => ⟨[.sh ((eT (eP D.int D.int)) a0_rows), .sh (D.int a1_row), .sh ((eL (eP D.int D.int)) heads_27), .sh (D.int ahead_28)], rfl, (TV.cmp (b1 := (decide ((f6 (f11 a0_rows a1_row ahead_28) (gI heads_27 ahead_28)) < (0 : Int)))) (TV.call (TVs.cons (TV.call (TVs.cons (TV.var rfl) (fun _ => rfl) (TVs.cons (TV.var rfl) (fun _ => rfl) (TVs.cons (TV.var rfl) (fun _ => rfl) TVs.nil))) (t11 (k := k + 0) a0_rows a1_row ahead_28)) (fun _ => rfl) (TVs.cons (TV.idxL (TV.var rfl) (TV.var rfl)) (fun _ => rfl) TVs.nil)) (t6 (k := k + 2) (f11 a0_rows a1_row ahead_28) (gI heads_27 ahead_28))) (TV.con rfl) rfl), (TV.var rfl), fun _ => rfl⟩)))))) (by unfold ok12 at hok; simpa only [true_and, and_true, implies_true, forall_const, and_assoc, and_self_left, bnd_true, foldOk_true, forOk_true, fwP_true, and_self, true_implies, pX_true, ForEOk_true] using hok) R
/-! sees -/
noncomputable def f13 (a0_rows : (List (Int × Int))) (a1_row : Int) : Bool :=
  (decide (((f12 a0_rows a1_row).length : Int) = (0 : Int)))
def ok13 (a0_rows : (List (Int × Int))) (a1_row : Int) : Prop :=
  ok10 a0_rows a1_row ∧ ok12 a0_rows a1_row
theorem t13 {k : Nat} (a0_rows : (List (Int × Int))) (a1_row : Int) : ok13 a0_rows a1_row → ∀ R, cl (k + 6) 13 [(eT (eP D.int D.int)) a0_rows, D.int a1_row] R = .ok (D.bl (f13 a0_rows a1_row)) R := fun hok R => by
  rw [clE (d := d13) rfl]
  exact TQ.run (d := d13) (x := true) (v := f13 a0_rows a1_row) rfl (TQ.at_ [.sh ((eT (eP D.int D.int)) a0_rows), .sh (D.int a1_row)] rfl
    (TQ.xpr (TV.call (TVs.cons (TV.var rfl) (fun _ => rfl) (TVs.cons (TV.var rfl) (fun _ => rfl) TVs.nil)) (t10 (k := k + 0) a0_rows a1_row)) (fun _ => rfl) (TQ.retR (TV.cmp (b1 := (decide (((f12 a0_rows a1_row).length : Int) = (0 : Int)))) (TV.lenL (TV.call (TVs.cons (TV.var rfl) (fun _ => rfl) (TVs.cons (TV.var rfl) (fun _ => rfl) TVs.nil)) (t12 (k := k + 1) a0_rows a1_row))) (TV.con rfl) rfl)))) (by unfold ok13 at hok; simpa only [true_and, and_true, implies_true, forall_const, and_assoc, and_self_left, bnd_true, foldOk_true, forOk_true, fwP_true, and_self, true_implies, pX_true, ForEOk_true] using hok) R
/-! floor_needed -/
noncomputable def f16 (a0_rows : (List (Int × Int))) (a1_row : Int) : Int :=
  (bnd ((gI a0_rows a1_row).1, (gI a0_rows a1_row).2) fun q_37 : (Int × Int) => (bnd (List.foldl (fun (s_38 : Int) (ahead_40 : Int) => (bnd ((gI a0_rows ahead_40).1, ((gI a0_rows ahead_40).2 + (5 : Int))) fun q_41 : (Int × Int) => (bnd (max s_38 ((-(Int.fdiv ((-q_41.2) * q_37.1) q_41.1)) - (4 : Int))) fun found_42 : Int => found_42))) q_37.2 (rng a1_row)) fun s_43 : Int => s_43))
def ok16 (a0_rows : (List (Int × Int))) (a1_row : Int) : Prop :=
  okI a0_rows a1_row ∧ okI a0_rows a1_row ∧ (bnd ((gI a0_rows a1_row).1, (gI a0_rows a1_row).2) fun q_37 : (Int × Int) => okR a1_row ∧ FoldOk (fun (s_38 : Int) (ahead_40 : Int) => (bnd ((gI a0_rows ahead_40).1, ((gI a0_rows ahead_40).2 + (5 : Int))) fun q_41 : (Int × Int) => (bnd (max s_38 ((-(Int.fdiv ((-q_41.2) * q_37.1) q_41.1)) - (4 : Int))) fun found_42 : Int => found_42))) (fun (s_38 : Int) (ahead_40 : Int) => okI a0_rows ahead_40 ∧ okI a0_rows ahead_40 ∧ (bnd ((gI a0_rows ahead_40).1, ((gI a0_rows ahead_40).2 + (5 : Int))) fun q_41 : (Int × Int) => L2.CMul (-q_41.2) q_37.1 ∧ L2.CDivN ((-q_41.2) * q_37.1) q_41.1)) q_37.2 (rng a1_row))
theorem t16 {k : Nat} (a0_rows : (List (Int × Int))) (a1_row : Int) : ok16 a0_rows a1_row → ∀ R, cl (k + 1) 16 [(eT (eP D.int D.int)) a0_rows, D.int a1_row] R = .ok (D.int (f16 a0_rows a1_row)) R := fun hok R => by
  rw [clE (d := d16) rfl]
  exact TQ.run (d := d16) (x := true) (v := f16 a0_rows a1_row) rfl (TQ.at_ [.sh ((eT (eP D.int D.int)) a0_rows), .sh (D.int a1_row), .no, .no, .no, .no, .no] rfl
    (TQ.par (v := (((gI a0_rows a1_row).1, (gI a0_rows a1_row).2) : (Int × Int))) (fun q_37 => [D.int q_37.1, D.int q_37.2]) (TP.sh (TV.prj (TV.idxT (TV.var rfl) (TV.var rfl)) rfl rfl) (fun _ => rfl) (TP.sh (TV.prj (TV.idxT (TV.var rfl) (TV.var rfl)) rfl rfl) (fun _ => rfl) TP.nil)) (fun q_37 => (TQ.at_ [.sh ((eT (eP D.int D.int)) a0_rows), .sh (D.int a1_row), .no, .sh (D.int q_37.1), .sh (D.int q_37.2), .no, .no] rfl (TQ.for_ (s0 := q_37.2) (step := (fun (s_38 : Int) (ahead_40 : Int) => (bnd ((gI a0_rows ahead_40).1, ((gI a0_rows ahead_40).2 + (5 : Int))) fun q_41 : (Int × Int) => (bnd (max s_38 ((-(Int.fdiv ((-q_41.2) * q_37.1) q_41.1)) - (4 : Int))) fun found_42 : Int => found_42)))) (fun s_38 js_39 => [.sh ((eT (eP D.int D.int)) a0_rows), .sh (D.int a1_row), nw (jg js_39 0), .sh (D.int q_37.1), .sh (D.int s_38), nw (jg js_39 1), nw (jg js_39 2)]) [.no, .no, .no] (TIs.rng (TV.var rfl)) rfl (fun s_38 js_39 ahead_40 => ⟨[.sh ((eT (eP D.int D.int)) a0_rows), .sh (D.int a1_row), .sh (D.int ahead_40), .sh (D.int q_37.1), .sh (D.int s_38), nw (jg js_39 1), nw (jg js_39 2)], rfl, (TQ.par (v := (((gI a0_rows ahead_40).1, ((gI a0_rows ahead_40).2 + (5 : Int))) : (Int × Int))) (fun q_41 => [D.int q_41.1, D.int q_41.2]) (TP.sh (TV.prj (TV.idxT (TV.var rfl) (TV.var rfl)) rfl rfl) (fun _ => rfl) (TP.sh (TV.add (TV.prj (TV.idxT (TV.var rfl) (TV.var rfl)) rfl rfl) (TV.con rfl)) (fun _ => rfl) TP.nil)) (fun q_41 => (TQ.at_ [.sh ((eT (eP D.int D.int)) a0_rows), .sh (D.int a1_row), .sh (D.int ahead_40), .sh (D.int q_37.1), .sh (D.int s_38), .sh (D.int q_41.1), .sh (D.int q_41.2)] rfl (TQ.set (enc := D.int) (TV.max2 (TV.var rfl) (TV.sub (TV.neg (TV.fdiv (TV.mul (TV.neg (TV.var rfl)) (TV.var rfl)) (TV.var rfl))) (TV.con rfl))) (fun _ => rfl) (fun found_42 => (TQ.nilN (v := found_42) [.sh (D.int ahead_40), .sh (D.int q_41.1), .sh (D.int q_41.2)] rfl))))))⟩) (fun s_43 js_44 => (TQ.retR (TV.var rfl)))))))) (by unfold ok16 at hok; simpa only [true_and, and_true, implies_true, forall_const, and_assoc, and_self_left, bnd_true, foldOk_true, forOk_true, fwP_true, and_self, true_implies, pX_true, ForEOk_true] using hok) R
/-! raise_for -/
noncomputable def f18 (a0_rows : (List (Int × Int))) (a1_row : Int) : Int :=
  ((f16 a0_rows a1_row) - ((gI a0_rows a1_row).2))
def ok18 (a0_rows : (List (Int × Int))) (a1_row : Int) : Prop :=
  ok10 a0_rows a1_row ∧ ok16 a0_rows a1_row ∧ okI a0_rows a1_row
theorem t18 {k : Nat} (a0_rows : (List (Int × Int))) (a1_row : Int) : ok18 a0_rows a1_row → ∀ R, cl (k + 6) 18 [(eT (eP D.int D.int)) a0_rows, D.int a1_row] R = .ok (D.int (f18 a0_rows a1_row)) R := fun hok R => by
  rw [clE (d := d18) rfl]
  exact TQ.run (d := d18) (x := true) (v := f18 a0_rows a1_row) rfl (TQ.at_ [.sh ((eT (eP D.int D.int)) a0_rows), .sh (D.int a1_row)] rfl
    (TQ.xpr (TV.call (TVs.cons (TV.var rfl) (fun _ => rfl) (TVs.cons (TV.var rfl) (fun _ => rfl) TVs.nil)) (t10 (k := k + 0) a0_rows a1_row)) (fun _ => rfl) (TQ.retR (TV.sub (TV.call (TVs.cons (TV.var rfl) (fun _ => rfl) (TVs.cons (TV.var rfl) (fun _ => rfl) TVs.nil)) (t16 (k := k + 4) a0_rows a1_row)) (TV.prj (TV.idxT (TV.var rfl) (TV.var rfl)) rfl rfl))))) (by unfold ok18 at hok; simpa only [true_and, and_true, implies_true, forall_const, and_assoc, and_self_left, bnd_true, foldOk_true, forOk_true, fwP_true, and_self, true_implies, pX_true, ForEOk_true] using hok) R
/-! floor_needed -/
noncomputable def f16_v2 (a0_rows : (List (Int × Int))) (a1_row : Int) : Int :=
  (bnd ((gI a0_rows a1_row).1, (gI a0_rows a1_row).2) fun q_57 : (Int × Int) => (bnd (List.foldl (fun (s_58 : Int) (ahead_60 : Int) => (bnd ((gI a0_rows ahead_60).1, ((gI a0_rows ahead_60).2 + (5 : Int))) fun q_61 : (Int × Int) => (bnd (max s_58 ((-(Int.fdiv ((-q_61.2) * q_57.1) q_61.1)) - (4 : Int))) fun found_62 : Int => found_62))) q_57.2 (rng a1_row)) fun s_63 : Int => s_63))
def ok16_v2 (a0_rows : (List (Int × Int))) (a1_row : Int) : Prop :=
  okI a0_rows a1_row ∧ okI a0_rows a1_row ∧ (bnd ((gI a0_rows a1_row).1, (gI a0_rows a1_row).2) fun q_57 : (Int × Int) => okR a1_row ∧ FoldOk (fun (s_58 : Int) (ahead_60 : Int) => (bnd ((gI a0_rows ahead_60).1, ((gI a0_rows ahead_60).2 + (5 : Int))) fun q_61 : (Int × Int) => (bnd (max s_58 ((-(Int.fdiv ((-q_61.2) * q_57.1) q_61.1)) - (4 : Int))) fun found_62 : Int => found_62))) (fun (s_58 : Int) (ahead_60 : Int) => okI a0_rows ahead_60 ∧ okI a0_rows ahead_60 ∧ (bnd ((gI a0_rows ahead_60).1, ((gI a0_rows ahead_60).2 + (5 : Int))) fun q_61 : (Int × Int) => L2.CMul (-q_61.2) q_57.1 ∧ L2.CDivN ((-q_61.2) * q_57.1) q_61.1)) q_57.2 (rng a1_row))
theorem t16_v2 {k : Nat} (a0_rows : (List (Int × Int))) (a1_row : Int) : ok16_v2 a0_rows a1_row → ∀ R, cl (k + 1) 16 [(eL (eP D.int D.int)) a0_rows, D.int a1_row] R = .ok (D.int (f16_v2 a0_rows a1_row)) R := fun hok R => by
  rw [clE (d := d16) rfl]
  exact TQ.run (d := d16) (x := true) (v := f16_v2 a0_rows a1_row) rfl (TQ.at_ [.sh ((eL (eP D.int D.int)) a0_rows), .sh (D.int a1_row), .no, .no, .no, .no, .no] rfl
    (TQ.par (v := (((gI a0_rows a1_row).1, (gI a0_rows a1_row).2) : (Int × Int))) (fun q_57 => [D.int q_57.1, D.int q_57.2]) (TP.sh (TV.prj (TV.idxL (TV.var rfl) (TV.var rfl)) rfl rfl) (fun _ => rfl) (TP.sh (TV.prj (TV.idxL (TV.var rfl) (TV.var rfl)) rfl rfl) (fun _ => rfl) TP.nil)) (fun q_57 => (TQ.at_ [.sh ((eL (eP D.int D.int)) a0_rows), .sh (D.int a1_row), .no, .sh (D.int q_57.1), .sh (D.int q_57.2), .no, .no] rfl (TQ.for_ (s0 := q_57.2) (step := (fun (s_58 : Int) (ahead_60 : Int) => (bnd ((gI a0_rows ahead_60).1, ((gI a0_rows ahead_60).2 + (5 : Int))) fun q_61 : (Int × Int) => (bnd (max s_58 ((-(Int.fdiv ((-q_61.2) * q_57.1) q_61.1)) - (4 : Int))) fun found_62 : Int => found_62)))) (fun s_58 js_59 => [.sh ((eL (eP D.int D.int)) a0_rows), .sh (D.int a1_row), nw (jg js_59 0), .sh (D.int q_57.1), .sh (D.int s_58), nw (jg js_59 1), nw (jg js_59 2)]) [.no, .no, .no] (TIs.rng (TV.var rfl)) rfl (fun s_58 js_59 ahead_60 => ⟨[.sh ((eL (eP D.int D.int)) a0_rows), .sh (D.int a1_row), .sh (D.int ahead_60), .sh (D.int q_57.1), .sh (D.int s_58), nw (jg js_59 1), nw (jg js_59 2)], rfl, (TQ.par (v := (((gI a0_rows ahead_60).1, ((gI a0_rows ahead_60).2 + (5 : Int))) : (Int × Int))) (fun q_61 => [D.int q_61.1, D.int q_61.2]) (TP.sh (TV.prj (TV.idxL (TV.var rfl) (TV.var rfl)) rfl rfl) (fun _ => rfl) (TP.sh (TV.add (TV.prj (TV.idxL (TV.var rfl) (TV.var rfl)) rfl rfl) (TV.con rfl)) (fun _ => rfl) TP.nil)) (fun q_61 => (TQ.at_ [.sh ((eL (eP D.int D.int)) a0_rows), .sh (D.int a1_row), .sh (D.int ahead_60), .sh (D.int q_57.1), .sh (D.int s_58), .sh (D.int q_61.1), .sh (D.int q_61.2)] rfl (TQ.set (enc := D.int) (TV.max2 (TV.var rfl) (TV.sub (TV.neg (TV.fdiv (TV.mul (TV.neg (TV.var rfl)) (TV.var rfl)) (TV.var rfl))) (TV.con rfl))) (fun _ => rfl) (fun found_62 => (TQ.nilN (v := found_62) [.sh (D.int ahead_60), .sh (D.int q_61.1), .sh (D.int q_61.2)] rfl))))))⟩) (fun s_63 js_64 => (TQ.retR (TV.var rfl)))))))) (by unfold ok16_v2 at hok; simpa only [true_and, and_true, implies_true, forall_const, and_assoc, and_self_left, bnd_true, foldOk_true, forOk_true, fwP_true, and_self, true_implies, pX_true, ForEOk_true] using hok) R
/-! least_floors -/
noncomputable def f17 (a0_rows : (List (Int × Int))) : (List Int) :=
  (bnd a0_rows fun found_69 : (List (Int × Int)) => (bnd (List.foldl (fun (s_70 : (List (Int × Int))) (row_72 : Int) => (bnd (sI s_70 row_72 ((gI a0_rows row_72).1, (f16_v2 s_70 row_72))) fun found_73 : (List (Int × Int)) => found_73)) found_69 (rng (a0_rows.length : Int))) fun s_74 : (List (Int × Int)) => (List.map (fun y_76 : (Int × Int) => y_76.2) s_74)))
def ok17 (a0_rows : (List (Int × Int))) : Prop :=
  ok9 a0_rows ∧ (bnd a0_rows fun found_69 : (List (Int × Int)) => okR (a0_rows.length : Int) ∧ FoldOk (fun (s_70 : (List (Int × Int))) (row_72 : Int) => (bnd (sI s_70 row_72 ((gI a0_rows row_72).1, (f16_v2 s_70 row_72))) fun found_73 : (List (Int × Int)) => found_73)) (fun (s_70 : (List (Int × Int))) (row_72 : Int) => okI a0_rows row_72 ∧ ok16_v2 s_70 row_72 ∧ okS s_70 row_72) found_69 (rng (a0_rows.length : Int)))
theorem t17 {k : Nat} (a0_rows : (List (Int × Int))) : ok17 a0_rows → ∀ R, cl (k + 5) 17 [(eT (eP D.int D.int)) a0_rows] R = .ok ((eT D.int) (f17 a0_rows)) R := fun hok R => by
  rw [clE (d := d17) rfl]
  exact TQ.run (d := d17) (x := true) (v := f17 a0_rows) rfl (TQ.at_ [.sh ((eT (eP D.int D.int)) a0_rows), .no, .no, .no, .no] rfl
    (TQ.xpr (TV.call (TVs.cons (TV.var rfl) (fun _ => rfl) TVs.nil) (t9 (k := k + 0) a0_rows)) (fun _ => rfl) (TQ.ow (enc := (eL (eP D.int D.int))) (TV.listT (TV.var rfl)) (fun _ => rfl) (fun found_69 => (TQ.for_ (s0 := found_69) (step := (fun (s_70 : (List (Int × Int))) (row_72 : Int) => (bnd (sI s_70 row_72 ((gI a0_rows row_72).1, (f16_v2 s_70 row_72))) fun found_73 : (List (Int × Int)) => found_73))) (fun s_70 js_71 => [.sh ((eT (eP D.int D.int)) a0_rows), .ow ((eL (eP D.int D.int)) s_70), nw (jg js_71 0), .no, .no]) [.no] (TIs.rng (TV.lenT (TV.var rfl))) rfl (fun s_70 js_71 row_72 => ⟨[.sh ((eT (eP D.int D.int)) a0_rows), .ow ((eL (eP D.int D.int)) s_70), .sh (D.int row_72), .no, .no], rfl, (TQ.sub (enc := (eP D.int D.int)) (l := s_70) rfl (TV.var rfl) (TV.tup (enc := (eP D.int D.int)) (v := ((gI a0_rows row_72).1, (f16_v2 s_70 row_72))) (TVs.cons (TV.prj (TV.idxT (TV.var rfl) (TV.var rfl)) rfl rfl) (fun _ => rfl) (TVs.cons (TV.callb (q := ok16_v2 s_70 row_72) (TVb.cons (TV.own rfl) (TVb.cons (TV.var rfl) TVb.nil)) (nrs_cons (e := (eL (eP D.int D.int))) s_70 (nrs_cons (e := D.int) row_72 nrs_nil)) (t16_v2 (k := k + 3) s_70 row_72)) (fun _ => rfl) TVs.nil)) rfl) (fun _ => rfl) (fun found_73 => (TQ.nilN (v := found_73) [.sh (D.int row_72)] rfl)))⟩) (fun s_74 js_75 => (TQ.retR (TV.tupleL (TV.lc (enc := D.int) (f := (fun y_76 : (Int × Int) => y_76.2)) (TI.ex (TV.own rfl) rfl) (fun y_76 => ⟨[.sh ((eT (eP D.int D.int)) a0_rows), .ow ((eL (eP D.int D.int)) s_74), nw (jg js_75 0), .sh (D.int y_76.1), .sh (D.int y_76.2)], rfl, (TV.var rfl), fun _ => rfl⟩)))))))))) (by unfold ok17 at hok; simpa only [true_and, and_true, implies_true, forall_const, and_assoc, and_self_left, bnd_true, foldOk_true, forOk_true, fwP_true, and_self, true_implies, pX_true, ForEOk_true] using hok) R
/-! _law_blocks -/
noncomputable def f27 (a0_rows : (List (Int × Int))) (a1_row : Int) (a2_ahead : Int) (a3_floor : Int) : Bool :=
  (bnd ((gI a0_rows a1_row).1, (gI a0_rows a2_ahead).1) fun q_97 : (Int × Int) => (decide (((a3_floor + (4 : Int)) * q_97.2) < (((gI a0_rows a2_ahead).2 + (5 : Int)) * q_97.1))))
def ok27 (a0_rows : (List (Int × Int))) (a1_row : Int) (a2_ahead : Int) (a3_floor : Int) : Prop :=
  okI a0_rows a1_row ∧ okI a0_rows a2_ahead ∧ (bnd ((gI a0_rows a1_row).1, (gI a0_rows a2_ahead).1) fun q_97 : (Int × Int) => L2.CMul (a3_floor + (4 : Int)) q_97.2 ∧ okI a0_rows a2_ahead ∧ L2.CMul ((gI a0_rows a2_ahead).2 + (5 : Int)) q_97.1)
theorem t27 {k : Nat} (a0_rows : (List (Int × Int))) (a1_row : Int) (a2_ahead : Int) (a3_floor : Int) : ok27 a0_rows a1_row a2_ahead a3_floor → ∀ R, cl (k + 1) 27 [(eT (eP D.int D.int)) a0_rows, D.int a1_row, D.int a2_ahead, D.int a3_floor] R = .ok (D.bl (f27 a0_rows a1_row a2_ahead a3_floor)) R := fun hok R => by
  rw [clE (d := d27) rfl]
  exact TQ.run (d := d27) (x := true) (v := f27 a0_rows a1_row a2_ahead a3_floor) rfl (TQ.at_ [.sh ((eT (eP D.int D.int)) a0_rows), .sh (D.int a1_row), .sh (D.int a2_ahead), .sh (D.int a3_floor), .no, .no] rfl
    (TQ.par (v := (((gI a0_rows a1_row).1, (gI a0_rows a2_ahead).1) : (Int × Int))) (fun q_97 => [D.int q_97.1, D.int q_97.2]) (TP.sh (TV.prj (TV.idxT (TV.var rfl) (TV.var rfl)) rfl rfl) (fun _ => rfl) (TP.sh (TV.prj (TV.idxT (TV.var rfl) (TV.var rfl)) rfl rfl) (fun _ => rfl) TP.nil)) (fun q_97 => (TQ.at_ [.sh ((eT (eP D.int D.int)) a0_rows), .sh (D.int a1_row), .sh (D.int a2_ahead), .sh (D.int a3_floor), .sh (D.int q_97.1), .sh (D.int q_97.2)] rfl (TQ.retR (TV.cmp (b1 := (decide (((a3_floor + (4 : Int)) * q_97.2) < (((gI a0_rows a2_ahead).2 + (5 : Int)) * q_97.1)))) (TV.mul (TV.add (TV.var rfl) (TV.con rfl)) (TV.var rfl)) (TV.mul (TV.add (TV.prj (TV.idxT (TV.var rfl) (TV.var rfl)) rfl rfl) (TV.con rfl)) (TV.var rfl)) rfl)))))) (by unfold ok27 at hok; simpa only [true_and, and_true, implies_true, forall_const, and_assoc, and_self_left, bnd_true, foldOk_true, forOk_true, fwP_true, and_self, true_implies, pX_true, ForEOk_true] using hok) R
/-! _law_blockers -/
noncomputable def f28 (a0_rows : (List (Int × Int))) (a1_row : Int) (a2_floor : Int) : (List Int) :=
  (List.map (fun ahead_98 : Int => ahead_98) (List.filter (fun ahead_98 : Int => (f27 a0_rows a1_row ahead_98 a2_floor)) (rng a1_row)))
def ok28 (a0_rows : (List (Int × Int))) (a1_row : Int) (a2_floor : Int) : Prop :=
  okR a1_row ∧ (∀ ahead_98 ∈ (rng a1_row), ok27 a0_rows a1_row ahead_98 a2_floor)
theorem t28 {k : Nat} (a0_rows : (List (Int × Int))) (a1_row : Int) (a2_floor : Int) : ok28 a0_rows a1_row a2_floor → ∀ R, cl (k + 2) 28 [(eT (eP D.int D.int)) a0_rows, D.int a1_row, D.int a2_floor] R = .ok ((eT D.int) (f28 a0_rows a1_row a2_floor)) R := fun hok R => by
  rw [clE (d := d28) rfl]
  exact TQ.run (d := d28) (x := true) (v := f28 a0_rows a1_row a2_floor) rfl (TQ.at_ [.sh ((eT (eP D.int D.int)) a0_rows), .sh (D.int a1_row), .sh (D.int a2_floor), .no] rfl
    (TQ.retR (TV.tupleL (TV.lcC (enc := D.int) (f := (fun ahead_98 : Int => ahead_98)) (c := (fun ahead_98 : Int => (f27 a0_rows a1_row ahead_98 a2_floor))) (TI.rng (TV.var rfl)) (fun ahead_98 => ⟨[.sh ((eT (eP D.int D.int)) a0_rows), .sh (D.int a1_row), .sh (D.int a2_floor), .sh (D.int ahead_98)], rfl, (TV.call (TVs.cons (TV.var rfl) (fun _ => rfl) (TVs.cons (TV.var rfl) (fun _ => rfl) (TVs.cons (TV.var rfl) (fun _ => rfl) (TVs.cons (TV.var rfl) (fun _ => rfl) TVs.nil)))) (t27 (k := k + 0) a0_rows a1_row ahead_98 a2_floor)), (TV.var rfl), fun _ => rfl⟩))))) (by unfold ok28 at hok; simpa only [true_and, and_true, implies_true, forall_const, and_assoc, and_self_left, bnd_true, foldOk_true, forOk_true, fwP_true, and_self, true_implies, pX_true, ForEOk_true] using hok) R
/-! blockers -/
noncomputable def f14 (a0_rows : (List (Int × Int))) (a1_row : Int) : (List Int) :=
  (f12 a0_rows a1_row)
def ok14 (a0_rows : (List (Int × Int))) (a1_row : Int) : Prop :=
  ok10 a0_rows a1_row ∧ ok12 a0_rows a1_row
theorem t14 {k : Nat} (a0_rows : (List (Int × Int))) (a1_row : Int) : ok14 a0_rows a1_row → ∀ R, cl (k + 6) 14 [(eT (eP D.int D.int)) a0_rows, D.int a1_row] R = .ok ((eT D.int) (f14 a0_rows a1_row)) R := fun hok R => by
  rw [clE (d := d14) rfl]
  exact TQ.run (d := d14) (x := true) (v := f14 a0_rows a1_row) rfl (TQ.at_ [.sh ((eT (eP D.int D.int)) a0_rows), .sh (D.int a1_row)] rfl
    (TQ.xpr (TV.call (TVs.cons (TV.var rfl) (fun _ => rfl) (TVs.cons (TV.var rfl) (fun _ => rfl) TVs.nil)) (t10 (k := k + 0) a0_rows a1_row)) (fun _ => rfl) (TQ.retR (TV.tupleL (TV.call (TVs.cons (TV.var rfl) (fun _ => rfl) (TVs.cons (TV.var rfl) (fun _ => rfl) TVs.nil)) (t12 (k := k + 1) a0_rows a1_row)))))) (by unfold ok14 at hok; simpa only [true_and, and_true, implies_true, forall_const, and_assoc, and_self_left, bnd_true, foldOk_true, forOk_true, fwP_true, and_self, true_implies, pX_true, ForEOk_true] using hok) R
/-! _law_raise -/
noncomputable def f29 (a0_rows : (List (Int × Int))) (a1_row : Int) : Int :=
  (bnd (gI a0_rows a1_row) fun u_109 : (Int × Int) => (bnd (0 : Int) fun need_110 : Int => (bnd (List.foldl (fun (s_111 : Int) (y_113 : (Int × Int)) => (bnd (((y_113.2 + (5 : Int)) * u_109.1) - ((u_109.2 + (4 : Int)) * y_113.1)) fun short_114 : Int => (bnd (max s_111 (Int.fdiv ((short_114 + y_113.1) - (1 : Int)) y_113.1)) fun need_115 : Int => need_115))) need_110 (cut a0_rows none (some a1_row))) fun s_116 : Int => s_116)))
def ok29 (a0_rows : (List (Int × Int))) (a1_row : Int) : Prop :=
  okI a0_rows a1_row ∧ (bnd (gI a0_rows a1_row) fun u_109 : (Int × Int) => (bnd (0 : Int) fun need_110 : Int => FoldOk (fun (s_111 : Int) (y_113 : (Int × Int)) => (bnd (((y_113.2 + (5 : Int)) * u_109.1) - ((u_109.2 + (4 : Int)) * y_113.1)) fun short_114 : Int => (bnd (max s_111 (Int.fdiv ((short_114 + y_113.1) - (1 : Int)) y_113.1)) fun need_115 : Int => need_115))) (fun (s_111 : Int) (y_113 : (Int × Int)) => L2.CMul (y_113.2 + (5 : Int)) u_109.1 ∧ L2.CMul (u_109.2 + (4 : Int)) y_113.1 ∧ (bnd (((y_113.2 + (5 : Int)) * u_109.1) - ((u_109.2 + (4 : Int)) * y_113.1)) fun short_114 : Int => L2.CDivN ((short_114 + y_113.1) - (1 : Int)) y_113.1)) need_110 (cut a0_rows none (some a1_row))))
theorem t29 {k : Nat} (a0_rows : (List (Int × Int))) (a1_row : Int) : ok29 a0_rows a1_row → ∀ R, cl (k + 1) 29 [(eT (eP D.int D.int)) a0_rows, D.int a1_row] R = .ok (D.int (f29 a0_rows a1_row)) R := fun hok R => by
  rw [clE (d := d29) rfl]
  exact TQ.run (d := d29) (x := true) (v := f29 a0_rows a1_row) rfl (TQ.at_ [.sh ((eT (eP D.int D.int)) a0_rows), .sh (D.int a1_row), .no, .no, .no, .no, .no, .no] rfl
    (TQ.unp (fun u_109 => [.sh ((eT (eP D.int D.int)) a0_rows), .sh (D.int a1_row), .no, .sh (D.int u_109.1), .sh (D.int u_109.2), .no, .no, .no]) (TV.idxT (TV.var rfl) (TV.var rfl)) (fun _ => rfl) (fun _ => rfl) (fun u_109 => (TQ.set (enc := D.int) (TV.con rfl) (fun _ => rfl) (fun need_110 => (TQ.for_ (s0 := need_110) (step := (fun (s_111 : Int) (y_113 : (Int × Int)) => (bnd (((y_113.2 + (5 : Int)) * u_109.1) - ((u_109.2 + (4 : Int)) * y_113.1)) fun short_114 : Int => (bnd (max s_111 (Int.fdiv ((short_114 + y_113.1) - (1 : Int)) y_113.1)) fun need_115 : Int => need_115)))) (fun s_111 js_112 => [.sh ((eT (eP D.int D.int)) a0_rows), .sh (D.int a1_row), .sh (D.int s_111), .sh (D.int u_109.1), .sh (D.int u_109.2), nw (jg js_112 0), nw (jg js_112 1), nw (jg js_112 2)]) [.no, .no, .no] (TIs.ex (TV.slcT (TV.var rfl) TN.no (TN.so (TV.var rfl))) (fun _ => rfl) rfl) rfl (fun s_111 js_112 y_113 => ⟨[.sh ((eT (eP D.int D.int)) a0_rows), .sh (D.int a1_row), .sh (D.int s_111), .sh (D.int u_109.1), .sh (D.int u_109.2), .sh (D.int y_113.1), .sh (D.int y_113.2), nw (jg js_112 2)], rfl, (TQ.set (enc := D.int) (TV.sub (TV.mul (TV.add (TV.var rfl) (TV.con rfl)) (TV.var rfl)) (TV.mul (TV.add (TV.var rfl) (TV.con rfl)) (TV.var rfl))) (fun _ => rfl) (fun short_114 => (TQ.set (enc := D.int) (TV.max2 (TV.var rfl) (TV.fdiv (TV.sub (TV.add (TV.var rfl) (TV.var rfl)) (TV.con rfl)) (TV.var rfl))) (fun _ => rfl) (fun need_115 => (TQ.nilN (v := need_115) [.sh (D.int y_113.1), .sh (D.int y_113.2), .sh (D.int short_114)] rfl)))))⟩) (fun s_116 js_117 => (TQ.retR (TV.var rfl))))))))) (by unfold ok29 at hok; simpa only [true_and, and_true, implies_true, forall_const, and_assoc, and_self_left, bnd_true, foldOk_true, forOk_true, fwP_true, and_self, true_implies, pX_true, ForEOk_true] using hok) R
/-! blind_rows -/
noncomputable def f15 (a0_rows : (List (Int × Int))) : (List Int) :=
  (List.map (fun row_121 : Int => row_121) (List.filter (fun row_121 : Int => (decide ((0 : Int) < ((f12 a0_rows row_121).length : Int)))) (rng (a0_rows.length : Int))))
def ok15 (a0_rows : (List (Int × Int))) : Prop :=
  ok9 a0_rows ∧ okR (a0_rows.length : Int) ∧ (∀ row_121 ∈ (rng (a0_rows.length : Int)), ok12 a0_rows row_121)
theorem t15 {k : Nat} (a0_rows : (List (Int × Int))) : ok15 a0_rows → ∀ R, cl (k + 5) 15 [(eT (eP D.int D.int)) a0_rows] R = .ok ((eT D.int) (f15 a0_rows)) R := fun hok R => by
  rw [clE (d := d15) rfl]
  exact TQ.run (d := d15) (x := true) (v := f15 a0_rows) rfl (TQ.at_ [.sh ((eT (eP D.int D.int)) a0_rows), .no] rfl
    (TQ.xpr (TV.call (TVs.cons (TV.var rfl) (fun _ => rfl) TVs.nil) (t9 (k := k + 0) a0_rows)) (fun _ => rfl) (TQ.retR (TV.tupleL (TV.lcC (enc := D.int) (f := (fun row_121 : Int => row_121)) (c := (fun row_121 : Int => (decide ((0 : Int) < ((f12 a0_rows row_121).length : Int))))) (TI.rng (TV.lenT (TV.var rfl))) (fun row_121 => ⟨[.sh ((eT (eP D.int D.int)) a0_rows), .sh (D.int row_121)], rfl, (TV.cmp (b1 := (decide ((0 : Int) < ((f12 a0_rows row_121).length : Int)))) (TV.lenL (TV.call (TVs.cons (TV.var rfl) (fun _ => rfl) (TVs.cons (TV.var rfl) (fun _ => rfl) TVs.nil)) (t12 (k := k + 0) a0_rows row_121))) (TV.con rfl) rfl), (TV.var rfl), fun _ => rfl⟩)))))) (by unfold ok15 at hok; simpa only [true_and, and_true, implies_true, forall_const, and_assoc, and_self_left, bnd_true, foldOk_true, forOk_true, fwP_true, and_self, true_implies, pX_true, ForEOk_true] using hok) R
/-! _law_frac -/
noncomputable def f26 (a0_top : Int) (a1_bottom : Int) : (Int × Int) :=
  (bnd ((a0_top.natAbs : Int), a1_bottom) fun q_136 : (Int × Int) => (bnd (whlI (fun s_137 : (Int × Int) => (!decide (s_137.2 = (0 : Int)))) (fun s_137 : (Int × Int) => (bnd (s_137.2, (Int.fmod s_137.1 s_137.2)) fun q_139 : (Int × Int) => (q_139.1, q_139.2))) FU (q_136.1, q_136.2)) fun s_140 : (Int × Int) => ((Int.fdiv a0_top (max (1 : Int) s_140.1)), (Int.fdiv a1_bottom (max (1 : Int) s_140.1)))))
def ok26 (a0_top : Int) (a1_bottom : Int) : Prop :=
  (bnd ((a0_top.natAbs : Int), a1_bottom) fun q_136 : (Int × Int) => WhlOk (fun s_137 : (Int × Int) => (!decide (s_137.2 = (0 : Int)))) (fun s_137 : (Int × Int) => (bnd (s_137.2, (Int.fmod s_137.1 s_137.2)) fun q_139 : (Int × Int) => (q_139.1, q_139.2))) (fun s_137 : (Int × Int) => True) (fun s_137 : (Int × Int) => s_137.2 ≠ 0) FU (q_136.1, q_136.2) ∧ (bnd (whlI (fun s_137 : (Int × Int) => (!decide (s_137.2 = (0 : Int)))) (fun s_137 : (Int × Int) => (bnd (s_137.2, (Int.fmod s_137.1 s_137.2)) fun q_139 : (Int × Int) => (q_139.1, q_139.2))) FU (q_136.1, q_136.2)) fun s_140 : (Int × Int) => L2.CDivN a0_top (max (1 : Int) s_140.1) ∧ L2.CDivN a1_bottom (max (1 : Int) s_140.1)))
theorem t26 {k : Nat} (a0_top : Int) (a1_bottom : Int) : ok26 a0_top a1_bottom → ∀ R, cl (k + 1) 26 [D.int a0_top, D.int a1_bottom] R = .ok ((eP D.int D.int) (f26 a0_top a1_bottom)) R := fun hok R => by
  rw [clE (d := d26) rfl]
  exact TQ.run (d := d26) (x := true) (v := f26 a0_top a1_bottom) rfl (TQ.at_ [.sh (D.int a0_top), .sh (D.int a1_bottom), .no, .no] rfl
    (TQ.par (v := (((a0_top.natAbs : Int), a1_bottom) : (Int × Int))) (fun q_136 => [D.int q_136.1, D.int q_136.2]) (TP.sh (TV.abs (TV.var rfl)) (fun _ => rfl) (TP.sh (TV.var rfl) (fun _ => rfl) TP.nil)) (fun q_136 => (TQ.at_ [.sh (D.int a0_top), .sh (D.int a1_bottom), .sh (D.int q_136.1), .sh (D.int q_136.2)] rfl (TQ.whl (s0 := (q_136.1, q_136.2)) (cond := (fun s_137 : (Int × Int) => (!decide (s_137.2 = (0 : Int))))) (next := (fun s_137 : (Int × Int) => (bnd (s_137.2, (Int.fmod s_137.1 s_137.2)) fun q_139 : (Int × Int) => (q_139.1, q_139.2)))) (fun s_137 js_138 => [.sh (D.int a0_top), .sh (D.int a1_bottom), .sh (D.int s_137.1), .sh (D.int s_137.2)]) [] rfl (fun s_137 js_138 => (TV.cmp (b1 := (!decide (s_137.2 = (0 : Int)))) (TV.var rfl) (TV.con rfl) rfl)) (fun s_137 js_138 => (TQ.par (v := ((s_137.2, (Int.fmod s_137.1 s_137.2)) : (Int × Int))) (fun q_139 => [D.int q_139.1, D.int q_139.2]) (TP.sh (TV.var rfl) (fun _ => rfl) (TP.sh (TV.mod (TV.int (TV.var rfl)) (TV.var rfl)) (fun _ => rfl) TP.nil)) (fun q_139 => (TQ.nilN (v := (q_139.1, q_139.2)) [] rfl)))) (fun s_140 js_141 => (TQ.retR (TV.tup (enc := (eP D.int D.int)) (v := ((Int.fdiv a0_top (max (1 : Int) s_140.1)), (Int.fdiv a1_bottom (max (1 : Int) s_140.1)))) (TVs.cons (TV.fdiv (TV.var rfl) (TV.max2 (TV.con rfl) (TV.var rfl))) (fun _ => rfl) (TVs.cons (TV.fdiv (TV.var rfl) (TV.max2 (TV.con rfl) (TV.var rfl))) (fun _ => rfl) TVs.nil)) rfl)))))))) (by unfold ok26 at hok; simpa only [true_and, and_true, implies_true, forall_const, and_assoc, and_self_left, bnd_true, foldOk_true, forOk_true, fwP_true, and_self, true_implies, pX_true, ForEOk_true] using hok) R
/-! least_height -/
noncomputable def f21 (a0_rows : (List (Int × Int))) (a1_row : Int) (a2_ahead : Int) : (Int × Int) :=
  (bnd ((gI a0_rows a1_row).1, (gI a0_rows a2_ahead).1) fun q_152 : (Int × Int) => (bnd (((gI a0_rows a1_row).2 + (4 : Int)), ((gI a0_rows a2_ahead).2 + (5 : Int))) fun q_153 : (Int × Int) => (f4 ((q_153.2 * q_152.1) - (q_153.1 * q_152.2)) (q_152.1 - q_152.2))))
def ok21 (a0_rows : (List (Int × Int))) (a1_row : Int) (a2_ahead : Int) : Prop :=
  okI a0_rows a1_row ∧ okI a0_rows a2_ahead ∧ (bnd ((gI a0_rows a1_row).1, (gI a0_rows a2_ahead).1) fun q_152 : (Int × Int) => okI a0_rows a1_row ∧ okI a0_rows a2_ahead ∧ (bnd (((gI a0_rows a1_row).2 + (4 : Int)), ((gI a0_rows a2_ahead).2 + (5 : Int))) fun q_153 : (Int × Int) => L2.CMul q_153.2 q_152.1 ∧ L2.CMul q_153.1 q_152.2 ∧ ok4 ((q_153.2 * q_152.1) - (q_153.1 * q_152.2)) (q_152.1 - q_152.2)))
theorem t21 {k : Nat} (a0_rows : (List (Int × Int))) (a1_row : Int) (a2_ahead : Int) : ok21 a0_rows a1_row a2_ahead → ∀ R, cl (k + 3) 21 [(eT (eP D.int D.int)) a0_rows, D.int a1_row, D.int a2_ahead] R = .ok ((eP D.int D.int) (f21 a0_rows a1_row a2_ahead)) R := fun hok R => by
  rw [clE (d := d21) rfl]
  exact TQ.run (d := d21) (x := true) (v := f21 a0_rows a1_row a2_ahead) rfl (TQ.at_ [.sh ((eT (eP D.int D.int)) a0_rows), .sh (D.int a1_row), .sh (D.int a2_ahead), .no, .no, .no, .no] rfl
    (TQ.par (v := (((gI a0_rows a1_row).1, (gI a0_rows a2_ahead).1) : (Int × Int))) (fun q_152 => [D.int q_152.1, D.int q_152.2]) (TP.sh (TV.prj (TV.idxT (TV.var rfl) (TV.var rfl)) rfl rfl) (fun _ => rfl) (TP.sh (TV.prj (TV.idxT (TV.var rfl) (TV.var rfl)) rfl rfl) (fun _ => rfl) TP.nil)) (fun q_152 => (TQ.at_ [.sh ((eT (eP D.int D.int)) a0_rows), .sh (D.int a1_row), .sh (D.int a2_ahead), .sh (D.int q_152.1), .sh (D.int q_152.2), .no, .no] rfl (TQ.par (v := ((((gI a0_rows a1_row).2 + (4 : Int)), ((gI a0_rows a2_ahead).2 + (5 : Int))) : (Int × Int))) (fun q_153 => [D.int q_153.1, D.int q_153.2]) (TP.sh (TV.add (TV.prj (TV.idxT (TV.var rfl) (TV.var rfl)) rfl rfl) (TV.con rfl)) (fun _ => rfl) (TP.sh (TV.add (TV.prj (TV.idxT (TV.var rfl) (TV.var rfl)) rfl rfl) (TV.con rfl)) (fun _ => rfl) TP.nil)) (fun q_153 => (TQ.at_ [.sh ((eT (eP D.int D.int)) a0_rows), .sh (D.int a1_row), .sh (D.int a2_ahead), .sh (D.int q_152.1), .sh (D.int q_152.2), .sh (D.int q_153.1), .sh (D.int q_153.2)] rfl (TQ.retR (TV.call (TVs.cons (TV.sub (TV.mul (TV.var rfl) (TV.var rfl)) (TV.mul (TV.var rfl) (TV.var rfl))) (fun _ => rfl) (TVs.cons (TV.sub (TV.var rfl) (TV.var rfl)) (fun _ => rfl) TVs.nil)) (t4 (k := k + 0) ((q_153.2 * q_152.1) - (q_153.1 * q_152.2)) (q_152.1 - q_152.2))))))))))) (by unfold ok21 at hok; simpa only [true_and, and_true, implies_true, forall_const, and_assoc, and_self_left, bnd_true, foldOk_true, forOk_true, fwP_true, and_self, true_implies, pX_true, ForEOk_true] using hok) R
/-! lowest_seen -/
noncomputable def f22 (a0_rows : (List (Int × Int))) (a1_row : Int) : (Int × Int) :=
  (bnd ((0 : Int), (1 : Int)) fun found_158 : (Int × Int) => (bnd (List.foldl (fun (s_159 : (Int × Int)) (ahead_161 : Int) => (bnd (f21 a0_rows a1_row ahead_161) fun high_162 : (Int × Int) => (bnd (if (decide ((0 : Int) < (f6 high_162 s_159))) = true then high_162 else s_159) fun found_163 : (Int × Int) => found_163))) found_158 (rng a1_row)) fun s_164 : (Int × Int) => s_164))
def ok22 (a0_rows : (List (Int × Int))) (a1_row : Int) : Prop :=
  ok10 a0_rows a1_row ∧ (bnd ((0 : Int), (1 : Int)) fun found_158 : (Int × Int) => okR a1_row ∧ FoldOk (fun (s_159 : (Int × Int)) (ahead_161 : Int) => (bnd (f21 a0_rows a1_row ahead_161) fun high_162 : (Int × Int) => (bnd (if (decide ((0 : Int) < (f6 high_162 s_159))) = true then high_162 else s_159) fun found_163 : (Int × Int) => found_163))) (fun (s_159 : (Int × Int)) (ahead_161 : Int) => ok21 a0_rows a1_row ahead_161 ∧ (bnd (f21 a0_rows a1_row ahead_161) fun high_162 : (Int × Int) => ok6 high_162 s_159)) found_158 (rng a1_row))
theorem t22 {k : Nat} (a0_rows : (List (Int × Int))) (a1_row : Int) : ok22 a0_rows a1_row → ∀ R, cl (k + 6) 22 [(eT (eP D.int D.int)) a0_rows, D.int a1_row] R = .ok ((eP D.int D.int) (f22 a0_rows a1_row)) R := fun hok R => by
  rw [clE (d := d22) rfl]
  exact TQ.run (d := d22) (x := true) (v := f22 a0_rows a1_row) rfl (TQ.at_ [.sh ((eT (eP D.int D.int)) a0_rows), .sh (D.int a1_row), .no, .no, .no] rfl
    (TQ.xpr (TV.call (TVs.cons (TV.var rfl) (fun _ => rfl) (TVs.cons (TV.var rfl) (fun _ => rfl) TVs.nil)) (t10 (k := k + 0) a0_rows a1_row)) (fun _ => rfl) (TQ.set (enc := (eP D.int D.int)) (TV.con rfl) (fun _ => rfl) (fun found_158 => (TQ.for_ (s0 := found_158) (step := (fun (s_159 : (Int × Int)) (ahead_161 : Int) => (bnd (f21 a0_rows a1_row ahead_161) fun high_162 : (Int × Int) => (bnd (if (decide ((0 : Int) < (f6 high_162 s_159))) = true then high_162 else s_159) fun found_163 : (Int × Int) => found_163)))) (fun s_159 js_160 => [.sh ((eT (eP D.int D.int)) a0_rows), .sh (D.int a1_row), .sh ((eP D.int D.int) s_159), nw (jg js_160 0), nw (jg js_160 1)]) [.no, .no] (TIs.rng (TV.var rfl)) rfl (fun s_159 js_160 ahead_161 => ⟨[.sh ((eT (eP D.int D.int)) a0_rows), .sh (D.int a1_row), .sh ((eP D.int D.int) s_159), .sh (D.int ahead_161), nw (jg js_160 1)], rfl, (TQ.set (enc := (eP D.int D.int)) (TV.call (TVs.cons (TV.var rfl) (fun _ => rfl) (TVs.cons (TV.var rfl) (fun _ => rfl) (TVs.cons (TV.var rfl) (fun _ => rfl) TVs.nil))) (t21 (k := k + 2) a0_rows a1_row ahead_161)) (fun _ => rfl) (fun high_162 => (TQ.set (enc := (eP D.int D.int)) (TV.ite (TV.cmp (b1 := (decide ((0 : Int) < (f6 high_162 s_159)))) (TV.call (TVs.cons (TV.var rfl) (fun _ => rfl) (TVs.cons (TV.var rfl) (fun _ => rfl) TVs.nil)) (t6 (k := k + 4) high_162 s_159)) (TV.con rfl) rfl) (TV.var rfl) (fun _ => rfl) (TV.var rfl) (fun _ => rfl)) (fun _ => rfl) (fun found_163 => (TQ.nilN (v := found_163) [.sh (D.int ahead_161), .sh ((eP D.int D.int) high_162)] rfl)))))⟩) (fun s_164 js_165 => (TQ.retR (TV.var rfl)))))))) (by unfold ok22 at hok; simpa only [true_and, and_true, implies_true, forall_const, and_assoc, and_self_left, bnd_true, foldOk_true, forOk_true, fwP_true, and_self, true_implies, pX_true, ForEOk_true] using hok) R
/-! check_ahead -/
noncomputable def f19 (a0_rows : (List (Int × Int))) (a1_row : Int) (a2_ahead : Int) : Unit :=
  ()
def ok19 (a0_rows : (List (Int × Int))) (a1_row : Int) (a2_ahead : Int) : Prop :=
  ok10 a0_rows a1_row ∧ (!(f1 a2_ahead (0 : Int) (a1_row - (1 : Int)))) = false
theorem t19 {k : Nat} (a0_rows : (List (Int × Int))) (a1_row : Int) (a2_ahead : Int) : ok19 a0_rows a1_row a2_ahead → ∀ R, cl (k + 6) 19 [(eT (eP D.int D.int)) a0_rows, D.int a1_row, D.int a2_ahead] R = .ok (eU (f19 a0_rows a1_row a2_ahead)) R := fun hok R => by
  rw [clE (d := d19) rfl]
  exact TQ.run (d := d19) (x := false) (v := f19 a0_rows a1_row a2_ahead) rfl (TQ.at_ [.sh ((eT (eP D.int D.int)) a0_rows), .sh (D.int a1_row), .sh (D.int a2_ahead)] rfl
    (TQ.xpr (TV.call (TVs.cons (TV.var rfl) (fun _ => rfl) (TVs.cons (TV.var rfl) (fun _ => rfl) TVs.nil)) (t10 (k := k + 0) a0_rows a1_row)) (fun _ => rfl) (TQ.iteR (b1 := (!(f1 a2_ahead (0 : Int) (a1_row - (1 : Int))))) (TV.not (TV.call (TVs.cons (TV.var rfl) (fun _ => rfl) (TVs.cons (TV.con rfl) (fun _ => rfl) (TVs.cons (TV.sub (TV.var rfl) (TV.con rfl)) (fun _ => rfl) TVs.nil))) (t1 (k := k + 3) a2_ahead (0 : Int) (a1_row - (1 : Int))))) (TQ.nilR rfl)))) (by unfold ok19 at hok; simpa only [true_and, and_true, implies_true, forall_const, and_assoc, and_self_left, bnd_true, foldOk_true, forOk_true, fwP_true, and_self, true_implies, pX_true, ForEOk_true] using hok) R
/-! minus -/
noncomputable def f5 (a0_one : (Int × Int)) (a1_other : (Int × Int)) : (Int × Int) :=
  (f4 ((a0_one.1 * a1_other.2) - (a1_other.1 * a0_one.2)) (a0_one.2 * a1_other.2))
def ok5 (a0_one : (Int × Int)) (a1_other : (Int × Int)) : Prop :=
  L2.CMul a0_one.1 a1_other.2 ∧ L2.CMul a1_other.1 a0_one.2 ∧ L2.CMul a0_one.2 a1_other.2 ∧ ok4 ((a0_one.1 * a1_other.2) - (a1_other.1 * a0_one.2)) (a0_one.2 * a1_other.2)
theorem t5 {k : Nat} (a0_one : (Int × Int)) (a1_other : (Int × Int)) : ok5 a0_one a1_other → ∀ R, cl (k + 3) 5 [(eP D.int D.int) a0_one, (eP D.int D.int) a1_other] R = .ok ((eP D.int D.int) (f5 a0_one a1_other)) R := fun hok R => by
  rw [clE (d := d5) rfl]
  exact TQ.run (d := d5) (x := true) (v := f5 a0_one a1_other) rfl (TQ.at_ [.sh ((eP D.int D.int) a0_one), .sh ((eP D.int D.int) a1_other)] rfl
    (TQ.retR (TV.call (TVs.cons (TV.sub (TV.mul (TV.prj (TV.var rfl) rfl rfl) (TV.prj (TV.var rfl) rfl rfl)) (TV.mul (TV.prj (TV.var rfl) rfl rfl) (TV.prj (TV.var rfl) rfl rfl))) (fun _ => rfl) (TVs.cons (TV.mul (TV.prj (TV.var rfl) rfl rfl) (TV.prj (TV.var rfl) rfl rfl)) (fun _ => rfl) TVs.nil)) (t4 (k := k + 0) ((a0_one.1 * a1_other.2) - (a1_other.1 * a0_one.2)) (a0_one.2 * a1_other.2))))) (by unfold ok5 at hok; simpa only [true_and, and_true, implies_true, forall_const, and_assoc, and_self_left, bnd_true, foldOk_true, forOk_true, fwP_true, and_self, true_implies, pX_true, ForEOk_true] using hok) R
/-! height_over -/
noncomputable def f20 (a0_rows : (List (Int × Int))) (a1_row : Int) (a2_ahead : Int) : (Int × Int) :=
  (f5 (f11 a0_rows a1_row a2_ahead) (f7 ((gI a0_rows a2_ahead).2)))
def ok20 (a0_rows : (List (Int × Int))) (a1_row : Int) (a2_ahead : Int) : Prop :=
  ok19 a0_rows a1_row a2_ahead ∧ ok11 a0_rows a1_row a2_ahead ∧ okI a0_rows a2_ahead ∧ ok5 (f11 a0_rows a1_row a2_ahead) (f7 ((gI a0_rows a2_ahead).2))
theorem t20 {k : Nat} (a0_rows : (List (Int × Int))) (a1_row : Int) (a2_ahead : Int) : ok20 a0_rows a1_row a2_ahead → ∀ R, cl (k + 7) 20 [(eT (eP D.int D.int)) a0_rows, D.int a1_row, D.int a2_ahead] R = .ok ((eP D.int D.int) (f20 a0_rows a1_row a2_ahead)) R := fun hok R => by
  rw [clE (d := d20) rfl]
  exact TQ.run (d := d20) (x := true) (v := f20 a0_rows a1_row a2_ahead) rfl (TQ.at_ [.sh ((eT (eP D.int D.int)) a0_rows), .sh (D.int a1_row), .sh (D.int a2_ahead)] rfl
    (TQ.xpr (TV.call (TVs.cons (TV.var rfl) (fun _ => rfl) (TVs.cons (TV.var rfl) (fun _ => rfl) (TVs.cons (TV.var rfl) (fun _ => rfl) TVs.nil))) (t19 (k := k + 0) a0_rows a1_row a2_ahead)) (fun _ => rfl) (TQ.retR (TV.call (TVs.cons (TV.call (TVs.cons (TV.var rfl) (fun _ => rfl) (TVs.cons (TV.var rfl) (fun _ => rfl) (TVs.cons (TV.var rfl) (fun _ => rfl) TVs.nil))) (t11 (k := k + 3) a0_rows a1_row a2_ahead)) (fun _ => rfl) (TVs.cons (TV.call (TVs.cons (TV.prj (TV.idxT (TV.var rfl) (TV.var rfl)) rfl rfl) (fun _ => rfl) TVs.nil) (t7 (k := k + 5) ((gI a0_rows a2_ahead).2))) (fun _ => rfl) TVs.nil)) (t5 (k := k + 3) (f11 a0_rows a1_row a2_ahead) (f7 ((gI a0_rows a2_ahead).2))))))) (by unfold ok20 at hok; simpa only [true_and, and_true, implies_true, forall_const, and_assoc, and_self_left, bnd_true, foldOk_true, forOk_true, fwP_true, and_self, true_implies, pX_true, ForEOk_true] using hok) R
/-! _law_raise -/
noncomputable def f29_v2 (a0_rows : (List (Int × Int))) (a1_row : Int) : Int :=
  (bnd (gI a0_rows a1_row) fun u_185 : (Int × Int) => (bnd (0 : Int) fun need_186 : Int => (bnd (List.foldl (fun (s_187 : Int) (y_189 : (Int × Int)) => (bnd (((y_189.2 + (5 : Int)) * u_185.1) - ((u_185.2 + (4 : Int)) * y_189.1)) fun short_190 : Int => (bnd (max s_187 (Int.fdiv ((short_190 + y_189.1) - (1 : Int)) y_189.1)) fun need_191 : Int => need_191))) need_186 (cut a0_rows none (some a1_row))) fun s_192 : Int => s_192)))
def ok29_v2 (a0_rows : (List (Int × Int))) (a1_row : Int) : Prop :=
  okI a0_rows a1_row ∧ (bnd (gI a0_rows a1_row) fun u_185 : (Int × Int) => (bnd (0 : Int) fun need_186 : Int => FoldOk (fun (s_187 : Int) (y_189 : (Int × Int)) => (bnd (((y_189.2 + (5 : Int)) * u_185.1) - ((u_185.2 + (4 : Int)) * y_189.1)) fun short_190 : Int => (bnd (max s_187 (Int.fdiv ((short_190 + y_189.1) - (1 : Int)) y_189.1)) fun need_191 : Int => need_191))) (fun (s_187 : Int) (y_189 : (Int × Int)) => L2.CMul (y_189.2 + (5 : Int)) u_185.1 ∧ L2.CMul (u_185.2 + (4 : Int)) y_189.1 ∧ (bnd (((y_189.2 + (5 : Int)) * u_185.1) - ((u_185.2 + (4 : Int)) * y_189.1)) fun short_190 : Int => L2.CDivN ((short_190 + y_189.1) - (1 : Int)) y_189.1)) need_186 (cut a0_rows none (some a1_row))))
theorem t29_v2 {k : Nat} (a0_rows : (List (Int × Int))) (a1_row : Int) : ok29_v2 a0_rows a1_row → ∀ R, cl (k + 1) 29 [(eL (eP D.int D.int)) a0_rows, D.int a1_row] R = .ok (D.int (f29_v2 a0_rows a1_row)) R := fun hok R => by
  rw [clE (d := d29) rfl]
  exact TQ.run (d := d29) (x := true) (v := f29_v2 a0_rows a1_row) rfl (TQ.at_ [.sh ((eL (eP D.int D.int)) a0_rows), .sh (D.int a1_row), .no, .no, .no, .no, .no, .no] rfl
    (TQ.unp (fun u_185 => [.sh ((eL (eP D.int D.int)) a0_rows), .sh (D.int a1_row), .no, .sh (D.int u_185.1), .sh (D.int u_185.2), .no, .no, .no]) (TV.idxL (TV.var rfl) (TV.var rfl)) (fun _ => rfl) (fun _ => rfl) (fun u_185 => (TQ.set (enc := D.int) (TV.con rfl) (fun _ => rfl) (fun need_186 => (TQ.for_ (s0 := need_186) (step := (fun (s_187 : Int) (y_189 : (Int × Int)) => (bnd (((y_189.2 + (5 : Int)) * u_185.1) - ((u_185.2 + (4 : Int)) * y_189.1)) fun short_190 : Int => (bnd (max s_187 (Int.fdiv ((short_190 + y_189.1) - (1 : Int)) y_189.1)) fun need_191 : Int => need_191)))) (fun s_187 js_188 => [.sh ((eL (eP D.int D.int)) a0_rows), .sh (D.int a1_row), .sh (D.int s_187), .sh (D.int u_185.1), .sh (D.int u_185.2), nw (jg js_188 0), nw (jg js_188 1), nw (jg js_188 2)]) [.no, .no, .no] (TIs.ex (TV.slcL (TV.var rfl) TN.no (TN.so (TV.var rfl))) (fun _ => rfl) rfl) rfl (fun s_187 js_188 y_189 => ⟨[.sh ((eL (eP D.int D.int)) a0_rows), .sh (D.int a1_row), .sh (D.int s_187), .sh (D.int u_185.1), .sh (D.int u_185.2), .sh (D.int y_189.1), .sh (D.int y_189.2), nw (jg js_188 2)], rfl, (TQ.set (enc := D.int) (TV.sub (TV.mul (TV.add (TV.var rfl) (TV.con rfl)) (TV.var rfl)) (TV.mul (TV.add (TV.var rfl) (TV.con rfl)) (TV.var rfl))) (fun _ => rfl) (fun short_190 => (TQ.set (enc := D.int) (TV.max2 (TV.var rfl) (TV.fdiv (TV.sub (TV.add (TV.var rfl) (TV.var rfl)) (TV.con rfl)) (TV.var rfl))) (fun _ => rfl) (fun need_191 => (TQ.nilN (v := need_191) [.sh (D.int y_189.1), .sh (D.int y_189.2), .sh (D.int short_190)] rfl)))))⟩) (fun s_192 js_193 => (TQ.retR (TV.var rfl))))))))) (by unfold ok29_v2 at hok; simpa only [true_and, and_true, implies_true, forall_const, and_assoc, and_self_left, bnd_true, foldOk_true, forOk_true, fwP_true, and_self, true_implies, pX_true, ForEOk_true] using hok) R
/-! _law_blocks -/
noncomputable def f27_v2 (a0_rows : (List (Int × Int))) (a1_row : Int) (a2_ahead : Int) (a3_floor : Int) : Bool :=
  (bnd ((gI a0_rows a1_row).1, (gI a0_rows a2_ahead).1) fun q_201 : (Int × Int) => (decide (((a3_floor + (4 : Int)) * q_201.2) < (((gI a0_rows a2_ahead).2 + (5 : Int)) * q_201.1))))
def ok27_v2 (a0_rows : (List (Int × Int))) (a1_row : Int) (a2_ahead : Int) (a3_floor : Int) : Prop :=
  okI a0_rows a1_row ∧ okI a0_rows a2_ahead ∧ (bnd ((gI a0_rows a1_row).1, (gI a0_rows a2_ahead).1) fun q_201 : (Int × Int) => L2.CMul (a3_floor + (4 : Int)) q_201.2 ∧ okI a0_rows a2_ahead ∧ L2.CMul ((gI a0_rows a2_ahead).2 + (5 : Int)) q_201.1)
theorem t27_v2 {k : Nat} (a0_rows : (List (Int × Int))) (a1_row : Int) (a2_ahead : Int) (a3_floor : Int) : ok27_v2 a0_rows a1_row a2_ahead a3_floor → ∀ R, cl (k + 1) 27 [(eL (eP D.int D.int)) a0_rows, D.int a1_row, D.int a2_ahead, D.int a3_floor] R = .ok (D.bl (f27_v2 a0_rows a1_row a2_ahead a3_floor)) R := fun hok R => by
  rw [clE (d := d27) rfl]
  exact TQ.run (d := d27) (x := true) (v := f27_v2 a0_rows a1_row a2_ahead a3_floor) rfl (TQ.at_ [.sh ((eL (eP D.int D.int)) a0_rows), .sh (D.int a1_row), .sh (D.int a2_ahead), .sh (D.int a3_floor), .no, .no] rfl
    (TQ.par (v := (((gI a0_rows a1_row).1, (gI a0_rows a2_ahead).1) : (Int × Int))) (fun q_201 => [D.int q_201.1, D.int q_201.2]) (TP.sh (TV.prj (TV.idxL (TV.var rfl) (TV.var rfl)) rfl rfl) (fun _ => rfl) (TP.sh (TV.prj (TV.idxL (TV.var rfl) (TV.var rfl)) rfl rfl) (fun _ => rfl) TP.nil)) (fun q_201 => (TQ.at_ [.sh ((eL (eP D.int D.int)) a0_rows), .sh (D.int a1_row), .sh (D.int a2_ahead), .sh (D.int a3_floor), .sh (D.int q_201.1), .sh (D.int q_201.2)] rfl (TQ.retR (TV.cmp (b1 := (decide (((a3_floor + (4 : Int)) * q_201.2) < (((gI a0_rows a2_ahead).2 + (5 : Int)) * q_201.1)))) (TV.mul (TV.add (TV.var rfl) (TV.con rfl)) (TV.var rfl)) (TV.mul (TV.add (TV.prj (TV.idxL (TV.var rfl) (TV.var rfl)) rfl rfl) (TV.con rfl)) (TV.var rfl)) rfl)))))) (by unfold ok27_v2 at hok; simpa only [true_and, and_true, implies_true, forall_const, and_assoc, and_self_left, bnd_true, foldOk_true, forOk_true, fwP_true, and_self, true_implies, pX_true, ForEOk_true] using hok) R
/-! _law_blockers -/
noncomputable def f28_v2 (a0_rows : (List (Int × Int))) (a1_row : Int) (a2_floor : Int) : (List Int) :=
  (List.map (fun ahead_202 : Int => ahead_202) (List.filter (fun ahead_202 : Int => (f27_v2 a0_rows a1_row ahead_202 a2_floor)) (rng a1_row)))
def ok28_v2 (a0_rows : (List (Int × Int))) (a1_row : Int) (a2_floor : Int) : Prop :=
  okR a1_row ∧ (∀ ahead_202 ∈ (rng a1_row), ok27_v2 a0_rows a1_row ahead_202 a2_floor)
theorem t28_v2 {k : Nat} (a0_rows : (List (Int × Int))) (a1_row : Int) (a2_floor : Int) : ok28_v2 a0_rows a1_row a2_floor → ∀ R, cl (k + 2) 28 [(eL (eP D.int D.int)) a0_rows, D.int a1_row, D.int a2_floor] R = .ok ((eT D.int) (f28_v2 a0_rows a1_row a2_floor)) R := fun hok R => by
  rw [clE (d := d28) rfl]
  exact TQ.run (d := d28) (x := true) (v := f28_v2 a0_rows a1_row a2_floor) rfl (TQ.at_ [.sh ((eL (eP D.int D.int)) a0_rows), .sh (D.int a1_row), .sh (D.int a2_floor), .no] rfl
    (TQ.retR (TV.tupleL (TV.lcC (enc := D.int) (f := (fun ahead_202 : Int => ahead_202)) (c := (fun ahead_202 : Int => (f27_v2 a0_rows a1_row ahead_202 a2_floor))) (TI.rng (TV.var rfl)) (fun ahead_202 => ⟨[.sh ((eL (eP D.int D.int)) a0_rows), .sh (D.int a1_row), .sh (D.int a2_floor), .sh (D.int ahead_202)], rfl, (TV.call (TVs.cons (TV.var rfl) (fun _ => rfl) (TVs.cons (TV.var rfl) (fun _ => rfl) (TVs.cons (TV.var rfl) (fun _ => rfl) (TVs.cons (TV.var rfl) (fun _ => rfl) TVs.nil)))) (t27_v2 (k := k + 0) a0_rows a1_row ahead_202 a2_floor)), (TV.var rfl), fun _ => rfl⟩))))) (by unfold ok28_v2 at hok; simpa only [true_and, and_true, implies_true, forall_const, and_assoc, and_self_left, bnd_true, foldOk_true, forOk_true, fwP_true, and_self, true_implies, pX_true, ForEOk_true] using hok) R
/-! _law_is_right -/
def vc30 (a0_bag : Unit) (a1_rows : (List (Int × Int))) (K : Bool → Prop) : Prop :=
  (bnd (fun (s_224 : Unit) (K_265 : (Fw Bool Unit → Prop)) => ((ok15 a1_rows ∧ okR (a1_rows.length : Int) ∧ (∀ row_226 ∈ (rng (a1_rows.length : Int)), okI a1_rows row_226 ∧ ok28 a1_rows row_226 ((gI a1_rows row_226).2))) ∧ (((!decide ((f15 a1_rows) = (List.map (fun row_226 : Int => row_226) (List.filter (fun row_226 : Int => (!decide ((f28 a1_rows row_226 ((gI a1_rows row_226).2)) = ([] : (List Int))))) (rng (a1_rows.length : Int)))))) = true → (K_265 (Fw.rt false))) ∧ ((!decide ((f15 a1_rows) = (List.map (fun row_226 : Int => row_226) (List.filter (fun row_226 : Int => (!decide ((f28 a1_rows row_226 ((gI a1_rows row_226).2)) = ([] : (List Int))))) (rng (a1_rows.length : Int)))))) = false → (drw (a1_rows.length : Int) fun d_227 => (bnd d_227 fun row_228 : Int => ((okI a1_rows row_228) ∧ (bnd (gI a1_rows row_228) fun u_229 : (Int × Int) => (bnd ((0 : Int), (1 : Int)) fun lowest_230 : (Int × Int) => (bnd (fun (s_236 : (Int × Int)) (K_261 : (Fw Bool Unit → Prop)) => ((ok22 a1_rows row_228) ∧ (((!decide ((f22 a1_rows row_228) = s_236)) = true → (K_261 (Fw.rt false))) ∧ ((!decide ((f22 a1_rows row_228) = s_236)) = false → (bnd (jnK (fun (s_241 : Unit) (K_257 : (Fw Bool Unit → Prop)) => (bnd ([] : (List (Int × Int))) fun led_243 : (List (Int × Int)) => (bnd (fun (s_249 : ((List (Int × Int)) × Int × Int)) (K_256 : (Fw Bool Unit → Prop)) => ((ok17 a1_rows) ∧ (((!decide ((f17 a1_rows) = (List.map (fun y_251 : (Int × Int) => y_251.2) s_249.1))) = true → (K_256 (Fw.rt false))) ∧ ((!decide ((f17 a1_rows) = (List.map (fun y_251 : (Int × Int) => y_251.2) s_249.1))) = false → ((okR (s_249.1.length : Int) ∧ (∀ row_252 ∈ (rng (s_249.1.length : Int)), okI s_249.1 row_252 ∧ ok28_v2 s_249.1 row_252 ((gI s_249.1 row_252).2))) ∧ (K_256 (Fw.rt ((List.map (fun row_252 : Int => (decide ((f28_v2 s_249.1 row_252 ((gI s_249.1 row_252).2)) = ([] : (List Int))))) (rng (s_249.1.length : Int))).all id)))))))) fun WR_268 => (∃ I_253 : List (Int × Int) → ((List (Int × Int)) × Int × Int) → Prop, I_253 [] (led_243, u_229.1, u_229.2) ∧ (∀ (pre_254 : List (Int × Int)) (y_246 : (Int × Int)) (post_255 : List (Int × Int)) (s_244 : ((List (Int × Int)) × Int × Int)), a1_rows = pre_254 ++ y_246 :: post_255 → I_253 pre_254 s_244 → (s_244.1.length < PySem.sizeLine ∧ (bnd (s_244.1 ++ [(y_246.1, y_246.2)]) fun led_247 : (List (Int × Int)) => ((ok29_v2 led_247 ((led_247.length : Int) - (1 : Int))) ∧ ((True) ∧ okS led_247 (-(1 : Int)) ∧ (bnd (sI led_247 (-(1 : Int)) (y_246.1, (y_246.2 + (f29_v2 led_247 ((led_247.length : Int) - (1 : Int)))))) fun led_248 : (List (Int × Int)) => ((lpK WR_268 K_257 (I_253 (pre_254 ++ [y_246]))) (Fw.nx (led_248, y_246.1, y_246.2))))))))) ∧ ∀ s_249 : ((List (Int × Int)) × Int × Int), I_253 a1_rows s_249 → WR_268 s_249 K_257)))) K_261) fun J_269 => (((decide ((0 : Int) < row_228)) = true → (drw row_228 fun d_238 => (bnd d_238 fun ahead_239 : Int => ((okI a1_rows ahead_239) ∧ (bnd (gI a1_rows ahead_239) fun u_240 : (Int × Int) => ((ok20 a1_rows row_228 ahead_239 ∧ L2.CMul (u_229.2 + (4 : Int)) u_240.1 ∧ L2.CMul u_240.2 u_229.1 ∧ ok26 (((u_229.2 + (4 : Int)) * u_240.1) - (u_240.2 * u_229.1)) u_229.1) ∧ (((!decide ((f20 a1_rows row_228 ahead_239) = (f26 (((u_229.2 + (4 : Int)) * u_240.1) - (u_240.2 * u_229.1)) u_229.1))) = true → (J_269 (Fw.rt false))) ∧ ((!decide ((f20 a1_rows row_228 ahead_239) = (f26 (((u_229.2 + (4 : Int)) * u_240.1) - (u_240.2 * u_229.1)) u_229.1))) = false → (J_269 (Fw.nx ())))))))))) ∧ ((decide ((0 : Int) < row_228)) = false → (J_269 (Fw.nx ()))))))))) fun WR_267 => (∃ I_258 : List (Int × Int) → (Int × Int) → Prop, I_258 [] lowest_230 ∧ (∀ (pre_259 : List (Int × Int)) (y_233 : (Int × Int)) (post_260 : List (Int × Int)) (s_231 : (Int × Int)), (cut a1_rows none (some row_228)) = pre_259 ++ y_233 :: post_260 → I_258 pre_259 s_231 → ((L2.CMul (y_233.2 + (5 : Int)) u_229.1 ∧ L2.CMul (u_229.2 + (4 : Int)) y_233.1 ∧ ok26 (((y_233.2 + (5 : Int)) * u_229.1) - ((u_229.2 + (4 : Int)) * y_233.1)) (u_229.1 - y_233.1)) ∧ (bnd (f26 (((y_233.2 + (5 : Int)) * u_229.1) - ((u_229.2 + (4 : Int)) * y_233.1)) (u_229.1 - y_233.1)) fun told_234 : (Int × Int) => ((L2.CMul told_234.1 s_231.2 ∧ L2.CMul s_231.1 told_234.2) ∧ (bnd (if (decide ((s_231.1 * told_234.2) < (told_234.1 * s_231.2))) = true then told_234 else s_231) fun lowest_235 : (Int × Int) => ((lpK WR_267 K_265 (I_258 (pre_259 ++ [y_233]))) (Fw.nx lowest_235))))))) ∧ ∀ s_236 : (Int × Int), I_258 (cut a1_rows none (some row_228)) s_236 → WR_267 s_236 K_265))))))))))) fun WR_266 => ((okR (a1_rows.length : Int)) ∧ (∃ I_262 : List Int → Unit → Prop, I_262 [] () ∧ (∀ (pre_263 : List Int) (row_222 : Int) (post_264 : List Int) (s_220 : Unit), (rng (a1_rows.length : Int)) = pre_263 ++ row_222 :: post_264 → I_262 pre_263 s_220 → ((okI a1_rows row_222 ∧ ok28 a1_rows row_222 ((gI a1_rows row_222).2)) ∧ (bnd (f28 a1_rows row_222 ((gI a1_rows row_222).2)) fun some_223 : (List Int) => ((ok14 a1_rows row_222 ∧ ((!decide ((f14 a1_rows row_222) = some_223)) = false → ok13 a1_rows row_222)) ∧ ((((!decide ((f14 a1_rows row_222) = some_223)) || (!decide ((f13 a1_rows row_222) = (decide (some_223 = ([] : (List Int))))))) = true → ((lpK WR_266 (rtK (α := Unit) K) (I_262 (pre_263 ++ [row_222]))) (Fw.rt false))) ∧ (((!decide ((f14 a1_rows row_222) = some_223)) || (!decide ((f13 a1_rows row_222) = (decide (some_223 = ([] : (List Int))))))) = false → ((ok18 a1_rows row_222 ∧ ok29 a1_rows row_222) ∧ (((!decide ((f18 a1_rows row_222) = (f29 a1_rows row_222))) = true → ((lpK WR_266 (rtK (α := Unit) K) (I_262 (pre_263 ++ [row_222]))) (Fw.rt false))) ∧ ((!decide ((f18 a1_rows row_222) = (f29 a1_rows row_222))) = false → ((lpK WR_266 (rtK (α := Unit) K) (I_262 (pre_263 ++ [row_222]))) (Fw.nx ()))))))))))) ∧ ∀ s_224 : Unit, I_262 (rng (a1_rows.length : Int)) s_224 → WR_266 s_224 (rtK (α := Unit) K))))
theorem w30 {k : Nat} (a0_bag : Unit) (a1_rows : (List (Int × Int))) : WC VB (cl (k + 8)) 30 [(eH 1) a0_bag, (eT (eP D.int D.int)) a1_rows] D.bl (vc30 a0_bag a1_rows) := fun K hK R hR => by
  rw [clE (d := d30) rfl]
  exact WB.run (d := d30) (γ := Unit) (S := fun _ _ => []) (x := true) rfl (WB.at_ [.sh ((eH 1) a0_bag), .sh ((eT (eP D.int D.int)) a1_rows), .no, .no, .no, .no, .no, .no, .no, .no, .no, .no] rfl
    (WB.for_ (s0 := ()) (fun s_220 js_221 => [.sh ((eH 1) a0_bag), .sh ((eT (eP D.int D.int)) a1_rows), nw (jg js_221 0), .no, .no, nw (jg js_221 1), .no, .no, .no, .no, .no, .no]) [.no, .no] (WIs.pureP (q := okR (a1_rows.length : Int)) (TIs.rng (TV.lenT (TV.var rfl))) (by intro h; simpa only [true_and, and_true, implies_true, forall_const, and_assoc, and_self_left, bnd_true, foldOk_true, forOk_true, fwP_true, and_self, true_implies, pX_true, ForEOk_true] using h)) rfl (fun s_220 js_221 row_222 => ⟨[.sh ((eH 1) a0_bag), .sh ((eT (eP D.int D.int)) a1_rows), .sh (D.int row_222), .no, .no, nw (jg js_221 1), .no, .no, .no, .no, .no, .no], rfl, (WB.set (enc := (eT D.int)) (WE.pureP (q := okI a1_rows row_222 ∧ ok28 a1_rows row_222 ((gI a1_rows row_222).2)) (TV.call (TVs.cons (TV.var rfl) (fun _ => rfl) (TVs.cons (TV.var rfl) (fun _ => rfl) (TVs.cons (TV.prj (TV.idxT (TV.var rfl) (TV.var rfl)) rfl rfl) (fun _ => rfl) TVs.nil))) (t28 (k := k + 5) a1_rows row_222 ((gI a1_rows row_222).2))) (by intro h; simpa only [true_and, and_true, implies_true, forall_const, and_assoc, and_self_left, bnd_true, foldOk_true, forOk_true, fwP_true, and_self, true_implies, pX_true, ForEOk_true] using h)) (fun _ => rfl) (fun some_223 => (WB.iteE (WE.pureP (q := ok14 a1_rows row_222 ∧ ((!decide ((f14 a1_rows row_222) = some_223)) = false → ok13 a1_rows row_222)) (TV.or (TV.ne (by decide) (TV.call (TVs.cons (TV.var rfl) (fun _ => rfl) (TVs.cons (TV.var rfl) (fun _ => rfl) TVs.nil)) (t14 (k := k + 1) a1_rows row_222)) (TV.var rfl)) (TO.one (TV.neRB (TV.call (TVs.cons (TV.var rfl) (fun _ => rfl) (TVs.cons (TV.var rfl) (fun _ => rfl) TVs.nil)) (t13 (k := k + 1) a1_rows row_222)) (TV.eq (by decide) (TV.var rfl) (TV.tup TVs.nil rfl))) (fun _ => rfl))) (by intro h; simpa only [true_and, and_true, implies_true, forall_const, and_assoc, and_self_left, bnd_true, foldOk_true, forOk_true, fwP_true, and_self, true_implies, pX_true, ForEOk_true] using h)) (WB.at_ [.sh ((eH 1) a0_bag), .sh ((eT (eP D.int D.int)) a1_rows), .sh (D.int row_222), .no, .no, .sh ((eT D.int) some_223), .no, .no, .no, .no, .no, .no] rfl (WB.ret (WE.pureT (TV.con rfl) (by simp only [true_and, and_true, implies_true, forall_const, and_assoc, and_self_left, bnd_true, foldOk_true, forOk_true, fwP_true, and_self, true_implies, pX_true, ForEOk_true])))) (WB.at_ [.sh ((eH 1) a0_bag), .sh ((eT (eP D.int D.int)) a1_rows), .sh (D.int row_222), .no, .no, .sh ((eT D.int) some_223), .no, .no, .no, .no, .no, .no] rfl (WB.iteE (WE.pureP (q := ok18 a1_rows row_222 ∧ ok29 a1_rows row_222) (TV.cmp (b1 := (!decide ((f18 a1_rows row_222) = (f29 a1_rows row_222)))) (TV.call (TVs.cons (TV.var rfl) (fun _ => rfl) (TVs.cons (TV.var rfl) (fun _ => rfl) TVs.nil)) (t18 (k := k + 1) a1_rows row_222)) (TV.call (TVs.cons (TV.var rfl) (fun _ => rfl) (TVs.cons (TV.var rfl) (fun _ => rfl) TVs.nil)) (t29 (k := k + 6) a1_rows row_222)) rfl) (by intro h; simpa only [true_and, and_true, implies_true, forall_const, and_assoc, and_self_left, bnd_true, foldOk_true, forOk_true, fwP_true, and_self, true_implies, pX_true, ForEOk_true] using h)) (WB.ret (WE.pureT (TV.con rfl) (by simp only [true_and, and_true, implies_true, forall_const, and_assoc, and_self_left, bnd_true, foldOk_true, forOk_true, fwP_true, and_self, true_implies, pX_true, ForEOk_true]))) (WB.nil (v := ()) [.sh (D.int row_222), .sh ((eT D.int) some_223)] rfl))))))⟩) (fun s_224 js_225 => (WB.iteE (WE.pureP (q := ok15 a1_rows ∧ okR (a1_rows.length : Int) ∧ (∀ row_226 ∈ (rng (a1_rows.length : Int)), okI a1_rows row_226 ∧ ok28 a1_rows row_226 ((gI a1_rows row_226).2))) (TV.ne (by decide) (TV.call (TVs.cons (TV.var rfl) (fun _ => rfl) TVs.nil) (t15 (k := k + 2) a1_rows)) (TV.tupleL (TV.lcC (enc := D.int) (f := (fun row_226 : Int => row_226)) (c := (fun row_226 : Int => (!decide ((f28 a1_rows row_226 ((gI a1_rows row_226).2)) = ([] : (List Int)))))) (TI.rng (TV.lenT (TV.var rfl))) (fun row_226 => ⟨[.sh ((eH 1) a0_bag), .sh ((eT (eP D.int D.int)) a1_rows), .sh (D.int row_226), .no, .no, nw (jg js_225 1), .no, .no, .no, .no, .no, .no], (setC_of (by simp only [tgs, tgss, List.any_cons, List.any_nil, List.append, List.cons_append, List.nil_append, List.append_nil, gS, sS, isOw_sh, isOw_no, isOw_nw, Bool.or_self, Bool.or_false, Bool.false_or]) rfl), (TV.ne (by decide) (TV.call (TVs.cons (TV.var rfl) (fun _ => rfl) (TVs.cons (TV.var rfl) (fun _ => rfl) (TVs.cons (TV.prj (TV.idxT (TV.var rfl) (TV.var rfl)) rfl rfl) (fun _ => rfl) TVs.nil))) (t28 (k := k + 5) a1_rows row_226 ((gI a1_rows row_226).2))) (TV.tup TVs.nil rfl)), (TV.var rfl), fun _ => rfl⟩)))) (by intro h; simpa only [true_and, and_true, implies_true, forall_const, and_assoc, and_self_left, bnd_true, foldOk_true, forOk_true, fwP_true, and_self, true_implies, pX_true, ForEOk_true] using h)) (WB.ret (WE.pureT (TV.con rfl) (by simp only [true_and, and_true, implies_true, forall_const, and_assoc, and_self_left, bnd_true, foldOk_true, forOk_true, fwP_true, and_self, true_implies, pX_true, ForEOk_true]))) (WB.set (enc := D.int) (WE.wk (w' := fun K => drw (a1_rows.length : Int) K) (WE.call1 (TVs.cons (TV.var rfl) (fun _ => rfl) (TVs.cons (TV.lenT (TV.var rfl)) (fun _ => rfl) TVs.nil)) (w_draw (k := k + 6) (a1_rows.length : Int))) (fun K h => (by simpa only [true_and, and_true, implies_true, forall_const, and_assoc, and_self_left, bnd_true, foldOk_true, forOk_true, fwP_true, and_self, true_implies, pX_true, ForEOk_true] using h))) (fun _ => rfl) (fun row_228 => (WB.at_ [.sh ((eH 1) a0_bag), .sh ((eT (eP D.int D.int)) a1_rows), .sh (D.int row_228), .no, .no, nw (jg js_225 1), .no, .no, .no, .no, .no, .no] rfl (WB.unp (enc := (eP D.int D.int)) (fun u_229 => [.sh ((eH 1) a0_bag), .sh ((eT (eP D.int D.int)) a1_rows), .sh (D.int row_228), .no, .no, nw (jg js_225 1), .sh (D.int u_229.1), .sh (D.int u_229.2), .no, .no, .no, .no]) (WE.pureP (q := okI a1_rows row_228) (TV.idxT (TV.var rfl) (TV.var rfl)) (by intro h; simpa only [true_and, and_true, implies_true, forall_const, and_assoc, and_self_left, bnd_true, foldOk_true, forOk_true, fwP_true, and_self, true_implies, pX_true, ForEOk_true] using h)) (fun _ => rfl) (fun _ => rfl) (fun u_229 => (WB.set (enc := (eP D.int D.int)) (WE.pureT (TV.tup (enc := (eP D.int D.int)) (v := ((0 : Int), (1 : Int))) (TVs.cons (TV.con rfl) (fun _ => rfl) (TVs.cons (TV.con rfl) (fun _ => rfl) TVs.nil)) rfl) (by simp only [true_and, and_true, implies_true, forall_const, and_assoc, and_self_left, bnd_true, foldOk_true, forOk_true, fwP_true, and_self, true_implies, pX_true, ForEOk_true])) (fun _ => rfl) (fun lowest_230 => (WB.for_ (s0 := lowest_230) (fun s_231 js_232 => [.sh ((eH 1) a0_bag), .sh ((eT (eP D.int D.int)) a1_rows), .sh (D.int row_228), .sh ((eP D.int D.int) s_231), .no, nw (jg js_225 1), .sh (D.int u_229.1), .sh (D.int u_229.2), nw (jg js_232 0), nw (jg js_232 1), nw (jg js_232 2), .no]) [.no, .no, .no] (WIs.pureT (TIs.ex (TV.slcT (TV.var rfl) TN.no (TN.so (TV.var rfl))) (fun _ => rfl) rfl) (by simp only [true_and, and_true, implies_true, forall_const, and_assoc, and_self_left, bnd_true, foldOk_true, forOk_true, fwP_true, and_self, true_implies, pX_true, ForEOk_true])) rfl (fun s_231 js_232 y_233 => ⟨[.sh ((eH 1) a0_bag), .sh ((eT (eP D.int D.int)) a1_rows), .sh (D.int row_228), .sh ((eP D.int D.int) s_231), .no, nw (jg js_225 1), .sh (D.int u_229.1), .sh (D.int u_229.2), .sh (D.int y_233.1), .sh (D.int y_233.2), nw (jg js_232 2), .no], rfl, (WB.set (enc := (eP D.int D.int)) (WE.pureP (q := L2.CMul (y_233.2 + (5 : Int)) u_229.1 ∧ L2.CMul (u_229.2 + (4 : Int)) y_233.1 ∧ ok26 (((y_233.2 + (5 : Int)) * u_229.1) - ((u_229.2 + (4 : Int)) * y_233.1)) (u_229.1 - y_233.1)) (TV.call (TVs.cons (TV.sub (TV.mul (TV.add (TV.var rfl) (TV.con rfl)) (TV.var rfl)) (TV.mul (TV.add (TV.var rfl) (TV.con rfl)) (TV.var rfl))) (fun _ => rfl) (TVs.cons (TV.sub (TV.var rfl) (TV.var rfl)) (fun _ => rfl) TVs.nil)) (t26 (k := k + 6) (((y_233.2 + (5 : Int)) * u_229.1) - ((u_229.2 + (4 : Int)) * y_233.1)) (u_229.1 - y_233.1))) (by intro h; simpa only [true_and, and_true, implies_true, forall_const, and_assoc, and_self_left, bnd_true, foldOk_true, forOk_true, fwP_true, and_self, true_implies, pX_true, ForEOk_true] using h)) (fun _ => rfl) (fun told_234 => (WB.set (enc := (eP D.int D.int)) (WE.pureP (q := L2.CMul told_234.1 s_231.2 ∧ L2.CMul s_231.1 told_234.2) (TV.ite (TV.cmp (b1 := (decide ((s_231.1 * told_234.2) < (told_234.1 * s_231.2)))) (TV.mul (TV.prj (TV.var rfl) rfl rfl) (TV.prj (TV.var rfl) rfl rfl)) (TV.mul (TV.prj (TV.var rfl) rfl rfl) (TV.prj (TV.var rfl) rfl rfl)) rfl) (TV.var rfl) (fun _ => rfl) (TV.var rfl) (fun _ => rfl)) (by intro h; simpa only [true_and, and_true, implies_true, forall_const, and_assoc, and_self_left, bnd_true, foldOk_true, forOk_true, fwP_true, and_self, true_implies, pX_true, ForEOk_true] using h)) (fun _ => rfl) (fun lowest_235 => (WB.nil (v := lowest_235) [.sh (D.int y_233.1), .sh (D.int y_233.2), .sh ((eP D.int D.int) told_234)] rfl)))))⟩) (fun s_236 js_237 => (WB.iteE (WE.pureP (q := ok22 a1_rows row_228) (TV.ne (by decide) (TV.call (TVs.cons (TV.var rfl) (fun _ => rfl) (TVs.cons (TV.var rfl) (fun _ => rfl) TVs.nil)) (t22 (k := k + 1) a1_rows row_228)) (TV.var rfl)) (by intro h; simpa only [true_and, and_true, implies_true, forall_const, and_assoc, and_self_left, bnd_true, foldOk_true, forOk_true, fwP_true, and_self, true_implies, pX_true, ForEOk_true] using h)) (WB.ret (WE.pureT (TV.con rfl) (by simp only [true_and, and_true, implies_true, forall_const, and_assoc, and_self_left, bnd_true, foldOk_true, forOk_true, fwP_true, and_self, true_implies, pX_true, ForEOk_true]))) (WB.iteJ (S1 := (fun s_241 js_242 => [.sh ((eH 1) a0_bag), .sh ((eT (eP D.int D.int)) a1_rows), .sh (D.int row_228), .sh ((eP D.int D.int) s_236), .no, nw (jg js_225 1), .sh (D.int u_229.1), .sh (D.int u_229.2), nw (jg js_242 0), nw (jg js_242 1), nw (jg js_237 2), nw (jg js_242 2)])) (WE.pureT (TV.cmp (b1 := (decide ((0 : Int) < row_228))) (TV.var rfl) (TV.con rfl) rfl) (by simp only [true_and, and_true, implies_true, forall_const, and_assoc, and_self_left, bnd_true, foldOk_true, forOk_true, fwP_true, and_self, true_implies, pX_true, ForEOk_true])) (WB.set (enc := D.int) (WE.wk (w' := fun K => drw row_228 K) (WE.call1 (TVs.cons (TV.var rfl) (fun _ => rfl) (TVs.cons (TV.var rfl) (fun _ => rfl) TVs.nil)) (w_draw (k := k + 6) row_228)) (fun K h => (by simpa only [true_and, and_true, implies_true, forall_const, and_assoc, and_self_left, bnd_true, foldOk_true, forOk_true, fwP_true, and_self, true_implies, pX_true, ForEOk_true] using h))) (fun _ => rfl) (fun ahead_239 => (WB.unp (enc := (eP D.int D.int)) (fun u_240 => [.sh ((eH 1) a0_bag), .sh ((eT (eP D.int D.int)) a1_rows), .sh (D.int row_228), .sh ((eP D.int D.int) s_236), .no, nw (jg js_225 1), .sh (D.int u_229.1), .sh (D.int u_229.2), .sh (D.int u_240.1), .sh (D.int u_240.2), nw (jg js_237 2), .sh (D.int ahead_239)]) (WE.pureP (q := okI a1_rows ahead_239) (TV.idxT (TV.var rfl) (TV.var rfl)) (by intro h; simpa only [true_and, and_true, implies_true, forall_const, and_assoc, and_self_left, bnd_true, foldOk_true, forOk_true, fwP_true, and_self, true_implies, pX_true, ForEOk_true] using h)) (fun _ => rfl) (fun _ => rfl) (fun u_240 => (WB.iteE (WE.pureP (q := ok20 a1_rows row_228 ahead_239 ∧ L2.CMul (u_229.2 + (4 : Int)) u_240.1 ∧ L2.CMul u_240.2 u_229.1 ∧ ok26 (((u_229.2 + (4 : Int)) * u_240.1) - (u_240.2 * u_229.1)) u_229.1) (TV.ne (by decide) (TV.call (TVs.cons (TV.var rfl) (fun _ => rfl) (TVs.cons (TV.var rfl) (fun _ => rfl) (TVs.cons (TV.var rfl) (fun _ => rfl) TVs.nil))) (t20 (k := k + 0) a1_rows row_228 ahead_239)) (TV.call (TVs.cons (TV.sub (TV.mul (TV.add (TV.var rfl) (TV.con rfl)) (TV.var rfl)) (TV.mul (TV.var rfl) (TV.var rfl))) (fun _ => rfl) (TVs.cons (TV.var rfl) (fun _ => rfl) TVs.nil)) (t26 (k := k + 6) (((u_229.2 + (4 : Int)) * u_240.1) - (u_240.2 * u_229.1)) u_229.1))) (by intro h; simpa only [true_and, and_true, implies_true, forall_const, and_assoc, and_self_left, bnd_true, foldOk_true, forOk_true, fwP_true, and_self, true_implies, pX_true, ForEOk_true] using h)) (WB.ret (WE.pureT (TV.con rfl) (by simp only [true_and, and_true, implies_true, forall_const, and_assoc, and_self_left, bnd_true, foldOk_true, forOk_true, fwP_true, and_self, true_implies, pX_true, ForEOk_true]))) (WB.nil (v := ()) [.sh (D.int u_240.1), .sh (D.int u_240.2), .sh (D.int ahead_239)] rfl)))))) (WB.nil (v := ()) [jg js_237 0, jg js_237 1, .no] rfl) (fun s_241 js_242 => (WB.ow (enc := (eL (eP D.int D.int))) (WE.pureT (TV.lst (enc := (eL (eP D.int D.int))) (v := ([] : (List (Int × Int)))) TVs.nil rfl) (by simp only [true_and, and_true, implies_true, forall_const, and_assoc, and_self_left, bnd_true, foldOk_true, forOk_true, fwP_true, and_self, true_implies, pX_true, ForEOk_true])) (fun _ => rfl) (fun led_243 => (WB.for_ (s0 := (led_243, u_229.1, u_229.2)) (fun s_244 js_245 => [.sh ((eH 1) a0_bag), .sh ((eT (eP D.int D.int)) a1_rows), .sh (D.int row_228), .sh ((eP D.int D.int) s_236), .ow ((eL (eP D.int D.int)) s_244.1), nw (jg js_225 1), .sh (D.int s_244.2.1), .sh (D.int s_244.2.2), nw (jg js_242 0), nw (jg js_242 1), nw (jg js_237 2), nw (jg js_242 2)]) [] (WIs.pureT (TIs.ex (TV.var rfl) (fun _ => rfl) rfl) (by simp only [true_and, and_true, implies_true, forall_const, and_assoc, and_self_left, bnd_true, foldOk_true, forOk_true, fwP_true, and_self, true_implies, pX_true, ForEOk_true])) rfl (fun s_244 js_245 y_246 => ⟨[.sh ((eH 1) a0_bag), .sh ((eT (eP D.int D.int)) a1_rows), .sh (D.int row_228), .sh ((eP D.int D.int) s_236), .ow ((eL (eP D.int D.int)) s_244.1), nw (jg js_225 1), .sh (D.int y_246.1), .sh (D.int y_246.2), nw (jg js_242 0), nw (jg js_242 1), nw (jg js_237 2), nw (jg js_242 2)], rfl, (WB.app (enc := (eP D.int D.int)) (l := s_244.1) rfl (WE.pureT (TV.tup (enc := (eP D.int D.int)) (v := (y_246.1, y_246.2)) (TVs.cons (TV.var rfl) (fun _ => rfl) (TVs.cons (TV.var rfl) (fun _ => rfl) TVs.nil)) rfl) (by simp only [true_and, and_true, implies_true, forall_const, and_assoc, and_self_left, bnd_true, foldOk_true, forOk_true, fwP_true, and_self, true_implies, pX_true, ForEOk_true])) (fun _ => rfl) (fun led_247 => (WB.sub (enc := (eP D.int D.int)) (l := led_247) rfl (TV.wk (TV.neg (TV.con rfl)) (q := True) (by intro h; simpa only [true_and, and_true, implies_true, forall_const, and_assoc, and_self_left, bnd_true, foldOk_true, forOk_true, fwP_true, and_self, true_implies, pX_true, ForEOk_true] using h)) (WE.pureP (q := ok29_v2 led_247 ((led_247.length : Int) - (1 : Int))) (TV.tup (enc := (eP D.int D.int)) (v := (y_246.1, (y_246.2 + (f29_v2 led_247 ((led_247.length : Int) - (1 : Int)))))) (TVs.cons (TV.var rfl) (fun _ => rfl) (TVs.cons (TV.add (TV.var rfl) (TV.callb (q := ok29_v2 led_247 ((led_247.length : Int) - (1 : Int))) (TVb.cons (TV.own rfl) (TVb.cons (TV.sub (TV.lenL (TV.own rfl)) (TV.con rfl)) TVb.nil)) (nrs_cons (e := (eL (eP D.int D.int))) led_247 (nrs_cons (e := D.int) ((led_247.length : Int) - (1 : Int)) nrs_nil)) (t29_v2 (k := k + 6) led_247 ((led_247.length : Int) - (1 : Int))))) (fun _ => rfl) TVs.nil)) rfl) (by intro h; simpa only [true_and, and_true, implies_true, forall_const, and_assoc, and_self_left, bnd_true, foldOk_true, forOk_true, fwP_true, and_self, true_implies, pX_true, ForEOk_true] using h)) (fun _ => rfl) (fun led_248 => (WB.nil (v := (led_248, y_246.1, y_246.2)) [] rfl)))))⟩) (fun s_249 js_250 => (WB.iteE (WE.pureP (q := ok17 a1_rows) (TV.ne (by decide) (TV.call (TVs.cons (TV.var rfl) (fun _ => rfl) TVs.nil) (t17 (k := k + 2) a1_rows)) (TV.tupleL (TV.lc (enc := D.int) (f := (fun y_251 : (Int × Int) => y_251.2)) (TI.ex (TV.own rfl) rfl) (fun y_251 => ⟨[.sh ((eH 1) a0_bag), .sh ((eT (eP D.int D.int)) a1_rows), .sh (D.int row_228), .sh ((eP D.int D.int) s_236), .ow ((eL (eP D.int D.int)) s_249.1), nw (jg js_225 1), .sh (D.int y_251.1), .sh (D.int y_251.2), nw (jg js_242 0), nw (jg js_242 1), nw (jg js_237 2), nw (jg js_242 2)], rfl, (TV.var rfl), fun _ => rfl⟩)))) (by intro h; simpa only [true_and, and_true, implies_true, forall_const, and_assoc, and_self_left, bnd_true, foldOk_true, forOk_true, fwP_true, and_self, true_implies, pX_true, ForEOk_true] using h)) (WB.ret (WE.pureT (TV.con rfl) (by simp only [true_and, and_true, implies_true, forall_const, and_assoc, and_self_left, bnd_true, foldOk_true, forOk_true, fwP_true, and_self, true_implies, pX_true, ForEOk_true]))) (WB.esc (WB.ret (WE.pureP (q := okR (s_249.1.length : Int) ∧ (∀ row_252 ∈ (rng (s_249.1.length : Int)), okI s_249.1 row_252 ∧ ok28_v2 s_249.1 row_252 ((gI s_249.1 row_252).2))) (TV.all (TV.lc (enc := D.bl) (f := (fun row_252 : Int => (decide ((f28_v2 s_249.1 row_252 ((gI s_249.1 row_252).2)) = ([] : (List Int)))))) (TI.rng (TV.lenL (TV.var rfl))) (fun row_252 => ⟨[.sh ((eH 1) a0_bag), .sh ((eT (eP D.int D.int)) a1_rows), .sh (D.int row_252), .sh ((eP D.int D.int) s_236), .sh ((eL (eP D.int D.int)) s_249.1), nw (jg js_225 1), .sh (D.int s_249.2.1), .sh (D.int s_249.2.2), nw (jg js_242 0), nw (jg js_242 1), nw (jg js_237 2), nw (jg js_242 2)], rfl, (TV.eq (by decide) (TV.call (TVs.cons (TV.var rfl) (fun _ => rfl) (TVs.cons (TV.var rfl) (fun _ => rfl) (TVs.cons (TV.prj (TV.idxL (TV.var rfl) (TV.var rfl)) rfl rfl) (fun _ => rfl) TVs.nil))) (t28_v2 (k := k + 5) s_249.1 row_252 ((gI s_249.1 row_252).2))) (TV.tup TVs.nil rfl)), fun _ => rfl⟩))) (by intro h; simpa only [true_and, and_true, implies_true, forall_const, and_assoc, and_self_left, bnd_true, foldOk_true, forOk_true, fwP_true, and_self, true_implies, pX_true, ForEOk_true] using h))))))))))))))))))))))))) (K := K) (by unfold vc30 at hK; exact hK) hR
/-! law -/
def vclaw : Prop :=
  ((ok13 [((2 : Int), (0 : Int)), ((4 : Int), (0 : Int))] (1 : Int) ∧ ((!decide ((f13 [((2 : Int), (0 : Int)), ((4 : Int), (0 : Int))] (1 : Int)) = false)) = false → ok18 [((2 : Int), (0 : Int)), ((4 : Int), (0 : Int))] (1 : Int))) ∧ ((((!decide ((f13 [((2 : Int), (0 : Int)), ((4 : Int), (0 : Int))] (1 : Int)) = false)) || (!decide ((f18 [((2 : Int), (0 : Int)), ((4 : Int), (0 : Int))] (1 : Int)) = (6 : Int)))) = true → ((rtK (α := Unit) (fun v : Bool => v = true)) (Fw.rt false))) ∧ (((!decide ((f13 [((2 : Int), (0 : Int)), ((4 : Int), (0 : Int))] (1 : Int)) = false)) || (!decide ((f18 [((2 : Int), (0 : Int)), ((4 : Int), (0 : Int))] (1 : Int)) = (6 : Int)))) = false → ((ok17 [((2 : Int), (0 : Int)), ((4 : Int), (0 : Int))]) ∧ (((!decide ((f17 [((2 : Int), (0 : Int)), ((4 : Int), (0 : Int))]) = [(0 : Int), (6 : Int)])) = true → ((rtK (α := Unit) (fun v : Bool => v = true)) (Fw.rt false))) ∧ ((!decide ((f17 [((2 : Int), (0 : Int)), ((4 : Int), (0 : Int))]) = [(0 : Int), (6 : Int)])) = false → (bnd (fun (s_347 : Unit) (K_352 : (Fw Bool Unit → Prop)) => (K_352 (Fw.rt true))) fun WR_353 => ((okR (5 : Int)) ∧ (∃ I_349 : List Int → Unit → Prop, I_349 [] () ∧ (∀ (pre_350 : List Int) (lap_328 : Int) (post_351 : List Int) (s_326 : Unit), (rng (5 : Int)) = pre_350 ++ lap_328 :: post_351 → I_349 pre_350 s_326 → (bnd (0 : Int) fun far_329 : Int => (bnd ([] : (List (Int × Int))) fun rows_330 : (List (Int × Int)) => (bnd (fun (s_339 : (Int × (List (Int × Int)))) (K_345 : (Fw Bool Unit → Prop)) => (vc30 () s_339.2 fun r_341 : Bool => (((!r_341) = true → (K_345 (Fw.rt false))) ∧ ((!r_341) = false → (K_345 (Fw.nx ())))))) fun WR_354 => (drw (7 : Int) fun d_331 => (okR ((1 : Int) + d_331) ∧ (∃ I_342 : List Int → (Int × (List (Int × Int))) → Prop, I_342 [] (far_329, rows_330) ∧ (∀ (pre_343 : List Int) (turn_334 : Int) (post_344 : List Int) (s_332 : (Int × (List (Int × Int)))), (rng ((1 : Int) + d_331)) = pre_343 ++ turn_334 :: post_344 → I_342 pre_343 s_332 → (drw (5 : Int) fun d_335 => (bnd ((s_332.1 + (1 : Int)) + d_335) fun far_336 : Int => (drw (30 : Int) fun d_337 => (s_332.2.length < PySem.sizeLine ∧ (bnd (s_332.2 ++ [(far_336, (d_337 - (8 : Int)))]) fun rows_338 : (List (Int × Int)) => ((lpK WR_354 (lpK WR_353 (rtK (α := Unit) (fun v : Bool => v = true)) (I_349 (pre_350 ++ [lap_328]))) (I_342 (pre_343 ++ [turn_334]))) (Fw.nx (far_336, rows_338))))))))) ∧ ∀ s_339 : (Int × (List (Int × Int))), I_342 (rng ((1 : Int) + d_331)) s_339 → WR_354 s_339 (lpK WR_353 (rtK (α := Unit) (fun v : Bool => v = true)) (I_349 (pre_350 ++ [lap_328])))))))))) ∧ ∀ s_347 : Unit, I_349 (rng (5 : Int)) s_347 → WR_353 s_347 (rtK (α := Unit) (fun v : Bool => v = true)))))))))))
theorem answers (h : vclaw) : Answers defs FU 70 31 := by
  intro ns hn
  obtain ⟨R1, e0, hb⟩ := w_make (k := 68) (ns := ns)
  have h0 : ∃ R', exec (cl 69) FU (.set 1 (.ex (.call 23 (.cons (.var 0) .nil)))) ([D.frz (ns.map D.int)].map Sl.sh ++ List.replicate (d31.N.length - 1) Sl.no) [] = .ok (.nx, [.sh (D.frz (ns.map D.int)), .sh ((eH 1) ()), .no, .no, .no, .no]) R' ∧ VB R' := by
    refine ⟨R1, ?_, hb⟩
    have e1 : ev (cl 69) (.call 23 (.cons (.var 0) .nil)) ([D.frz (ns.map D.int)].map Sl.sh ++ List.replicate (d31.N.length - 1) Sl.no) [] = .ok (.ref 1) R1 := e0
    simp only [exec, evSE, stk_call, e1, Res.bind]
    rfl
  obtain ⟨v, R', e, q⟩ := WB.first (VB := VB) (x := true) (d := d31) (γ := Unit) (S := fun _ _ => []) (encr := D.bl) (args := [D.frz (ns.map D.int)]) rfl rfl h0
    (WB.iteE (WE.pureP (q := ok13 [((2 : Int), (0 : Int)), ((4 : Int), (0 : Int))] (1 : Int) ∧ ((!decide ((f13 [((2 : Int), (0 : Int)), ((4 : Int), (0 : Int))] (1 : Int)) = false)) = false → ok18 [((2 : Int), (0 : Int)), ((4 : Int), (0 : Int))] (1 : Int))) (TV.or (TV.isnB (TV.call (TVs.cons (TV.conv (enc' := (eT (eP D.int D.int))) (v' := [((2 : Int), (0 : Int)), ((4 : Int), (0 : Int))]) (TV.tup (enc := (eP (eP D.int D.int) (eP D.int D.int))) (v := (((2 : Int), (0 : Int)), ((4 : Int), (0 : Int)))) (TVs.cons (TV.tup (enc := (eP D.int D.int)) (v := ((2 : Int), (0 : Int))) (TVs.cons (TV.con rfl) (fun _ => rfl) (TVs.cons (TV.con rfl) (fun _ => rfl) TVs.nil)) rfl) (fun _ => rfl) (TVs.cons (TV.tup (enc := (eP D.int D.int)) (v := ((4 : Int), (0 : Int))) (TVs.cons (TV.con rfl) (fun _ => rfl) (TVs.cons (TV.con rfl) (fun _ => rfl) TVs.nil)) rfl) (fun _ => rfl) TVs.nil)) rfl) rfl) (fun _ => rfl) (TVs.cons (TV.con rfl) (fun _ => rfl) TVs.nil)) (t13 (k := 63) [((2 : Int), (0 : Int)), ((4 : Int), (0 : Int))] (1 : Int)))) (TO.one (TV.cmp (b1 := (!decide ((f18 [((2 : Int), (0 : Int)), ((4 : Int), (0 : Int))] (1 : Int)) = (6 : Int)))) (TV.call (TVs.cons (TV.conv (enc' := (eT (eP D.int D.int))) (v' := [((2 : Int), (0 : Int)), ((4 : Int), (0 : Int))]) (TV.tup (enc := (eP (eP D.int D.int) (eP D.int D.int))) (v := (((2 : Int), (0 : Int)), ((4 : Int), (0 : Int)))) (TVs.cons (TV.tup (enc := (eP D.int D.int)) (v := ((2 : Int), (0 : Int))) (TVs.cons (TV.con rfl) (fun _ => rfl) (TVs.cons (TV.con rfl) (fun _ => rfl) TVs.nil)) rfl) (fun _ => rfl) (TVs.cons (TV.tup (enc := (eP D.int D.int)) (v := ((4 : Int), (0 : Int))) (TVs.cons (TV.con rfl) (fun _ => rfl) (TVs.cons (TV.con rfl) (fun _ => rfl) TVs.nil)) rfl) (fun _ => rfl) TVs.nil)) rfl) rfl) (fun _ => rfl) (TVs.cons (TV.con rfl) (fun _ => rfl) TVs.nil)) (t18 (k := 63) [((2 : Int), (0 : Int)), ((4 : Int), (0 : Int))] (1 : Int))) (TV.con rfl) rfl) (fun _ => rfl))) (by intro h; simpa only [true_and, and_true, implies_true, forall_const, and_assoc, and_self_left, bnd_true, foldOk_true, forOk_true, fwP_true, and_self, true_implies, pX_true, ForEOk_true] using h)) (WB.ret (WE.pureT (TV.con rfl) (by simp only [true_and, and_true, implies_true, forall_const, and_assoc, and_self_left, bnd_true, foldOk_true, forOk_true, fwP_true, and_self, true_implies, pX_true, ForEOk_true]))) (WB.iteE (WE.pureP (q := ok17 [((2 : Int), (0 : Int)), ((4 : Int), (0 : Int))]) (TV.ne (by decide) (TV.call (TVs.cons (TV.conv (enc' := (eT (eP D.int D.int))) (v' := [((2 : Int), (0 : Int)), ((4 : Int), (0 : Int))]) (TV.tup (enc := (eP (eP D.int D.int) (eP D.int D.int))) (v := (((2 : Int), (0 : Int)), ((4 : Int), (0 : Int)))) (TVs.cons (TV.tup (enc := (eP D.int D.int)) (v := ((2 : Int), (0 : Int))) (TVs.cons (TV.con rfl) (fun _ => rfl) (TVs.cons (TV.con rfl) (fun _ => rfl) TVs.nil)) rfl) (fun _ => rfl) (TVs.cons (TV.tup (enc := (eP D.int D.int)) (v := ((4 : Int), (0 : Int))) (TVs.cons (TV.con rfl) (fun _ => rfl) (TVs.cons (TV.con rfl) (fun _ => rfl) TVs.nil)) rfl) (fun _ => rfl) TVs.nil)) rfl) rfl) (fun _ => rfl) TVs.nil) (t17 (k := 64) [((2 : Int), (0 : Int)), ((4 : Int), (0 : Int))])) (TV.conv (enc' := (eT D.int)) (v' := [(0 : Int), (6 : Int)]) (TV.tup (enc := (eP D.int D.int)) (v := ((0 : Int), (6 : Int))) (TVs.cons (TV.con rfl) (fun _ => rfl) (TVs.cons (TV.con rfl) (fun _ => rfl) TVs.nil)) rfl) rfl)) (by intro h; simpa only [true_and, and_true, implies_true, forall_const, and_assoc, and_self_left, bnd_true, foldOk_true, forOk_true, fwP_true, and_self, true_implies, pX_true, ForEOk_true] using h)) (WB.at_ [.sh (D.frz (ns.map D.int)), .sh ((eH 1) ()), .no, .no, .no, .no] rfl (WB.ret (WE.pureT (TV.con rfl) (by simp only [true_and, and_true, implies_true, forall_const, and_assoc, and_self_left, bnd_true, foldOk_true, forOk_true, fwP_true, and_self, true_implies, pX_true, ForEOk_true])))) (WB.at_ [.sh (D.frz (ns.map D.int)), .sh ((eH 1) ()), .no, .no, .no, .no] rfl (WB.for_ (s0 := ()) (fun s_326 js_327 => [.sh (D.frz (ns.map D.int)), .sh ((eH 1) ()), nw (jg js_327 0), nw (jg js_327 1), nw (jg js_327 2), jg js_327 3]) [.no, .no, .no, .no] (WIs.pureP (q := okR (5 : Int)) (TIs.rng (TV.con rfl)) (by intro h; simpa only [true_and, and_true, implies_true, forall_const, and_assoc, and_self_left, bnd_true, foldOk_true, forOk_true, fwP_true, and_self, true_implies, pX_true, ForEOk_true] using h)) rfl (fun s_326 js_327 lap_328 => ⟨[.sh (D.frz (ns.map D.int)), .sh ((eH 1) ()), .sh (D.int lap_328), nw (jg js_327 1), nw (jg js_327 2), jg js_327 3], rfl, (WB.par2 (WPc.sh (enc := D.int) (WE.pureT (TV.con rfl) (by simp only [true_and, and_true, implies_true, forall_const, and_assoc, and_self_left, bnd_true, foldOk_true, forOk_true, fwP_true, and_self, true_implies, pX_true, ForEOk_true])) (fun _ => rfl)) (WPc.ow (enc := (eL (eP D.int D.int))) (WE.pureT (TV.lst (enc := (eL (eP D.int D.int))) (v := ([] : (List (Int × Int)))) TVs.nil rfl) (by simp only [true_and, and_true, implies_true, forall_const, and_assoc, and_self_left, bnd_true, foldOk_true, forOk_true, fwP_true, and_self, true_implies, pX_true, ForEOk_true])) (fun _ => rfl)) (fun far_329 rows_330 => (WB.at_ [.sh (D.frz (ns.map D.int)), .sh ((eH 1) ()), .sh (D.int lap_328), nw (jg js_327 1), .sh (D.int far_329), .ow ((eL (eP D.int D.int)) rows_330)] rfl (WB.for_ (s0 := (far_329, rows_330)) (fun s_332 js_333 => [.sh (D.frz (ns.map D.int)), .sh ((eH 1) ()), .sh (D.int lap_328), nw (jg js_333 0), .sh (D.int s_332.1), .ow ((eL (eP D.int D.int)) s_332.2)]) [jg js_327 1] (WIs.rng (WE.add (WE.pureT (TV.con rfl) (by simp only [true_and, and_true, implies_true, forall_const, and_assoc, and_self_left, bnd_true, foldOk_true, forOk_true, fwP_true, and_self, true_implies, pX_true, ForEOk_true])) (WE.wk (w' := fun K => drw (7 : Int) K) (WE.call1 (TVs.cons (TV.var rfl) (fun _ => rfl) (TVs.cons (TV.con rfl) (fun _ => rfl) TVs.nil)) (w_draw (k := 68) (7 : Int))) (fun K h => (by simpa only [true_and, and_true, implies_true, forall_const, and_assoc, and_self_left, bnd_true, foldOk_true, forOk_true, fwP_true, and_self, true_implies, pX_true, ForEOk_true] using h))))) rfl (fun s_332 js_333 turn_334 => ⟨[.sh (D.frz (ns.map D.int)), .sh ((eH 1) ()), .sh (D.int lap_328), .sh (D.int turn_334), .sh (D.int s_332.1), .ow ((eL (eP D.int D.int)) s_332.2)], rfl, (WB.set (enc := D.int) (WE.add (WE.pureT (TV.add (TV.var rfl) (TV.con rfl)) (by simp only [true_and, and_true, implies_true, forall_const, and_assoc, and_self_left, bnd_true, foldOk_true, forOk_true, fwP_true, and_self, true_implies, pX_true, ForEOk_true])) (WE.wk (w' := fun K => drw (5 : Int) K) (WE.call1 (TVs.cons (TV.var rfl) (fun _ => rfl) (TVs.cons (TV.con rfl) (fun _ => rfl) TVs.nil)) (w_draw (k := 68) (5 : Int))) (fun K h => (by simpa only [true_and, and_true, implies_true, forall_const, and_assoc, and_self_left, bnd_true, foldOk_true, forOk_true, fwP_true, and_self, true_implies, pX_true, ForEOk_true] using h)))) (fun _ => rfl) (fun far_336 => (WB.app (enc := (eP D.int D.int)) (l := s_332.2) rfl (WE.tup2 (WE.pureT (TV.var rfl) (by simp only [true_and, and_true, implies_true, forall_const, and_assoc, and_self_left, bnd_true, foldOk_true, forOk_true, fwP_true, and_self, true_implies, pX_true, ForEOk_true])) (fun _ => rfl) (WE.sub (WE.wk (w' := fun K => drw (30 : Int) K) (WE.call1 (TVs.cons (TV.var rfl) (fun _ => rfl) (TVs.cons (TV.con rfl) (fun _ => rfl) TVs.nil)) (w_draw (k := 68) (30 : Int))) (fun K h => (by simpa only [true_and, and_true, implies_true, forall_const, and_assoc, and_self_left, bnd_true, foldOk_true, forOk_true, fwP_true, and_self, true_implies, pX_true, ForEOk_true] using h))) (WE.pureT (TV.con rfl) (by simp only [true_and, and_true, implies_true, forall_const, and_assoc, and_self_left, bnd_true, foldOk_true, forOk_true, fwP_true, and_self, true_implies, pX_true, ForEOk_true]))) (fun _ => rfl)) (fun _ => rfl) (fun rows_338 => (WB.nil (v := (far_336, rows_338)) [.sh (D.int turn_334)] rfl)))))⟩) (fun s_339 js_340 => (WB.iteE (WE.not (WE.wk (w' := fun K => vc30 () s_339.2 K) (WE.call1 (TVs.cons (TV.var rfl) (fun _ => rfl) (TVs.cons (TV.tupleL (TV.own rfl)) (fun _ => rfl) TVs.nil)) (w30 (k := 61) () s_339.2)) (fun K h => (by simpa only [true_and, and_true, implies_true, forall_const, and_assoc, and_self_left, bnd_true, foldOk_true, forOk_true, fwP_true, and_self, true_implies, pX_true, ForEOk_true] using h)))) (WB.ret (WE.pureT (TV.con rfl) (by simp only [true_and, and_true, implies_true, forall_const, and_assoc, and_self_left, bnd_true, foldOk_true, forOk_true, fwP_true, and_self, true_implies, pX_true, ForEOk_true]))) (WB.nil (v := ()) [.sh (D.int lap_328), jg js_340 0, .sh (D.int s_339.1), .ow ((eL (eP D.int D.int)) s_339.2)] rfl)))))))⟩) (fun s_347 js_348 => (WB.ret (WE.pureT (TV.con rfl) (by simp only [true_and, and_true, implies_true, forall_const, and_assoc, and_self_left, bnd_true, foldOk_true, forOk_true, fwP_true, and_self, true_implies, pX_true, ForEOk_true])))))))) (K := fun v => v = true) (by unfold vclaw at h; exact h)
  refine ⟨R', ?_⟩
  show cl (69 + 1) 31 [.frz (ns.map D.int)] [] = _
  rw [clE (d := d31) rfl, e, q]
end Lw

end
section
namespace Lw
open Cw
variable {α : Type} {e : α → D} {lt : α → α → Bool}
theorem insN_perm (x : α) : ∀ l : List α, (insN lt x l).Perm (x :: l)
  | [] => List.Perm.refl _
  | y :: l => by
    unfold insN
    split
    · exact List.Perm.refl _
    · exact ((insN_perm x l).cons y).trans (List.Perm.swap x y l)
theorem foldN_perm : ∀ (l acc : List α), (l.foldl (fun acc x => insN lt x acc) acc).Perm (acc ++ l)
  | [], acc => by simp
  | x :: l, acc => by
    rw [List.foldl_cons]
    refine (foldN_perm l _).trans ?_
    refine ((insN_perm x acc).append_right l).trans ?_
    rw [List.cons_append]
    exact List.perm_middle.symm
theorem sortN_perm (l : List α) : (sortN lt l).Perm l := by simpa [sortN] using foldN_perm (lt := lt) l []
theorem lt2_irr (h : LT2 e lt) (x : α) : lt x x = false := by
  rw [← h.lt]; exact dlt_irr _ (h.cm x x)
theorem lt2_tr (h : LT2 e lt) {x y z : α} (h1 : lt x y = true) (h2 : lt y z = true) : lt x z = true := by
  rw [← h.lt] at h1 h2 ⊢
  exact dlt_tr _ _ _ (h.cm _ _) (h.cm _ _) (h.cm _ _) h1 h2
theorem lt2_as (h : LT2 e lt) {x y : α} (h1 : lt x y = true) : lt y x = false := by
  cases q : lt y x
  · rfl
  · have := lt2_tr h h1 q
    rw [lt2_irr h] at this
    cases this
theorem insN_srt (h : LT2 e lt) (x : α) : ∀ {l : List α}, (l.Pairwise fun a b => lt b a = false) → (insN lt x l).Pairwise fun a b => lt b a = false
  | [], _ => List.pairwise_singleton _ _
  | y :: l, hl => by
    obtain ⟨h1, h2⟩ := List.pairwise_cons.mp hl
    unfold insN
    split
    · rename_i q
      refine List.pairwise_cons.mpr ⟨fun z hz => ?_, hl⟩
      rcases List.mem_cons.mp hz with rfl | hz
      · exact lt2_as h q
      · cases w : lt z x
        · rfl
        · have := lt2_tr h w q
          rw [h1 z hz] at this
          cases this
    · rename_i q
      refine List.pairwise_cons.mpr ⟨fun z hz => ?_, insN_srt h x h2⟩
      rcases List.mem_cons.mp ((insN_perm x l).mem_iff.mp hz) with rfl | hz
      · simpa using q
      · exact h1 z hz
theorem foldN_srt (h : LT2 e lt) : ∀ (l acc : List α), (acc.Pairwise fun a b => lt b a = false) → (l.foldl (fun acc x => insN lt x acc) acc).Pairwise fun a b => lt b a = false
  | [], _, ha => ha
  | x :: l, acc, ha => by
    rw [List.foldl_cons]
    exact foldN_srt h l _ (insN_srt h x ha)
theorem sortN_srt (h : LT2 e lt) (l : List α) : (sortN lt l).Pairwise fun a b => lt b a = false := foldN_srt h l [] List.Pairwise.nil
theorem ltL_tri : ∀ {x y : List Int}, ltL ltI x y = false → ltL ltI y x = false → x = y
  | [], [], _, _ => rfl
  | [], _ :: _, h, _ => by simp [ltL] at h
  | _ :: _, [], _, h => by simp [ltL] at h
  | x :: xs, y :: ys, h1, h2 => by
    unfold ltL at h1 h2
    by_cases q : x = y
    · rw [if_pos q] at h1
      rw [if_pos q.symm] at h2
      rw [q, ltL_tri h1 h2]
    · rw [if_neg q] at h1
      rw [if_neg (Ne.symm q)] at h2
      simp only [ltI, decide_eq_false_iff_not] at h1 h2
      omega
/-! enumerated -/
theorem enumI_eq [Inhabited α] : ∀ (k : Nat) (l : List α), enumI k l = (List.range l.length).map fun i => (((k + i : Nat) : Int), gI l (i : Int))
  | _, [] => rfl
  | k, x :: l => by
    rw [enumI, enumI_eq (k + 1) l, List.length_cons, List.range_succ_eq_map, List.map_cons, List.map_map]
    refine congr (congrArg List.cons ?_) (List.map_congr_left fun i hi => ?_)
    · have : gI (x :: l) ((0 : Nat) : Int) = (x :: l)[0]'(by simp) := gI_nat (by simp)
      rw [this]
      rfl
    have hi := List.mem_range.mp hi
    have a : gI (x :: l) ((i + 1 : Nat) : Int) = (x :: l)[i + 1]'(by simp; omega) := gI_nat (by simp; omega)
    have b : gI l (i : Int) = l[i] := gI_nat hi
    simp only [Function.comp_apply]
    rw [b, show (i.succ : Int) = ((i + 1 : Nat) : Int) from rfl, a, List.getElem_cons_succ]
    simp only [Prod.mk.injEq, and_true]
    omega
theorem rng_eq (n : Nat) : rng (n : Int) = (List.range n).map fun i : Nat => (i : Int) := by
  unfold rng ir
  rw [Int.toNat_natCast]
  refine List.map_congr_left fun i _ => ?_
  omega
end Lw

end
section
/-! Nm: the last item, enumerate, min of tuples, ranges cut short. -/
namespace Lw
open Cw PySem L2
section
variable {α β : Type}
theorem ixN_last {n : Nat} (h : 0 < n) : ixN n (-1) = some (n - 1) := by
  unfold ixN
  rw [if_neg (by decide), if_pos (by omega)]
  congr 1
  omega
theorem okI_last {l : List α} (h : l ≠ []) : okI l (-1) := by
  have := List.length_pos_iff.mpr h
  unfold okI L2.atI
  rw [ixN_last this]
  show (l[l.length - 1]?).isSome = true
  rw [List.getElem?_eq_getElem (by omega)]
  rfl
theorem okS_last {l : List α} (h : l ≠ []) : okS l (-1) := by
  unfold okS
  rw [ixN_last (List.length_pos_iff.mpr h)]
  rfl
theorem gI_snoc [Inhabited α] (l : List α) (x : α) : gI (l ++ [x]) (-1) = x := by
  unfold gI L2.atI
  rw [ixN_last (by simp)]
  show ((l ++ [x])[(l ++ [x]).length - 1]?).getD default = x
  simp
theorem sI_snoc (l : List α) (x v : α) : sI (l ++ [x]) (-1) v = l ++ [v] := by
  unfold sI
  rw [ixN_last (by simp)]
  show (l ++ [x]).set ((l ++ [x]).length - 1) v = l ++ [v]
  simp
theorem cut_drop {l : List α} (h : l ≠ []) : cut l none (some (-1)) = l.take (l.length - 1) := by
  have := List.length_pos_iff.mpr h
  unfold cut
  have e : HT.sIx l.length l.length (some (-1)) = l.length - 1 := by
    show (if (-1 : Int) < 0 then ((-1 : Int) + (l.length : Int)).toNat else min (-1 : Int).toNat l.length) = _
    rw [if_pos (by decide)]
    omega
  rw [e]
  rfl
theorem enumI_length : ∀ (l : List α) (i : Nat), (enumI i l).length = l.length
  | [], _ => rfl
  | x :: l, i => by rw [enumI, List.length_cons, enumI_length l, List.length_cons]
theorem enumI_split : ∀ {l : List α} {i : Nat} {pre post : List (Int × α)} {y : Int × α}, enumI i l = pre ++ y :: post → y.1 = (i : Int) + pre.length ∧ l[pre.length]? = some y.2
  | [], i, pre, post, y, h => by
    rw [enumI] at h
    cases pre <;> simp at h
  | x :: l, i, [], post, y, h => by
    rw [enumI, List.nil_append] at h
    cases h
    exact ⟨by simp, rfl⟩
  | x :: l, i, z :: pre, post, y, h => by
    rw [enumI, List.cons_append] at h
    injection h with h1 h2
    obtain ⟨a, b⟩ := enumI_split h2
    refine ⟨?_, by simpa using b⟩
    rw [a, List.length_cons]
    omega
theorem mem_flags : ∀ {l : List Bool} {i : Nat} {x : Int}, x ∈ ((enumI i l).filter fun y => y.2).map (fun y => y.1) ↔ ∃ j : Nat, x = (i : Int) + j ∧ l[j]? = some true
  | [], i, x => by simp [enumI]
  | b :: l, i, x => by
    have ih := mem_flags (l := l) (i := i + 1) (x := x)
    rw [enumI, List.filter_cons]
    constructor
    · intro h
      cases b with
      | true =>
        rw [if_pos rfl, List.map_cons] at h
        rcases List.mem_cons.mp h with h | h
        · exact ⟨0, by simpa using h, rfl⟩
        · obtain ⟨j, h1, h2⟩ := ih.mp h
          exact ⟨j + 1, by omega, by simpa using h2⟩
      | false =>
        rw [if_neg (by simp)] at h
        obtain ⟨j, h1, h2⟩ := ih.mp h
        exact ⟨j + 1, by omega, by simpa using h2⟩
    · rintro ⟨j, h1, h2⟩
      cases j with
      | zero =>
        have : b = true := by simpa using h2
        subst this
        rw [if_pos rfl, List.map_cons]
        exact List.mem_cons.mpr (.inl (by simpa using h1))
      | succ j =>
        have := ih.mpr ⟨j, by omega, by simpa using h2⟩
        split
        · rw [List.map_cons]
          exact List.mem_cons_of_mem _ this
        · exact this
theorem foldl_ext_pre {f g : β → α → β} (P : List α → β → Prop) : ∀ {xs pre : List α} {s : β}, P pre s → (∀ pre' x post s, pre ++ xs = pre' ++ x :: post → P pre' s → f s x = g s x ∧ P (pre' ++ [x]) (g s x)) → xs.foldl f s = xs.foldl g s
  | [], _, _, _, _ => rfl
  | x :: xs, pre, s, h, hs => by
    obtain ⟨h1, h2⟩ := hs pre x xs s rfl h
    rw [List.foldl_cons, List.foldl_cons, h1]
    exact foldl_ext_pre P (pre := pre ++ [x]) h2 fun pre' y post s e => hs pre' y post s (by rw [← e]; simp)
theorem foldMin {e : α → D} {lt : α → α → Bool} (h : LT2 e lt) : ∀ (l : List α) (d : α), (l.foldl (fun a y => if lt y a = true then y else a) d) ∈ d :: l ∧ ∀ y ∈ d :: l, lt y (l.foldl (fun a y => if lt y a = true then y else a) d) = false
  | [], d => ⟨List.mem_cons_self, fun y hy => by
    have : y = d := by simpa using hy
    subst this
    exact lt2_irr h _⟩
  | z :: l, d => by
    rw [List.foldl_cons]
    obtain ⟨h1, h2⟩ := foldMin h l (if lt z d = true then z else d)
    generalize hm : l.foldl (fun a y => if lt y a = true then y else a) (if lt z d = true then z else d) = m at h1 h2
    have h3 := h2 _ List.mem_cons_self
    refine ⟨?_, fun y hy => ?_⟩
    · rcases List.mem_cons.mp h1 with h | h
      · rw [h]
        split
        · exact List.mem_cons_of_mem _ List.mem_cons_self
        · exact List.mem_cons_self
      · exact List.mem_cons_of_mem _ (List.mem_cons_of_mem _ h)
    · rcases List.mem_cons.mp hy with rfl | hy
      · split at h3
        · rename_i q
          cases w : lt y m with
          | false => rfl
          | true =>
            have := lt2_tr h q w
            rw [h3] at this
            cases this
        · exact h3
      · rcases List.mem_cons.mp hy with rfl | hy
        · split at h3
          · exact h3
          · rename_i q
            cases w : lt y m with
            | false => rfl
            | true =>
              have q : lt y d = false := by simpa using q
              cases v : lt d y with
              | true =>
                have := lt2_tr h v w
                rw [h3] at this
                cases this
              | false =>
                have e1 := dlt_tri (e y) (e d) (h.cm _ _) (by rw [h.lt]; exact q) (by rw [h.lt]; exact v)
                rw [← h.lt, e1, h.lt, h3] at w
                cases w
        · exact h2 y (List.mem_cons_of_mem _ hy)
theorem minN_sort [Inhabited α] {e : α → D} {lt : α → α → Bool} (h : LT2 e lt) (inj : ∀ x y, e x = e y → x = y) {l : List α} (hl : l ≠ []) : sortN lt l ≠ [] ∧ gI (sortN lt l) 0 = minN lt l := by
  have hp := sortN_perm (lt := lt) l
  have hs := sortN_srt h l
  cases q : sortN lt l with
  | nil =>
    rw [q] at hp
    exact absurd hp.symm.eq_nil hl
  | cons x t =>
    refine ⟨by simp, ?_⟩
    rw [q] at hp hs
    have hg : gI (x :: t) 0 = x := gI_nat (l := x :: t) (j := 0) (by simp)
    rw [hg]
    cases l with
    | nil => exact absurd rfl hl
    | cons d l =>
      obtain ⟨h1, h2⟩ := foldMin h l d
      show x = l.foldl (fun a y => if lt y a = true then y else a) d
      generalize l.foldl (fun a y => if lt y a = true then y else a) d = m at h1 h2
      have a := h2 x (hp.mem_iff.mp List.mem_cons_self)
      have b : lt m x = false := by
        rcases List.mem_cons.mp (hp.mem_iff.mpr h1) with rfl | hm
        · exact lt2_irr h _
        · exact (List.pairwise_cons.mp hs).1 m hm
      exact inj _ _ (dlt_tri (e x) (e m) (h.cm _ _) (by rw [h.lt]; exact a) (by rw [h.lt]; exact b))
theorem rng_below {n k : Nat} (p : Int → Bool) (h : k ≤ n) : (rng n).filter (fun x => decide (x < (k : Int)) && p x) = (rng k).filter p := by
  induction n with
  | zero =>
    have : k = 0 := by omega
    subst this
    rfl
  | succ n ih =>
    by_cases q : k = n + 1
    · subst q
      refine List.filter_congr fun x hx => ?_
      rw [decide_eq_true (mem_rng.mp hx).2]
      rfl
    · rw [rng_snoc, List.filter_append, ih (by omega), List.filter_cons, if_neg]
      · simp
      · rw [decide_eq_false (by omega)]
        simp
theorem rng_cut {n m : Int} (p : Int → Bool) (hm : 1 ≤ m) (hn : 0 ≤ n) : (rng n).filter (fun x => decide (x + m ≤ n) && p x) = (rng (n - m + 1)).filter p := by
  obtain ⟨n, rfl⟩ := Int.eq_ofNat_of_zero_le hn
  by_cases q : (n : Int) - m + 1 ≤ 0
  · have e : rng ((n : Int) - m + 1) = [] := List.eq_nil_of_length_eq_zero (by rw [rng_length]; omega)
    rw [e, List.filter_nil, List.filter_eq_nil_iff]
    intro x hx
    rw [decide_eq_false (by have := mem_rng.mp hx; omega)]
    simp
  · obtain ⟨k, hk⟩ := Int.eq_ofNat_of_zero_le (show (0 : Int) ≤ (n : Int) - m + 1 by omega)
    rw [hk, ← rng_below p (show k ≤ n by omega)]
    refine List.filter_congr fun x hx => ?_
    congr 1
    exact decide_eq_decide.mpr (by omega)
end
end Lw

end
section
namespace Lw
open Cw
/-- rows of seats: how far they are -/
structure Fr (l : List (Int × Int)) : Prop where
  len : l.length ≤ 7
  ok : ∀ s ∈ l, 1 ≤ s.1 ∧ s.1 ≤ 35
  up : l.Pairwise fun a b => a.1 < b.1
theorem lp3 {a b : Int} (h0 : 0 ≤ b) (h : b < 1000000000) : ok3 a b ∧ f3 a b = (Int.gcd a b : Int) := by
  obtain ⟨h1, x, h2, h3, h4⟩ := whl_gcd (c := fun s_41 : (Int × Int) => (!decide (s_41.2 = (0 : Int)))) (next := fun s_41 : (Int × Int) => (bnd (s_41.2, (s_41.1 - (s_41.2 * (Int.fdiv s_41.1 s_41.2)))) fun q_43 : (Int × Int) => (q_43.1, q_43.2))) (pc := fun _ => True) (pb := fun s_41 : (Int × Int) => L2.CDivN s_41.1 s_41.2 ∧ L2.CMul s_41.2 (Int.fdiv s_41.1 s_41.2)) (fu := FU)
    (fun s hs => by simp) (fun s hs => by simp only [bnd, gcd_step]) (fun _ => trivial) (fun s h5 h6 => ⟨divI h5 (by omega), mulI (by omega)⟩) (a := (a.natAbs : Int)) (b := (b.natAbs : Int)) (by omega) (by omega) (by rw [FU_eq]; omega)
  have e : x = (Int.gcd a b : Int) := by
    have := h4 (by omega)
    rw [gcd_natAbs] at h3
    omega
  refine ⟨h1, ?_⟩
  unfold f3
  simp only [bnd]
  simp only [bnd] at h2
  rw [h2]
  exact e
theorem lp4 {a b : Int} (h0 : 0 < b) (h : b < 1000000000) : ok4 a b ∧ f4 a b = frac a b := by
  obtain ⟨h1, h2⟩ := lp3 (a := a) (Int.le_of_lt h0) h
  obtain ⟨g1, g2⟩ := gcd_pos (a := a) h0
  unfold ok4 f4
  simp only [bnd, h2, h0, decide_true, if_true]
  exact ⟨⟨h1, divI g1 (by omega), divI g1 (by omega)⟩, rfl⟩
theorem lp26 {a b : Int} (h0 : 0 < b) (h : b < 1000000000) : ok26 a b ∧ f26 a b = frac a b := by
  obtain ⟨h1, x, h2, h3, h4⟩ := whl_gcd (c := fun s_138 : (Int × Int) => (!decide (s_138.2 = (0 : Int)))) (next := fun s_138 : (Int × Int) => (bnd (s_138.2, (Int.fmod s_138.1 s_138.2)) fun q_140 : (Int × Int) => (q_140.1, q_140.2))) (pc := fun _ => True) (pb := fun s_138 : (Int × Int) => s_138.2 ≠ 0) (fu := FU)
    (fun s hs => by simp) (fun s hs => rfl) (fun _ => trivial) (fun s h5 h6 => by omega) (a := (a.natAbs : Int)) (b := b) (by omega) (by omega) (by rw [FU_eq]; omega)
  have e : x = (Int.gcd a b : Int) := by
    have := h4 (by omega)
    have e2 : Int.gcd (a.natAbs : Int) b = Int.gcd a b := by simp [Int.gcd]
    omega
  obtain ⟨g1, g2⟩ := gcd_pos (a := a) h0
  have em : max (1 : Int) x = (Int.gcd a b : Int) := by omega
  unfold ok26 f26
  simp only [bnd] at h1 h2 ⊢
  simp only [h2, em]
  exact ⟨⟨h1, divI g1 (by omega), divI g1 (by omega)⟩, rfl⟩
theorem frac_mul (a : Int) {b : Int} (hb : 0 < b) : ∃ g : Int, 0 < g ∧ a = g * (frac a b).1 ∧ b = g * (frac a b).2 ∧ 0 < (frac a b).2 ∧ (frac a b).2 ≤ b := by
  obtain ⟨g1, g2⟩ := gcd_pos (a := a) hb
  have d1 : (Int.gcd a b : Int) ∣ a := Int.gcd_dvd_left _ _
  have d2 : (Int.gcd a b : Int) ∣ b := Int.gcd_dvd_right _ _
  have e1 : (frac a b).1 = a / (Int.gcd a b : Int) := fdiv_ediv g1
  have e2 : (frac a b).2 = b / (Int.gcd a b : Int) := fdiv_ediv g1
  refine ⟨(Int.gcd a b : Int), g1, ?_, ?_, ?_, ?_⟩
  · rw [e1, Int.mul_ediv_cancel' d1]
  · rw [e2, Int.mul_ediv_cancel' d2]
  · rw [e2]; exact Int.ediv_pos_of_pos_of_dvd hb (by omega) d2
  · rw [e2]; exact Int.ediv_le_self _ (by omega)
theorem frac_scale {g u v : Int} (hg : 0 < g) (hv : 0 < v) : frac (g * u) (g * v) = frac u v := by
  obtain ⟨g1, _⟩ := gcd_pos (a := u) hv
  have e : (Int.gcd (g * u) (g * v) : Int) = g * (Int.gcd u v : Int) := by
    rw [Int.gcd_mul_left, Int.natCast_mul, Int.natAbs_of_nonneg (by omega)]
  have gp : 0 < g * (Int.gcd u v : Int) := Int.mul_pos hg g1
  unfold frac
  rw [e, fdiv_ediv gp, fdiv_ediv gp, fdiv_ediv g1, fdiv_ediv g1, Int.mul_ediv_mul_of_pos _ _ hg, Int.mul_ediv_mul_of_pos _ _ hg]
theorem neg_iff {g x : Int} (hg : 0 < g) : g * x < 0 ↔ x < 0 := by
  constructor
  · intro h
    refine Int.not_le.mp fun q => ?_
    have := Int.mul_nonneg (Int.le_of_lt hg) q
    omega
  · intro h
    exact Int.mul_neg_of_pos_of_neg hg h
theorem f6_neg {p q : Int × Int} : decide (f6 p q < 0) = decide (p.1 * q.2 - q.1 * p.2 < 0) := by
  unfold f6
  simp only [bnd]
  generalize p.1 * q.2 - q.1 * p.2 = x
  by_cases h1 : 0 < x
  · have : ¬ x < 0 := by omega
    simp [h1, this]
  · by_cases h2 : x < 0
    · simp [h1, h2]
    · simp [h1, h2]
theorem f6_pos {p q : Int × Int} : decide (0 < f6 p q) = decide (q.1 * p.2 < p.1 * q.2) := by
  have key : ∀ x : Int, decide (0 < (if decide (0 < x) = true then (1 : Int) else 0) - (if decide (x < 0) = true then (1 : Int) else 0)) = decide (0 < x) := fun x => by
    by_cases h1 : 0 < x
    · have : ¬ x < 0 := by omega
      simp [h1, this]
    · by_cases h2 : x < 0
      · simp [h1, h2]
      · simp [h1, h2]
  exact (key (p.1 * q.2 - q.1 * p.2)).trans (decide_eq_decide.mpr (by omega))
section
variable {l : List (Int × Int)} (h : Fr l)
include h
theorem far {i : Int} (h0 : 0 ≤ i) (h1 : i < l.length) : 1 ≤ (gI l i).1 ∧ (gI l i).1 ≤ 35 := h.ok _ (gI_mem h0 h1)
theorem up_ {i j : Int} (h0 : 0 ≤ i) (h1 : i < j) (h2 : j < l.length) : (gI l i).1 < (gI l j).1 := by
  rw [gI_of h0 (by omega), gI_of (by omega) h2]
  exact List.pairwise_iff_getElem.mp h.up _ _ (by omega) (by omega) (by omega)
/-! blocked -/
theorem f11_eq {row ahead : Int} (h0 : 0 ≤ ahead) (h1 : ahead < row) (h2 : row < l.length) : ok11 l row ahead ∧ f11 l row ahead = frac (((gI l row).2 + 4) * (gI l ahead).1) (gI l row).1 := by
  have a := far h (i := row) (by omega) h2
  have b := far h (i := ahead) (by omega) (by omega)
  obtain ⟨e1, e2⟩ := lp4 (a := ((gI l row).2 + 4) * (gI l ahead).1) (b := (gI l row).1) (by omega) (by omega)
  unfold ok11 f11
  exact ⟨⟨okI_of (by omega) h2, okI_of h0 (by omega), mulJ (by omega), okI_of (by omega) h2, e1⟩, e2⟩
theorem blk {row ahead : Int} (h0 : 0 ≤ ahead) (h1 : ahead < row) (h2 : row < l.length) : ok6 (f11 l row ahead) ((gI l ahead).2 + 5, 1) ∧ decide (f6 (f11 l row ahead) ((gI l ahead).2 + 5, 1) < 0) = f27 l row ahead (gI l row).2 := by
  have a := far h (i := row) (by omega) h2
  have b := far h (i := ahead) (by omega) (by omega)
  obtain ⟨e1, e2⟩ := f11_eq h h0 h1 h2
  obtain ⟨g, g1, g2, g3, g4, g5⟩ := frac_mul (((gI l row).2 + 4) * (gI l ahead).1) (b := (gI l row).1) (by omega)
  rw [e2, f6_neg]
  unfold ok6 f27
  simp only [bnd]
  refine ⟨⟨mulJ (by show (1 : Int).natAbs ≤ _; decide), mulJ (by omega)⟩, ?_⟩
  refine decide_eq_decide.mpr ?_
  rw [← neg_iff g1]
  have e3 : g * ((frac (((gI l row).2 + 4) * (gI l ahead).1) (gI l row).1).1 * 1 - ((gI l ahead).2 + 5) * (frac (((gI l row).2 + 4) * (gI l ahead).1) (gI l row).1).2) = ((gI l row).2 + 4) * (gI l ahead).1 - ((gI l ahead).2 + 5) * (gI l row).1 := by
    generalize frac (((gI l row).2 + 4) * (gI l ahead).1) (gI l row).1 = p at *
    generalize ((gI l row).2 + 4) * (gI l ahead).1 = x at *
    generalize (gI l row).1 = y at *
    grind
  rw [e3]
  omega
theorem ok27_of {row ahead fl : Int} (h0 : 0 ≤ ahead) (h1 : ahead < row) (h2 : row < l.length) : ok27 l row ahead fl := by
  have a := far h (i := row) (by omega) h2
  have b := far h (i := ahead) (by omega) (by omega)
  unfold ok27
  exact ⟨okI_of (by omega) h2, okI_of h0 (by omega), mulJ (by simp only; omega), okI_of h0 (by omega), mulJ (by simp only; omega)⟩
theorem ok28_of {row fl : Int} (h0 : 0 ≤ row) (h2 : row < l.length) : ok28 l row fl := by
  have := h.len
  unfold ok28
  exact ⟨okR_of (by omega) (by omega), fun x hx => ok27_of h (mem_rng.mp hx).1 (mem_rng.mp hx).2 h2⟩
theorem f12_eq {row : Int} (h0 : 0 ≤ row) (h2 : row < l.length) : ok12 l row ∧ f12 l row = f28 l row (gI l row).2 := by
  have hl := h.len
  have hd : ∀ x, 0 ≤ x → x < row → gI (List.map (fun ahead : Int => f7 ((gI l ahead).2 + 5)) (rng row)) x = ((gI l x).2 + 5, 1) := fun x x1 x2 => by
    have hx : x < ((List.map (fun ahead : Int => f7 ((gI l ahead).2 + 5)) (rng row)).length : Int) := by rw [List.length_map, rng_length]; omega
    rw [gI_of x1 hx, List.getElem_map]
    have e : (rng row)[x.toNat]'(by rw [rng_length]; omega) = x := by simp [rng, ir]; omega
    rw [e]
    rfl
  unfold ok12 f12 f28
  simp only [bnd]
  refine ⟨⟨okR_of (by omega) (by omega), fun x hx => okI_of (mem_rng.mp hx).1 (by have := (mem_rng.mp hx).2; omega), okR_of (by omega) (by omega), fun x hx => ?_⟩, ?_⟩
  · obtain ⟨x1, x2⟩ := mem_rng.mp hx
    refine ⟨(f11_eq h x1 x2 h2).1, okI_of x1 (by rw [List.length_map, rng_length]; omega), ?_⟩
    rw [hd x x1 x2]
    exact (blk h x1 x2 h2).1
  · congr 1
    refine List.filter_congr fun x hx => ?_
    obtain ⟨x1, x2⟩ := mem_rng.mp hx
    rw [hd x x1 x2]
    exact (blk h x1 x2 h2).2
/-! raised -/
end
theorem map_take (l : List (Int × Int)) {row : Int} (h0 : 0 ≤ row) (h1 : row ≤ l.length) : cut l none (some row) = (rng row).map (gI l) := by
  rw [cut_hi h0]
  refine List.ext_getElem (by rw [List.length_take, List.length_map, rng_length]; omega) fun i a b => ?_
  rw [List.getElem_take, List.getElem_map]
  have hi : i < l.length := by rw [List.length_take] at a; omega
  have e : (rng row)[i]'(by rw [rng_length]; rw [List.length_take] at a; omega) = (i : Int) := by simp [rng, ir]
  rw [e, gI_nat hi]
/-- how high a floor must be for a head ahead -/
def due (a b : Int × Int) : Int := -(Int.fdiv (-(b.2 + 5) * a.1) b.1) - 4
def rai (a : Int × Int) (l : List (Int × Int)) (s : Int) : Int := l.foldl (fun s b => max s (due a b - a.2)) s
theorem f16_eq {l : List (Int × Int)} (hf : ∀ s ∈ l, 1 ≤ s.1 ∧ s.1 ≤ 35) {row : Int} (h0 : 0 ≤ row) (h2 : row < l.length) (hl : l.length ≤ 7) : ok16 l row ∧ f16 l row = (gI l row).2 + rai (gI l row) (cut l none (some row)) 0 := by
  have hm : ∀ x, x ∈ rng row → 0 ≤ x ∧ x < l.length := fun x hx => ⟨(mem_rng.mp hx).1, by have := (mem_rng.mp hx).2; omega⟩
  have f1 := hf _ (gI_mem h0 h2)
  constructor
  · unfold ok16
    simp only [bnd]
    refine ⟨okI_of h0 h2, okI_of h0 h2, okR_of (by omega) (by omega), foldOk_inv (fun _ => True) trivial fun s x hx _ => ⟨?_, trivial⟩⟩
    obtain ⟨x1, x2⟩ := hm x hx
    have f2 := hf _ (gI_mem x1 x2)
    exact ⟨okI_of x1 x2, okI_of x1 x2, mulJ (by omega), divI (by omega) (by omega)⟩
  · have sh : ∀ (xs : List Int) (s : Int), xs.foldl (fun s x => max s (due (gI l row) (gI l x))) s = (gI l row).2 + rai (gI l row) (xs.map (gI l)) (s - (gI l row).2) := fun xs => by
      induction xs with
      | nil => intro s; show s = _ + (s - _); omega
      | cons x xs ih =>
        intro s
        rw [List.foldl_cons, ih]
        show _ = _ + rai _ (gI l x :: xs.map (gI l)) _
        unfold rai
        rw [List.foldl_cons]
        congr 2
        omega
    have e : f16 l row = (rng row).foldl (fun s x => max s (due (gI l row) (gI l x))) (gI l row).2 := rfl
    rw [e, sh, map_take l h0 (by omega), show (gI l row).2 - (gI l row).2 = 0 by omega]
theorem f29_eq {l : List (Int × Int)} (hf : ∀ s ∈ l, 1 ≤ s.1 ∧ s.1 ≤ 35) {row : Int} (h0 : 0 ≤ row) (h2 : row < l.length) : ok29 l row ∧ f29 l row = rai (gI l row) (cut l none (some row)) 0 := by
  have f1 := hf _ (gI_mem h0 h2)
  have mem : ∀ b ∈ cut l none (some row), b ∈ l := fun b hb => by
    rw [cut_hi h0] at hb
    exact List.mem_of_mem_take hb
  have step : ∀ b ∈ cut l none (some row), Int.fdiv ((b.2 + 5) * (gI l row).1 - ((gI l row).2 + 4) * b.1 + b.1 - 1) b.1 = due (gI l row) b - (gI l row).2 := fun b hb => by
    have hb := hf b (mem b hb)
    unfold due
    rw [fdiv_ediv (by omega), fdiv_ediv (by omega), Int.neg_mul]
    generalize (b.2 + 5) * (gI l row).1 = x
    have e1 := Int.emod_add_mul_ediv (-x) b.1
    have e2 := Int.emod_nonneg (-x) (show b.1 ≠ 0 by omega)
    have e3 := Int.emod_lt_of_pos (-x) (show 0 < b.1 by omega)
    generalize hq : -x / b.1 = q at *
    generalize -x % b.1 = r at *
    have e4 : x - ((gI l row).2 + 4) * b.1 + b.1 - 1 = (b.1 - 1 - r) + b.1 * (-q - ((gI l row).2 + 4)) := by
      have : b.1 * (-q - ((gI l row).2 + 4)) = -(b.1 * q) - ((gI l row).2 + 4) * b.1 := by grind
      omega
    rw [e4, Int.add_mul_ediv_left _ _ (by omega), Int.ediv_eq_zero_of_lt (by omega) (by omega)]
    omega
  constructor
  · unfold ok29
    simp only [bnd]
    refine ⟨okI_of h0 h2, foldOk_inv (fun _ => True) trivial fun s b hb _ => ⟨?_, trivial⟩⟩
    have hb := hf b (mem b hb)
    exact ⟨mulJ (by omega), mulJ (by omega), divI (by omega) (by omega)⟩
  · unfold f29 rai
    simp only [bnd]
    exact foldl_ext (fun _ => True) trivial fun s b hb _ => ⟨by rw [step b hb], trivial⟩
theorem rai_ge (a : Int × Int) : ∀ (l : List (Int × Int)) (s : Int), s ≤ rai a l s ∧ ∀ b ∈ l, due a b - a.2 ≤ rai a l s
  | [], s => ⟨Int.le_refl _, fun b h => by cases h⟩
  | c :: l, s => by
    obtain ⟨h1, h2⟩ := rai_ge a l (max s (due a c - a.2))
    have e : rai a (c :: l) s = rai a l (max s (due a c - a.2)) := rfl
    rw [e]
    refine ⟨by omega, fun b hb => ?_⟩
    rcases List.mem_cons.mp hb with rfl | hb
    · omega
    · exact h2 b hb
/-- raised so it sees -/
theorem sees_of {a b : Int × Int} {f : Int} (hb : 1 ≤ b.1) (h : due a b ≤ f) : ¬ ((f + 4) * b.1 < (b.2 + 5) * a.1) := by
  unfold due at h
  rw [fdiv_ediv (by omega), Int.neg_mul] at h
  generalize (b.2 + 5) * a.1 = x at h ⊢
  have e1 := Int.emod_add_mul_ediv (-x) b.1
  have e2 := Int.emod_nonneg (-x) (show b.1 ≠ 0 by omega)
  generalize -x / b.1 = q at *
  have : (-q) * b.1 ≤ (f + 4) * b.1 := Int.mul_le_mul_of_nonneg_right (by omega) (by omega)
  rw [Int.neg_mul, Int.mul_comm q] at this
  omega
/-! the lowest seen -/
def lows (a : Int × Int) (l : List (Int × Int)) (s : Int × Int) : Int × Int := l.foldl (fun s b => if decide (s.1 * (frac ((b.2 + 5) * a.1 - (a.2 + 4) * b.1) (a.1 - b.1)).2 < (frac ((b.2 + 5) * a.1 - (a.2 + 4) * b.1) (a.1 - b.1)).1 * s.2) = true then frac ((b.2 + 5) * a.1 - (a.2 + 4) * b.1) (a.1 - b.1) else s) s
theorem low_step {a b s : Int × Int} (h1 : b.1 < a.1) (h2 : a.1 ≤ 35) (h3 : 1 ≤ b.1) (hs : 0 < s.2 ∧ s.2 ≤ 35) : 0 < (frac ((b.2 + 5) * a.1 - (a.2 + 4) * b.1) (a.1 - b.1)).2 ∧ (frac ((b.2 + 5) * a.1 - (a.2 + 4) * b.1) (a.1 - b.1)).2 ≤ 35 := by
  obtain ⟨g, g1, g2, g3, g4, g5⟩ := frac_mul ((b.2 + 5) * a.1 - (a.2 + 4) * b.1) (b := a.1 - b.1) (by omega)
  exact ⟨g4, by omega⟩
section
variable {l : List (Int × Int)} (h : Fr l)
include h
theorem f21_eq {row x : Int} (h0 : 0 ≤ x) (h1 : x < row) (h2 : row < l.length) : ok21 l row x ∧ f21 l row x = frac (((gI l x).2 + 5) * (gI l row).1 - ((gI l row).2 + 4) * (gI l x).1) ((gI l row).1 - (gI l x).1) := by
  have a := far h (i := row) (by omega) h2
  have b := far h (i := x) (by omega) (by omega)
  have c := up_ h h0 h1 h2
  obtain ⟨e1, e2⟩ := lp4 (a := ((gI l x).2 + 5) * (gI l row).1 - ((gI l row).2 + 4) * (gI l x).1) (b := (gI l row).1 - (gI l x).1) (by omega) (by omega)
  unfold ok21 f21
  exact ⟨⟨okI_of (by omega) h2, okI_of h0 (by omega), okI_of (by omega) h2, okI_of h0 (by omega), mulJ (by simp only; omega), mulJ (by simp only; omega), e1⟩, e2⟩
theorem ok9_of (hb : ∀ s ∈ l, -8 ≤ s.2 ∧ s.2 ≤ 21) (h0 : l ≠ []) : ok9 l := by
  have h1 := List.length_pos_iff.mpr h0
  have h2 := h.len
  unfold ok9
  refine ⟨?_, ?_⟩
  · rw [decide_eq_true (show (1 : Int) ≤ (l.length : Int) by omega), decide_eq_true (show (l.length : Int) ≤ 12 by omega), all_of fun x hx => ?_]
    · rfl
    · obtain ⟨a, b⟩ := h.ok x hx
      obtain ⟨c, d⟩ := hb x hx
      unfold f8 f2 f1 f0
      simp only [Bool.true_and, Bool.not_false, Bool.and_eq_true, decide_eq_true_eq]
      exact ⟨trivial, ⟨a, by omega⟩, by omega, by omega⟩
  · rw [cut_lo (by decide), show Int.toNat 1 = 1 from rfl, all_of fun p hp => decide_eq_true (pw_zip h.up p hp)]
    rfl
theorem ok10_of (hb : ∀ s ∈ l, -8 ≤ s.2 ∧ s.2 ≤ 21) (h0 : l ≠ []) {row : Int} (h1 : 0 ≤ row) (h2 : row < l.length) : ok10 l row := by
  unfold ok10 f1 f0
  refine ⟨ok9_of h hb h0, ?_⟩
  rw [decide_eq_true h1, decide_eq_true (show row ≤ (l.length : Int) - 1 by omega)]
  rfl
theorem f22_eq (hb : ∀ s ∈ l, -8 ≤ s.2 ∧ s.2 ≤ 21) (hn : l ≠ []) {row : Int} (h0 : 0 ≤ row) (h2 : row < l.length) : ok22 l row ∧ f22 l row = lows (gI l row) (cut l none (some row)) (0, 1) := by
  have hl := h.len
  have hr := far h h0 h2
  have e : f22 l row = (rng row).foldl (fun s x => if decide (0 < f6 (f21 l row x) s) = true then f21 l row x else s) (0, 1) := rfl
  constructor
  · unfold ok22
    simp only [bnd]
    refine ⟨ok10_of h hb hn h0 h2, okR_of (by omega) (by omega), foldOk_inv (fun s => 0 < s.2 ∧ s.2 ≤ 35) ⟨by decide, by decide⟩ fun s x hx hs => ?_⟩
    obtain ⟨x1, x2⟩ := mem_rng.mp hx
    have c := up_ h x1 x2 h2
    obtain ⟨a1, a2⟩ := f21_eq h x1 x2 h2
    have w := low_step (a := gI l row) (b := gI l x) c hr.2 (far h x1 (by omega)).1 hs
    refine ⟨⟨a1, ?_, ?_⟩, ?_⟩
    · exact mulJ (by omega)
    · rw [a2]
      exact mulJ (by omega)
    · rw [a2]
      split
      · exact w
      · exact hs
  · rw [e, map_take l h0 (by omega)]
    unfold lows
    rw [List.foldl_map]
    refine foldl_ext (fun _ => True) trivial fun s x hx _ => ⟨?_, trivial⟩
    obtain ⟨x1, x2⟩ := mem_rng.mp hx
    rw [(f21_eq h x1 x2 h2).2, f6_pos]
theorem f20_eq (hb : ∀ s ∈ l, -8 ≤ s.2 ∧ s.2 ≤ 21) (hn : l ≠ []) {row x : Int} (h0 : 0 ≤ x) (h1 : x < row) (h2 : row < l.length) : ok20 l row x ∧ f20 l row x = frac (((gI l row).2 + 4) * (gI l x).1 - (gI l x).2 * (gI l row).1) (gI l row).1 := by
  have a := far h (i := row) (by omega) h2
  obtain ⟨e1, e2⟩ := f11_eq h h0 h1 h2
  obtain ⟨g, g1, g2, g3, g4, g5⟩ := frac_mul (((gI l row).2 + 4) * (gI l x).1) (b := (gI l row).1) (by omega)
  unfold ok20 f20 ok19 f5 ok5 f7
  rw [e2]
  generalize frac (((gI l row).2 + 4) * (gI l x).1) (gI l row).1 = p at *
  simp only
  rw [Int.mul_one, Int.mul_one]
  obtain ⟨k1, k2⟩ := lp4 (a := p.1 - (gI l x).2 * p.2) (b := p.2) g4 (by omega)
  refine ⟨⟨⟨ok10_of h hb hn (by omega) h2, ?_⟩, e1, okI_of h0 (by omega), mulJ (by decide), mulJ (by omega), mulJ (by decide), k1⟩, ?_⟩
  · unfold f1 f0
    rw [decide_eq_true h0, decide_eq_true (show x ≤ row - 1 by omega)]
    rfl
  · rw [k2, ← frac_scale g1 g4]
    congr 1
    · rw [Int.mul_sub, ← g2]
      have : g * ((gI l x).2 * p.2) = (gI l x).2 * (g * p.2) := by grind
      rw [this, ← g3]
    · exact g3.symm
end
/-! floors raised from the front on -/
def rsd (l : List (Int × Int)) : List (Int × Int) := l.foldl (fun led y => led ++ [(y.1, y.2 + rai y led 0)]) []
theorem rsd_snoc (l : List (Int × Int)) (y : Int × Int) : rsd (l ++ [y]) = rsd l ++ [(y.1, y.2 + rai y (rsd l) 0)] := by
  unfold rsd
  rw [List.foldl_append]
  rfl
theorem rsd_app : ∀ (l2 l1 : List (Int × Int)), ∃ t, rsd (l1 ++ l2) = rsd l1 ++ t
  | [], l1 => ⟨[], by simp⟩
  | y :: l2, l1 => by
    obtain ⟨t, ht⟩ := rsd_app l2 (l1 ++ [y])
    rw [rsd_snoc] at ht
    exact ⟨(y.1, y.2 + rai y (rsd l1) 0) :: t, by simpa using ht⟩
theorem rsd_fst (l : List (Int × Int)) : (rsd l).map (fun s => s.1) = l.map (fun s => s.1) := by
  have := foldl_pre (step := fun (led : List (Int × Int)) y => led ++ [(y.1, y.2 + rai y led 0)]) (fun pre s => s.map (fun s => s.1) = pre.map fun s => s.1) (xs := l) (pre := []) (s := []) rfl fun pre x post s _ h => by
    rw [List.map_append, List.map_append, h]
    rfl
  rwa [List.nil_append] at this
theorem rsd_len (l : List (Int × Int)) : (rsd l).length = l.length := by
  have := congrArg List.length (rsd_fst l)
  rwa [List.length_map, List.length_map] at this
theorem rsd_take {l : List (Int × Int)} {k : Nat} (h : k ≤ l.length) : (rsd l).take k = rsd (l.take k) := by
  obtain ⟨t, ht⟩ := rsd_app (l.drop k) (l.take k)
  rw [List.take_append_drop] at ht
  rw [ht]
  have e : (rsd (l.take k)).length = k := by rw [rsd_len, List.length_take]; omega
  rw [List.take_append_of_le_length (by omega), List.take_of_length_le (by omega)]
theorem rsd_get {l : List (Int × Int)} {i : Nat} (h : i < l.length) : (rsd l)[i]? = some (l[i].1, l[i].2 + rai l[i] (rsd (l.take i)) 0) := by
  have e := rsd_take (l := l) (k := i + 1) (by omega)
  rw [List.take_succ_eq_append_getElem h, rsd_snoc] at e
  have e2 : ((rsd l).take (i + 1))[i]? = _ := congrArg (fun m => m[i]?) e
  rw [List.getElem?_take_of_lt (by omega), List.getElem?_append_right (by rw [rsd_len, List.length_take]; omega)] at e2
  rw [e2]
  have : i - (rsd (l.take i)).length = 0 := by rw [rsd_len, List.length_take]; omega
  rw [this]
  rfl
theorem rsd_fr {l : List (Int × Int)} (h : Fr l) : Fr (rsd l) where
  len := by rw [rsd_len]; exact h.len
  ok := fun s hs => by
    have : s.1 ∈ (rsd l).map fun s => s.1 := List.mem_map.mpr ⟨s, hs, rfl⟩
    rw [rsd_fst] at this
    obtain ⟨z, hz, e⟩ := List.mem_map.mp this
    have := h.ok z hz
    have e : z.1 = s.1 := e
    omega
  up := by
    have h1 : ((rsd l).map fun s => s.1).Pairwise (· < ·) := by
      rw [rsd_fst]
      exact List.pairwise_map.mpr h.up
    exact List.pairwise_map.mp h1
theorem Fr.take {l : List (Int × Int)} (h : Fr l) (k : Nat) : Fr (l.take k) := ⟨by rw [List.length_take]; have := h.len; omega, fun s hs => h.ok s (List.mem_of_mem_take hs), h.up.sublist (List.take_sublist _ _)⟩
/-- the program's list while floors are raised -/
def mid (l : List (Int × Int)) (r : Nat) : List (Int × Int) := rsd (l.take r) ++ l.drop r
theorem mid_step {l : List (Int × Int)} (h : Fr l) {r : Nat} (hr : r < l.length) : ok16_v2 (mid l r) (r : Int) ∧ okS (mid l r) (r : Int) ∧ sI (mid l r) (r : Int) ((gI l (r : Int)).1, f16_v2 (mid l r) (r : Int)) = mid l (r + 1) := by
  have e1 : (rsd (l.take r)).length = r := by rw [rsd_len, List.length_take]; omega
  have e2 : (mid l r).length = l.length := by unfold mid; rw [List.length_append, e1, List.length_drop]; omega
  have e3 : gI (mid l r) (r : Int) = l[r] := by
    rw [gI_nat (by omega)]
    unfold mid
    rw [List.getElem_append_right (by omega), List.getElem_drop]
    congr 1
    omega
  have e4 : cut (mid l r) none (some (r : Int)) = rsd (l.take r) := by
    rw [cut_hi (by omega)]
    unfold mid
    rw [Int.toNat_natCast, List.take_append_of_le_length (by omega), List.take_of_length_le (by omega)]
  have hf : ∀ s ∈ mid l r, 1 ≤ s.1 ∧ s.1 ≤ 35 := fun s hs => by
    unfold mid at hs
    rcases List.mem_append.mp hs with hs | hs
    · exact (rsd_fr (h.take r)).ok s hs
    · exact h.ok s (List.mem_of_mem_drop hs)
  obtain ⟨a1, a2⟩ := f16_eq hf (row := (r : Int)) (by omega) (by omega) (by rw [e2]; exact h.len)
  refine ⟨a1, okS_of (by omega) (by omega), ?_⟩
  rw [show f16_v2 (mid l r) (r : Int) = f16 (mid l r) (r : Int) from rfl, a2, e3, e4, gI_nat hr, sI_of (by omega) (by omega), Int.toNat_natCast]
  unfold mid
  rw [List.take_succ_eq_append_getElem hr, rsd_snoc, List.set_append_right _ _ (by omega), e1, Nat.sub_self, List.drop_eq_getElem_cons hr, List.set_cons_zero, List.append_assoc]
  rfl
theorem f17_eq {l : List (Int × Int)} (h : Fr l) (hb : ∀ s ∈ l, -8 ≤ s.2 ∧ s.2 ≤ 21) (hn : l ≠ []) : ok17 l ∧ f17 l = (rsd l).map fun y => y.2 := by
  have hl := h.len
  constructor
  · unfold ok17
    simp only [bnd]
    refine ⟨ok9_of h hb hn, okR_of (by omega) (by omega), foldOk_pre (fun pre s => s = mid l pre.length) (pre := []) (by unfold mid; rfl) fun pre x post s he hs => ?_⟩
    rw [List.nil_append] at he
    obtain ⟨b1, _, b3⟩ := rng_split he
    subst hs b1
    obtain ⟨c1, c2, c3⟩ := mid_step h (r := pre.length) (by omega)
    refine ⟨⟨okI_of (by omega) b3, c1, c2⟩, ?_⟩
    rw [List.length_append]
    exact c3
  · have e : f17 l = ((rng (l.length : Int)).foldl (fun s row => sI s row ((gI l row).1, f16_v2 s row)) l).map fun y => y.2 := rfl
    have := foldl_pre (step := fun (s : List (Int × Int)) row => sI s row ((gI l row).1, f16_v2 s row)) (fun pre s => s = mid l pre.length) (xs := rng (l.length : Int)) (pre := []) (s := l) (by unfold mid; rfl) fun pre x post s he hs => by
      rw [List.nil_append] at he
      obtain ⟨b1, _, b3⟩ := rng_split he
      subst hs b1
      rw [List.length_append]
      exact (mid_step h (r := pre.length) (by omega)).2.2
    rw [List.nil_append, rng_length] at this
    rw [e, this]
    unfold mid
    rw [Int.toNat_natCast, List.take_of_length_le (Nat.le_refl _), List.drop_of_length_le (Nat.le_refl _), List.append_nil]
theorem f15_eq {l : List (Int × Int)} (h : Fr l) (hb : ∀ s ∈ l, -8 ≤ s.2 ∧ s.2 ≤ 21) (hn : l ≠ []) : ok15 l ∧ f15 l = (List.map (fun row_226 : Int => row_226) (List.filter (fun row_226 : Int => (!decide ((f28 l row_226 ((gI l row_226).2)) = ([] : (List Int))))) (rng (l.length : Int)))) := by
  have hl := h.len
  unfold ok15 f15
  refine ⟨⟨ok9_of h hb hn, okR_of (by omega) (by omega), fun x hx => (f12_eq h (mem_rng.mp hx).1 (mem_rng.mp hx).2).1⟩, ?_⟩
  congr 1
  refine List.filter_congr fun x hx => ?_
  rw [(f12_eq h (mem_rng.mp hx).1 (mem_rng.mp hx).2).2]
  cases f28 l x (gI l x).2 with
  | nil => rfl
  | cons a r => simp
theorem rsd_sees {l : List (Int × Int)} (h : Fr l) {row : Int} (h0 : 0 ≤ row) (h1 : row < l.length) : f28 (rsd l) row (gI (rsd l) row).2 = [] := by
  obtain ⟨r, rfl⟩ := Int.eq_ofNat_of_zero_le h0
  have hr : r < l.length := by omega
  have hlen := rsd_len l
  unfold f28
  rw [List.map_eq_nil_iff, List.filter_eq_nil_iff]
  intro x hx
  obtain ⟨x1, x2⟩ := mem_rng.mp hx
  obtain ⟨a, rfl⟩ := Int.eq_ofNat_of_zero_le x1
  have ha : a < r := by omega
  have g1 := rsd_get hr
  have e1 : gI (rsd l) (r : Int) = (l[r].1, l[r].2 + rai l[r] (rsd (l.take r)) 0) := by
    rw [gI_nat (by omega)]
    rw [List.getElem?_eq_getElem (by omega)] at g1
    exact Option.some.inj g1
  have m : gI (rsd l) (a : Int) ∈ rsd (l.take r) := by
    rw [gI_nat (by omega), ← rsd_take (by omega)]
    exact List.mem_take_iff_getElem.mpr ⟨a, by omega, rfl⟩
  have bf := (rsd_fr h).ok _ (gI_mem (l := rsd l) (i := (a : Int)) (by omega) (by omega))
  have d := (rai_ge l[r] (rsd (l.take r)) 0).2 _ m
  have s := sees_of (a := l[r]) (b := gI (rsd l) (a : Int)) (f := l[r].2 + rai l[r] (rsd (l.take r)) 0) bf.1 (by omega)
  unfold f27
  simp only [bnd]
  rw [e1]
  simp only
  rw [decide_eq_false s]
  simp
theorem vc30_i {l : List (Int × Int)} {K : Bool → Prop} (h : Fr l) (hb : ∀ s ∈ l, -8 ≤ s.2 ∧ s.2 ≤ 21) (hn : l ≠ []) (hK : K true) : vc30 () l K := by
  have hl := h.len
  have hlp := List.length_pos_iff.mpr hn
  unfold vc30
  refine bnd_g fun WR hW => ⟨okR_of (by omega) (by omega), fun _ _ => True, trivial, fun pre row post s he _ => ?_, fun s _ => ?_⟩
  · have hx : row ∈ rng (l.length : Int) := he ▸ (by simp)
    obtain ⟨r1, r2⟩ := mem_rng.mp hx
    obtain ⟨a1, a2⟩ := f12_eq h r1 r2
    obtain ⟨b1, b2⟩ := f16_eq h.ok r1 r2 hl
    obtain ⟨c1, c2⟩ := f29_eq h.ok r1 r2
    have o10 := ok10_of h hb hn r1 r2
    refine ⟨⟨okI_of r1 r2, ok28_of h r1 r2⟩, bnd_g fun some_ hs => ⟨⟨⟨o10, a1⟩, fun _ => ⟨o10, a1⟩⟩, cf (orF (nd (a2.trans hs.symm)) (nd ?_)) ⟨⟨⟨o10, b1, okI_of r1 r2⟩, c1⟩, cf (nd ?_) trivial⟩⟩⟩
    · unfold f13
      rw [a2, ← hs]
      cases some_ with
      | nil => rfl
      | cons a r => simp; omega
    · unfold f18
      rw [b2, c2]
      omega
  subst hW
  obtain ⟨a1, a2⟩ := f15_eq h hb hn
  refine ⟨⟨a1, okR_of (by omega) (by omega), fun x hx => ⟨okI_of (mem_rng.mp hx).1 (mem_rng.mp hx).2, ok28_of h (mem_rng.mp hx).1 (mem_rng.mp hx).2⟩⟩, cf (nd a2) (drw_i (by omega) (by omega) fun row r1 r2 => bnd_g fun row' e => ?_)⟩
  subst e
  have hu0 := far h r1 r2
  refine ⟨okI_of r1 r2, bnd_g fun u hu => bnd_g fun low hlow => bnd_g fun WR2 hW2 => ⟨fun pre s => s = lows u pre (0, 1) ∧ 0 < s.2 ∧ s.2 ≤ 35, by subst hlow; exact ⟨rfl, by decide, by decide⟩, fun pre y post s he ⟨i1, i2⟩ => ?_, fun s ⟨i1, _⟩ => ?_⟩⟩
  · have hy : y ∈ (rng row').map (gI l) := by
      rw [← map_take l r1 (by omega), he]
      simp
    obtain ⟨x, hx, rfl⟩ := List.mem_map.mp hy
    obtain ⟨x1, x2⟩ := mem_rng.mp hx
    have fx := far h x1 (show x < l.length by omega)
    have ux := up_ h x1 x2 r2
    rw [← hu] at hu0 ux
    obtain ⟨k1, k2⟩ := lp26 (a := ((gI l x).2 + 5) * u.1 - (u.2 + 4) * (gI l x).1) (b := u.1 - (gI l x).1) (by omega) (by omega)
    have w := low_step (a := u) (b := gI l x) (s := s) ux hu0.2 fx.1 i2
    refine ⟨⟨mulJ (by omega), mulJ (by omega), k1⟩, bnd_g fun told ht => ?_⟩
    rw [k2] at ht
    refine ⟨⟨mulJ (by omega), by rw [ht]; exact mulJ (by omega)⟩, ?_⟩
    have e : lows u (pre ++ [gI l x]) (0, 1) = (if decide (s.1 * told.2 < told.1 * s.2) = true then told else s) := by
      rw [i1, ht]
      unfold lows
      rw [List.foldl_append]
      rfl
    refine ⟨e.symm, ?_⟩
    split
    · rw [ht]; exact w
    · exact i2
  subst hW2
  obtain ⟨b1, b2⟩ := f22_eq h hb hn r1 r2
  refine ⟨b1, cf (nd (by rw [b2, i1, hu])) (bnd_g fun J hJ => ?_)⟩
  have hJn : J (Fw.nx ()) := by
    subst hJ
    simp only [jnK]
    refine bnd_g fun led hled => bnd_g fun WR3 hW3 => ⟨fun pre s => s.1 = rsd pre, by subst hled; rfl, fun pre y post s he i => ?_, fun s i => ?_⟩
    · have hp : pre.length < l.length := by rw [he, List.length_append, List.length_cons]; omega
      have fr : Fr (pre ++ [y]) := by
        have : pre ++ [y] = l.take (pre.length + 1) := by
          rw [he, show pre ++ y :: post = (pre ++ [y]) ++ post by simp, show pre.length + 1 = (pre ++ [y]).length by simp, List.take_left]
        rw [this]
        exact h.take _
      have frp : Fr pre := by
        have : pre = l.take pre.length := by
          rw [he, List.take_left]
        rw [this]
        exact h.take _
      have sl : s.1.length = pre.length := by rw [i, rsd_len]
      refine ⟨by rw [szL]; omega, bnd_g fun led1 e1 => ?_⟩
      have ll : led1.length = pre.length + 1 := by rw [e1, List.length_append, sl]; rfl
      have hf : ∀ z ∈ led1, 1 ≤ z.1 ∧ z.1 ≤ 35 := fun z hz => by
        rw [e1] at hz
        rcases List.mem_append.mp hz with hz | hz
        · rw [i] at hz
          exact (rsd_fr frp).ok z hz
        · rw [List.mem_singleton.mp hz]
          exact fr.ok y (by simp)
      obtain ⟨c1, c2⟩ := f29_eq hf (row := (led1.length : Int) - 1) (by omega) (by omega)
      have e2 : (led1.length : Int) - 1 = ((s.1.length : Nat) : Int) := by omega
      have e3 : gI led1 ((led1.length : Int) - 1) = y := by
        rw [e2, gI_nat (by omega)]
        simp [e1]
      have e4 : cut led1 none (some ((led1.length : Int) - 1)) = s.1 := by
        rw [e2, cut_hi (by omega), e1]
        simp
      refine ⟨c1, trivial, okS_last (by rw [e1]; simp), bnd_g fun led2 e5 => ?_⟩
      show led2 = rsd (pre ++ [y])
      rw [e5, show f29_v2 led1 ((led1.length : Int) - 1) = f29 led1 ((led1.length : Int) - 1) from rfl, c2, e3, e4, e1, sI_snoc, rsd_snoc, i]
    · subst hW3
      obtain ⟨c1, c2⟩ := f17_eq h hb hn
      have rl := rsd_len l
      have fr := rsd_fr h
      refine ⟨c1, cf (nd (by rw [c2, i])) ⟨⟨okR_of (by omega) (by rw [i]; omega), fun x hx => ?_⟩, ?_⟩⟩
      · rw [i] at hx ⊢
        exact ⟨okI_of (mem_rng.mp hx).1 (mem_rng.mp hx).2, ok28_of fr (mem_rng.mp hx).1 (mem_rng.mp hx).2⟩
      · show K _
        rw [i, all_of fun x hx => ?_]
        · exact hK
        · obtain ⟨x1, x2⟩ := mem_rng.mp hx
          exact decide_eq_true (rsd_sees h x1 (by omega))
  refine ⟨fun q => ?_, fun _ => hJn⟩
  have q := of_decide_eq_true q
  refine drw_i (by omega) (by omega) fun a a1 a2 => bnd_g fun ah e => ?_
  subst e
  refine ⟨okI_of a1 (by omega), bnd_g fun u2 hu2 => ?_⟩
  obtain ⟨d1, d2⟩ := f20_eq h hb hn a1 a2 r2
  have fa := far h a1 (show ah < l.length by omega)
  rw [← hu] at hu0
  obtain ⟨k1, k2⟩ := lp26 (a := (u.2 + 4) * u2.1 - u2.2 * u.1) (b := u.1) (by omega) (by omega)
  rw [← hu2] at fa
  refine ⟨⟨d1, mulJ (by omega), mulJ (by omega), k1⟩, cf (nd ?_) hJn⟩
  rw [d2, k2, hu, hu2]
theorem law_ok : vclaw := by
  unfold vclaw
  have fr : Fr [(2, 0), (4, 0)] := ⟨by decide, by decide, by decide⟩
  have hb : ∀ s ∈ [((2 : Int), (0 : Int)), (4, 0)], -8 ≤ s.2 ∧ s.2 ≤ 21 := by decide
  have r1 : (0 : Int) ≤ 1 := by decide
  have r2 : (1 : Int) < (([((2 : Int), (0 : Int)), (4, 0)] : List (Int × Int)).length : Int) := by decide
  have o10 := ok10_of fr hb (by simp) r1 r2
  obtain ⟨a1, a2⟩ := f12_eq fr r1 r2
  obtain ⟨b1, b2⟩ := f16_eq fr.ok r1 r2 fr.len
  obtain ⟨c1, c2⟩ := f17_eq fr hb (by simp)
  have k1 : f13 [(2, 0), (4, 0)] 1 = false := by
    unfold f13
    rw [a2]
    decide
  have k2 : f18 [(2, 0), (4, 0)] 1 = 6 := by
    unfold f18
    rw [b2]
    decide
  refine ⟨⟨⟨o10, a1⟩, fun _ => ⟨o10, b1, okI_of r1 r2⟩⟩, cf (orF (nd k1) (nd k2)) ⟨c1, cf (nd (by rw [c2]; decide)) ?_⟩⟩
  simp only [bnd]
  refine ⟨okR_of (by decide) (by decide), fun _ _ => True, trivial, fun pre lap post s he _ => ?_, fun _ _ => rfl⟩
  refine drw_i (by decide) (by decide) fun n n1 n2 => ⟨okR_of (by omega) (by omega), fun pre s => s.2.length = pre.length ∧ s.1 ≤ 5 * pre.length ∧ 0 ≤ s.1 ∧ (∀ z ∈ s.2, 1 ≤ z.1 ∧ z.1 ≤ s.1 ∧ -8 ≤ z.2 ∧ z.2 ≤ 21) ∧ s.2.Pairwise fun a b => a.1 < b.1, ⟨rfl, by decide, by decide, fun z h => (by cases h), .nil⟩, fun pre2 turn post2 s he2 ⟨i1, i2, i3, i4, i5⟩ => ?_, fun s ⟨i1, i2, i3, i4, i5⟩ => ?_⟩
  · have hp := congrArg List.length he2
    rw [rng_length, List.length_append, List.length_cons] at hp
    refine drw_i (by decide) (by decide) fun d d1 d2 => drw_i (by decide) (by decide) fun e e1 e2 => ⟨by rw [szL]; omega, ?_⟩
    refine ⟨by rw [List.length_append, List.length_append, i1]; rfl, by rw [List.length_append]; show s.1 + 1 + d ≤ 5 * ((pre2.length + 1 : Nat) : Int); omega, by show 0 ≤ s.1 + 1 + d; omega, fun z hz => ?_, ?_⟩
    · rcases List.mem_append.mp hz with hz | hz
      · have := i4 z hz
        exact ⟨this.1, by show z.1 ≤ s.1 + 1 + d; omega, this.2.2⟩
      · rw [List.mem_singleton.mp hz]
        exact ⟨by show 1 ≤ s.1 + 1 + d; omega, Int.le_refl _, by show -8 ≤ e - 8; omega, by show e - 8 ≤ 21; omega⟩
    · refine List.pairwise_append.mpr ⟨i5, List.pairwise_singleton _ _, fun a ha b hb => ?_⟩
      rw [List.mem_singleton.mp hb]
      have := i4 a ha
      show a.1 < s.1 + 1 + d
      omega
  · rw [rng_length] at i1 i2
    refine vc30_i ⟨by omega, fun z hz => ?_, i5⟩ (fun z hz => (i4 z hz).2.2) (List.length_pos_iff.mp (by omega)) (cf rfl trivial)
    have := i4 z hz
    omega
end Lw

end
section
open PySem PySem.W PySem.Calls PyProof.Rows
theorem PySem.Challenge.cw_circusweek_k04_whole_sight_from_rows_holds : PySem.Challenge.rw_circusweek_k04_whole_sight_from_rows.Holds :=
  law_holds (Lw.FU_eq ▸ Lw.answers Lw.law_ok)

end
