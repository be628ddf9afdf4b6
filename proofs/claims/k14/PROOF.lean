import PyProof.Rows.All
import Wide.All
import OpenK.AllK
import Wide.FinOn
import HandS.ForMost
import HandS.Words
import HandS.Walk
import HandS.ExcOwn
import HandS.WordsExc
import HandS.TupAny
import HandS.TupLe
import HandS.IsInst
import HandS.SortInts
import HandS.Conv
import HandS.Style
import HandS.Deep
import HandS.WordsDict
import HandS.Zip
import KE.GoesZip
import KE.GoesMore
import HandS.HeadHook1
import HandS.HeadHook2
import HandS.Defaults
import HandS.Ends
import HandS.More
import HandS.Head0
import HandS.Head1
import HandS.Head2
import HandS.HeadEnd
import PySem.Challenge.RW_circusweek_k14_whole_beams_that_are_even
set_option Elab.async false
set_option linter.all false
set_option maxRecDepth 100000
set_option maxHeartbeats 0
section
/-! CwA: own values, own syntax, the evaluator. -/
namespace Cw
open PySem L2

/-- own values: immutable data, lists and dicts by value; ref: a list with identity; fn: a def of the text; frz: a list that is only read -/
inductive D where
  | non | bl (b : Bool) | int (i : Int) | str (x : Str)
  | tup (xs : List D) | lst (xs : List D)
  | dK (kvs : List (Key × D)) | dT (kvs : List (List Key × D))
  | ref (i : Nat) | fn (i : Nat) | frz (xs : List D)
instance : Inhabited D := ⟨.non⟩

/-- the lists with identity -/
abbrev RH := List (List D)
inductive Res (α : Type) where
  | ok (a : α) (R : RH)
  | exc (c : Nat) (R : RH)
  | bad
def Res.bind {α β : Type} (m : Res α) (f : α → RH → Res β) : Res β := match m with
  | .ok a R => f a R
  | .exc c R => .exc c R
  | .bad => .bad
/-- an operation that may have no answer -/
def Res.of {α : Type} (o : Option α) (R : RH) : Res α := match o with
  | some a => .ok a R
  | none => .bad

/-- a variable: nothing, shared (read only), own (its list or dict may be changed) -/
inductive Sl where
  | no | sh (d : D) | ow (d : D)
def gS : List Sl → Nat → Sl
  | [], _ => .no
  | s :: _, 0 => s
  | _ :: l, i + 1 => gS l i
def Sl.val : Sl → Option D
  | .no => none
  | .sh d => some d
  | .ow d => some d
def sS : List Sl → Nat → Sl → List Sl
  | [], _, _ => []
  | _ :: l, 0, x => x :: l
  | s :: l, i + 1, x => s :: sS l i x

inductive Bop where | add | sub | mul | fdiv | mod | pow
inductive Cop where | eq | ne | lt | le | gt | ge | is | isn | in_ | nin
inductive Kd where | int | bool | str | tuple | list | dict
inductive Blt where | len | abs | int | min | max | sum | all | any | sorted | list | tuple | lrange
inductive Mth where | index | count | get
mutual
inductive Ex where
  | var (i : Nat) | con (d : D)
  | tup (es : Exs) | lst (es : Exs)
  | bin (o : Bop) (a b : Ex) | neg (a : Ex)
  | cmp (o : Cop) (a b : Ex) | ch2 (o p : Cop) (a b c : Ex)
  | and (a : Ex) (es : Exs) | or (a : Ex) (es : Exs) | not (a : Ex) | ite (c a b : Ex)
  | call (f : Nat) (es : Exs) | blt (f : Blt) (es : Exs) | isi (ks : List Kd) (a : Ex)
  | meth (m : Mth) (o : Ex) (es : Exs)
  | idx (a i : Ex) | slc (a : Ex) (lo hi : Exo) | rev (a : Ex)
  | lc (elt : Ex) (tg : Tg) (it : Itr) (cd : Exo)
inductive Exs where | nil | cons (e : Ex) (es : Exs)
inductive Exo where | no | so (e : Ex)
inductive Itr where | ex (e : Ex) | rng (a : Ex) | rng2 (a b : Ex) | enu (e : Ex) | zip (a b : Ex)
inductive Tg where | nm (i : Nat) | tp (ts : Tgs)
inductive Tgs where | nil | cons (t : Tg) (ts : Tgs)
end
/-- an expression of a statement -/
inductive SE where
  | ex (e : Ex) | pop (i : Nat) | popAt (i : Nat) (e : Ex) | nref (e : Ex)
mutual
inductive Sm where
  | set (i : Nat) (e : SE) | own (i : Nat) (e : Ex) | unp (ts : Tgs) (e : SE) | par (is : List (Nat × Bool)) (es : Exs)
  | xpr (e : SE) | app (i : Nat) (e : SE) | ext (i : Nat) (e : Ex) | sub (i : Nat) (k e : Ex)
  | aug (i : Nat) (o : Bop) (e : Ex) | asb (i : Nat) (k : Ex) (o : Bop) (e : Ex)
  | su2 (i : Nat) (k : Ex) (j : Nat) (l a b : Ex)
  | rsb (r k e : Ex) | rpp (r k : Ex)
  | ite (c : Ex) (a b : Sms) | for_ (tg : Tg) (it : Itr) (body : Sms) | whl (c : Ex) (body : Sms)
  | ret (e : SE) | retN | raise (c : Nat) | pas | brk | cnt
  | esc (is : List Nat) | kil (is : List Nat)
inductive Sms where | nil | cons (s : Sm) (ss : Sms)
end
inductive Fl where | nx | bk | ct | rt (d : D)
end Cw

end
section
/-! CwB: the evaluator. -/
namespace Cw
open PySem L2

/-! ### operations on values -/
mutual
/-- ==, of plain data -/
def deq : D → D → Bool
  | .non, .non => true
  | .bl a, .bl b => a == b
  | .bl a, .int j => (if a then 1 else 0) == j
  | .int i, .bl b => i == (if b then 1 else 0)
  | .int i, .int j => i == j
  | .str x, .str y => x == y
  | .lst xs, .lst ys => deqs xs ys
  | .tup xs, .tup ys => deqs xs ys
  | _, _ => false
def deqs : List D → List D → Bool
  | [], [] => true
  | x :: xs, y :: ys => deq x y && deqs xs ys
  | _, _ => false
end
mutual
/-- None, bools, intsD, texts, tuples and lists of such -/
def plain : D → Bool
  | .non | .bl _ | .int _ => true
  | .str x => PyData.strOk x
  | .tup xs | .lst xs => plains xs
  | _ => false
def plains : List D → Bool
  | [] => true
  | x :: xs => plain x && plains xs
end
mutual
def dep : D → Nat
  | .tup xs | .lst xs => deps xs + 1
  | _ => 0
def deps : List D → Nat
  | [] => 0
  | x :: xs => max (dep x) (deps xs)
end
def flt (d : D) : Bool := plain d && decide (dep d ≤ 60)
mutual
/-- <, of ints, texts, tuples -/
def dlt : D → D → Bool
  | .int i, .int j => decide (i < j)
  | .str x, .str y => decide (x.cps.toList < y.cps.toList)
  | .tup xs, .tup ys => dlts xs ys
  | _, _ => false
def dlts : List D → List D → Bool
  | [], [] => false
  | [], _ :: _ => true
  | _ :: _, [] => false
  | x :: xs, y :: ys => if deq x y = true then dlts xs ys else dlt x y
end
mutual
/-- two that can be ordered: ints, texts, tuples whose items at one place can -/
def cmpb : D → D → Bool
  | .int _, .int _ => true
  | .str _, .str _ => true
  | .tup xs, .tup ys => cmpbs xs ys
  | _, _ => false
def cmpbs : List D → List D → Bool
  | x :: xs, y :: ys => cmpb x y && cmpbs xs ys
  | _, _ => true
end
instance {i j : Int} : Decidable (CMul i j) := by unfold CMul; infer_instance
instance {i j : Int} : Decidable (CDivN i j) := by unfold CDivN; infer_instance
instance {i j : Int} : Decidable (CPow i j) := by unfold CPow; infer_instance
def isNon : D → Bool
  | .non => true
  | _ => false
def negD : D → Option D
  | .int i => some (.int (-i))
  | _ => none
def notD : D → Option D
  | .bl b => some (.bl (!b))
  | _ => none
def cmpD : Cop → D → D → Option Bool
  | .eq, x, y => if (flt x && flt y) = true then some (deq x y) else none
  | .ne, x, y => if (flt x && flt y) = true then some (!deq x y) else none
  | .lt, x, y => if (flt x && flt y && cmpb x y) = true then some (dlt x y) else none
  | .gt, .int i, .int j => some (decide (j < i))
  | .le, .int i, .int j => some (decide (i ≤ j))
  | .ge, .int i, .int j => some (decide (j ≤ i))
  | .is, x, .non => some (isNon x)
  | .isn, x, .non => some (!isNon x)
  | .is, .bl a, .bl b => some (decide (a = b))
  | .isn, .bl a, .bl b => some (!decide (a = b))
  | .in_, x, .lst ys => if (flt x && ys.all flt) = true then some (ys.any fun y => deq y x) else none
  | .nin, x, .lst ys => if (flt x && ys.all flt) = true then some (!ys.any fun y => deq y x) else none
  | .in_, x, .tup ys => if (flt x && ys.all flt) = true then some (ys.any fun y => deq y x) else none
  | .nin, x, .tup ys => if (flt x && ys.all flt) = true then some (!ys.any fun y => deq y x) else none
  | _, _, _ => none
def rep {α : Type} (xs : List α) : Nat → List α
  | 0 => []
  | n + 1 => xs ++ rep xs n
def binD : Bop → D → D → Option D
  | .add, .int i, .int j => some (.int (i + j))
  | .add, .str a, .str b => if a.length + b.length ≤ sizeLine then some (.str (a ++ b)) else none
  | .add, .tup xs, .tup ys => if xs.length + ys.length ≤ sizeLine then some (.tup (xs ++ ys)) else none
  | .add, .lst xs, .lst ys => if xs.length + ys.length ≤ sizeLine then some (.lst (xs ++ ys)) else none
  | .sub, .int i, .int j => some (.int (i - j))
  | .mul, .int i, .int j => if decide (CMul i j) = true then some (.int (i * j)) else none
  | .mul, .lst xs, .int k => if (decide (-(2 ^ 63) ≤ k) && decide (k < 2 ^ 63) && decide (xs.length * k.toNat ≤ sizeLine)) = true then some (.lst (List.replicate k.toNat xs).flatten) else none
  | .fdiv, .int i, .int j => if decide (CDivN i j) = true then some (.int (i.fdiv j)) else none
  | .mod, .int i, .int j => if j = 0 then none else some (.int (i.fmod j))
  | .pow, .int i, .int j => if decide (CPow i j) = true then some (.int (i ^ j.toNat)) else none
  | _, _, _ => none

def isK : Kd → D → Option Bool
  | _, .fn _ => none
  | .int, .int _ => some true
  | .int, .bl _ => some true
  | .bool, .bl _ => some true
  | .str, .str _ => some true
  | .tuple, .tup _ => some true
  | .list, .lst _ => some true
  | .list, .ref _ => some true
  | .list, .frz _ => some true
  | .dict, .dK _ => some true
  | .dict, .dT _ => some true
  | _, _ => some false
/-- all intsD -/
def isKs : List Kd → D → Option Bool
  | [], _ => some false
  | k :: ks, d => match isK k d, isKs ks d with
    | some b, some c => some (b || c)
    | _, _ => none
/-- all ints -/
def intsD : List D → Option (List Int)
  | [] => some []
  | .int i :: l => (intsD l).map (i :: ·)
  | _ => none
def blsD : List D → Option (List Bool)
  | [] => some []
  | .bl i :: l => (blsD l).map (i :: ·)
  | _ => none
def maxI : Int → List Int → Int
  | m, [] => m
  | m, x :: l => maxI (if m < x then x else m) l
def minI : Int → List Int → Int
  | m, [] => m
  | m, x :: l => minI (if x < m then x else m) l
def insI (x : Int) : List Int → List Int
  | [] => [x]
  | y :: l => if x < y then x :: y :: l else y :: insI x l
def sortI (l : List Int) : List Int := l.foldl (fun acc x => insI x acc) []
def rngI (lo : Int) : Nat → List D
  | 0 => []
  | n + 1 => .int lo :: rngI (lo + 1) n
def cut {α : Type} (xs : List α) (lo hi : Option Int) : List α := (xs.drop (HT.sIx xs.length 0 lo)).take (HT.sIx xs.length xs.length hi - HT.sIx xs.length 0 lo)
def bltD : Blt → List D → Option D
  | .len, [.lst xs] => some (.int xs.length)
  | .len, [.frz xs] => some (.int xs.length)
  | .len, [.tup xs] => some (.int xs.length)
  | .len, [.str z] => if z.length ≤ sizeLine then some (.int z.length) else none
  | .len, [.dK kvs] => some (.int kvs.length)
  | .abs, [.int i] => some (.int (if i < 0 then -i else i))
  | .int, [.int i] => some (.int i)
  | .int, [.bl b] => some (.int (if b = true then 1 else 0))
  | .max, [.int i, .int j] => some (.int (if j > i then j else i))
  | .min, [.int i, .int j] => some (.int (if j < i then j else i))
  | .max, [.lst (.int i :: l)] => (intsD l).map fun l => .int (maxI i l)
  | .min, [.lst (.int i :: l)] => (intsD l).map fun l => .int (minI i l)
  | .sum, [.lst l] => (intsD l).map fun l => .int l.sum
  | .all, [.lst l] => (blsD l).map fun l => .bl (l.all id)
  | .any, [.lst l] => (blsD l).map fun l => .bl (l.any id)
  | .sorted, [.lst l] => (intsD l).map fun l => .lst ((sortI l).map .int)
  | .list, [.lst l] => some (.lst l)
  | .list, [.frz l] => some (.lst l)
  | .list, [.tup l] => some (.lst l)
  | .tuple, [.lst l] => some (.tup l)
  | .tuple, [.frz l] => some (.tup l)
  | .tuple, [.tup l] => some (.tup l)
  | .lrange, [.int n] => if (decide (-(2 ^ 61) ≤ n) && decide (n ≤ sizeLine)) = true then some (.lst (rngI 0 n.toNat)) else none
  | .lrange, [.int a, .int b] => if (decide (-(2 ^ 61) ≤ a) && decide (a ≤ 2 ^ 61) && decide (-(2 ^ 61) ≤ b) && decide (b - a ≤ sizeLine) && decide (b ≤ 2 ^ 61)) = true then some (.lst (rngI a (b - a).toNat)) else none
  | _, _ => none
def idxD (R : RH) : D → D → Option D
  | .lst xs, .int i => atI xs i
  | .frz xs, .int i => atI xs i
  | .tup xs, .int i => atI xs i
  | .str z, .int i => if z.length ≤ sizeLine then (atI z.cps.toList i).map fun c => .str ⟨#[c]⟩ else none
  | .ref r, .int i => match R[r]? with
    | some xs => atI xs i
    | none => none
  | _, _ => none
def lenR (R : RH) : D → D
  | .ref r => match R[r]? with
    | some xs => .lst xs
    | none => .non
  | d => d
def slcD : D → Option Int → Option Int → Option D
  | .lst xs, lo, hi => some (.lst (cut xs lo hi))
  | .frz xs, lo, hi => some (.lst (cut xs lo hi))
  | .tup xs, lo, hi => some (.tup (cut xs lo hi))
  | .str z, lo, hi => if z.length ≤ sizeLine then some (.str (cutS z lo hi)) else none
  | _, _, _ => none
def revD : D → Option D
  | .lst xs => some (.lst xs.reverse)
  | _ => none
/-- what a for or a comprehension walks -/
def itmD : D → Option (List D)
  | .lst xs | .frz xs | .tup xs => some xs
  | _ => none
def rngD : D → Option (List D)
  | .int n => if (decide (-(2 ^ 62) ≤ n) && decide (n ≤ sizeLine)) = true then some (rngI 0 n.toNat) else none
  | _ => none
def rngD2 : D → D → Option (List D)
  | .int a, .int b => if (decide (-(2 ^ 61) ≤ a) && decide (a ≤ 2 ^ 61) && decide (-(2 ^ 61) ≤ b) && decide (b ≤ 2 ^ 61) && decide (b - a ≤ sizeLine)) = true then some (rngI a (b - a).toNat) else none
  | _, _ => none
def enuL (i : Nat) : List D → List D
  | [] => []
  | x :: l => .tup [.int i, x] :: enuL (i + 1) l
def zipL : List D → List D → List D
  | x :: l, y :: m => .tup [x, y] :: zipL l m
  | _, _ => []

/-- the first place of an equal one -/
def findD (d : D) : List D → Option Nat
  | [] => none
  | z :: l => if deq z d = true then some 0 else (findD d l).map (· + 1)
/-- what the method stands on -/
def mthOn : Mth → D → Bool
  | .index, .lst _ => true
  | _, _ => false
def methD : Mth → D → List D → Option D
  | .index, .lst l, [d] => if (flt (.lst l) && flt d) = true then (findD d l).map fun j => .int j else none
  | _, _, _ => none
/-! ### targets -/
mutual
def setT : Tg → D → List Sl → Option (List Sl)
  | .nm i, d, σ => some (sS σ i (.sh d))
  | .tp ts, .tup ds, σ => setTs ts ds σ
  | .tp _, _, _ => none
def setTs : Tgs → List D → List Sl → Option (List Sl)
  | .nil, [], σ => some σ
  | .cons t ts, d :: ds, σ => match setT t d σ with
    | some σ1 => setTs ts ds σ1
    | none => none
  | _, _, _ => none
end
mutual
def tgs : Tg → List Nat
  | .nm i => [i]
  | .tp ts => tgss ts
def tgss : Tgs → List Nat
  | .nil => []
  | .cons t ts => tgs t ++ tgss ts
end
def isOw : Sl → Bool
  | .ow _ => true
  | _ => false
def killS : List Nat → List Sl → List Sl
  | [], σ => σ
  | i :: l, σ => sS (killS l σ) i .no
/-- a comprehension's own names: not own lists of the def -/
def setC (tg : Tg) (d : D) (σ : List Sl) : Option (List Sl) := if (tgs tg).any (fun i => isOw (gS σ i)) = true then none else setT tg d (killS (tgs tg) σ)
def escS : List Nat → List Sl → List Sl
  | [], σ => σ
  | i :: l, σ => escS l (match gS σ i with
    | .ow d => sS σ i (.sh d)
    | _ => σ)

/-! ### expressions -/
/-- kept somewhere: not a list that may still be changed -/
def stx (x : Ex) (σ : List Sl) (r : Res D) : Res D := match x with
  | .var i => if isOw (gS σ i) = true then .bad else r
  | _ => r
def lcL (f : D → RH → Res (Option D)) : List D → RH → Res (List D)
  | [], R => .ok [] R
  | d :: ds, R => match f d R with
    | .ok o R1 => match lcL f ds R1 with
      | .ok l R2 => .ok (match o with
        | some x => x :: l
        | none => l) R2
      | _ => .bad
    | _ => .bad
section
variable (ck : Nat → List D → RH → Res D)
mutual
def ev : Ex → List Sl → RH → Res D
  | .var i, σ, R => .of (gS σ i).val R
  | .con d, _, R => .ok d R
  | .tup es, σ, R => (evs es σ R).bind fun ds R => .ok (.tup ds) R
  | .lst es, σ, R => (evs es σ R).bind fun ds R => .ok (.lst ds) R
  | .bin o a b, σ, R => (ev a σ R).bind fun x R => (ev b σ R).bind fun y R => .of (binD o x y) R
  | .neg a, σ, R => (ev a σ R).bind fun x R => .of (negD x) R
  | .cmp o a b, σ, R => (ev a σ R).bind fun x R => (ev b σ R).bind fun y R => .of ((cmpD o x y).map .bl) R
  | .ch2 o p a b c, σ, R => (ev a σ R).bind fun x R => (ev b σ R).bind fun y R => match cmpD o x y with
    | some true => (ev c σ R).bind fun z R => .of ((cmpD p y z).map .bl) R
    | some false => .ok (.bl false) R
    | none => .bad
  | .and a es, σ, R => (ev a σ R).bind fun x R => match x with
    | .bl true => evAnd es σ R
    | .bl false => .ok (.bl false) R
    | _ => .bad
  | .or a es, σ, R => (ev a σ R).bind fun x R => match x with
    | .bl false => evOr es σ R
    | .bl true => .ok (.bl true) R
    | _ => .bad
  | .not a, σ, R => (ev a σ R).bind fun x R => .of (notD x) R
  | .ite c a b, σ, R => (ev c σ R).bind fun x R => match x with
    | .bl true => stx a σ (ev a σ R)
    | .bl false => stx b σ (ev b σ R)
    | _ => .bad
  | .call f es, σ, R => (evs es σ R).bind fun ds R => ck f ds R
  | .blt f es, σ, R => (evb es σ R).bind fun ds R => .of (bltD f (match f with
    | .len => ds.map (lenR R)
    | _ => ds)) R
  | .isi ks a, σ, R => (ev a σ R).bind fun x R => .of ((isKs ks x).map .bl) R
  | .meth m o es, σ, R => (ev o σ R).bind fun x R => if mthOn m x = true then (evb es σ R).bind fun ds R => .of (methD m x ds) R else .bad
  | .idx a i, σ, R => (ev a σ R).bind fun x R => (ev i σ R).bind fun y R => .of (idxD R x y) R
  | .slc a lo hi, σ, R => (ev a σ R).bind fun x R => (evo lo σ R).bind fun l R => (evo hi σ R).bind fun h R => .of (slcD x l h) R
  | .rev a, σ, R => (ev a σ R).bind fun x R => .of (revD x) R
  | .lc elt tg it cd, σ, R => (evi it σ R).bind fun ds R => (lcL (fun d R => match setC tg d σ with
    | none => .bad
    | some σ1 => (evc cd σ1 R).bind fun b R => if b = true then (stx elt σ1 (ev elt σ1 R)).bind fun x R => .ok (some x) R else .ok none R) ds R).bind fun ds R => .ok (.lst ds) R
/-- kept one by one -/
def evs : Exs → List Sl → RH → Res (List D)
  | .nil, _, R => .ok [] R
  | .cons e es, σ, R => (stx e σ (ev e σ R)).bind fun x R => (evs es σ R).bind fun xs R => .ok (x :: xs) R
/-- only read -/
def evb : Exs → List Sl → RH → Res (List D)
  | .nil, _, R => .ok [] R
  | .cons e es, σ, R => (ev e σ R).bind fun x R => (evb es σ R).bind fun xs R => .ok (x :: xs) R
def evAnd : Exs → List Sl → RH → Res D
  | .nil, _, _ => .bad
  | .cons e .nil, σ, R => stx e σ (ev e σ R)
  | .cons e es, σ, R => (ev e σ R).bind fun x R => match x with
    | .bl true => evAnd es σ R
    | .bl false => .ok (.bl false) R
    | _ => .bad
def evOr : Exs → List Sl → RH → Res D
  | .nil, _, _ => .bad
  | .cons e .nil, σ, R => stx e σ (ev e σ R)
  | .cons e es, σ, R => (ev e σ R).bind fun x R => match x with
    | .bl false => evOr es σ R
    | .bl true => .ok (.bl true) R
    | _ => .bad
def evo : Exo → List Sl → RH → Res (Option Int)
  | .no, _, R => .ok none R
  | .so e, σ, R => (ev e σ R).bind fun x R => match x with
    | .int i => .ok (some i) R
    | _ => .bad
def evc : Exo → List Sl → RH → Res Bool
  | .no, _, R => .ok true R
  | .so e, σ, R => (ev e σ R).bind fun x R => match x with
    | .bl b => .ok b R
    | _ => .bad
def evi : Itr → List Sl → RH → Res (List D)
  | .ex e, σ, R => (ev e σ R).bind fun x R => .of (itmD x) R
  | .rng a, σ, R => (ev a σ R).bind fun x R => .of (rngD x) R
  | .rng2 a b, σ, R => (ev a σ R).bind fun x R => (ev b σ R).bind fun y R => .of (rngD2 x y) R
  | .enu e, σ, R => (ev e σ R).bind fun x R => .of ((itmD x).map (enuL 0)) R
  | .zip a b, σ, R => (ev a σ R).bind fun x R => (ev b σ R).bind fun y R => match itmD x, itmD y with
    | some l, some m => .ok (zipL l m) R
    | _, _ => .bad
end
end
end Cw

end
section
/-! CwC: how own values lie in HandS' heap; what stays. -/
namespace Cw
open PySem L2

/-- what is fixed for the law's run: the written part, where the defs stand, where the classes stand -/
structure Fx where
  K : PySem.W.Frag
  fa : Nat → Option Addr
  ca : Nat → Option Addr
/-- a def's run: what its callers own, the heap and the identity lists at its entry -/
structure Act where
  O0 : List Addr
  He : Hp
  re : List Addr

def mask (H : Hp) (O : List Addr) : Hp := fun a => if a ∈ O then none else H a
theorem mask_in {H : Hp} {O : List Addr} {a : Addr} (h : a ∈ O) : mask H O a = none := if_pos h
theorem mask_out {H : Hp} {O : List Addr} {a : Addr} (h : a ∉ O) : mask H O a = H a := if_neg h
theorem mask_some {H : Hp} {O : List Addr} {a : Addr} {o : HO} (h : mask H O a = some o) : H a = some o ∧ a ∉ O := by
  unfold mask at h
  split at h
  · cases h
  · rename_i q
    exact ⟨h, q⟩
theorem mask_congr {H : Hp} {O O' : List Addr} (h : ∀ a, a ∈ O ↔ a ∈ O') : mask H O = mask H O' := by
  funext a
  unfold mask
  by_cases q : a ∈ O
  · rw [if_pos q, if_pos ((h a).mp q)]
  · rw [if_neg q, if_neg fun z => q ((h a).mpr z)]

mutual
/-- a value lies at v in the heap H -/
inductive RD (F : Fx) (ρ : List Addr) (H : Hp) : V → D → Prop
  | non : RD F ρ H .non .non
  | bl (b : Bool) : RD F ρ H (.bl b) (.bl b)
  | int (i : Int) : RD F ρ H (.int i) (.int i)
  | str (x : Str) : RD F ρ H (.str x) (.str x)
  | tup {a : Addr} {vs : List V} {ds : List D} : SqT F.K H a vs → RDs F ρ H vs ds → RD F ρ H (.ref a) (.tup ds)
  | lst {a : Addr} {vs : List V} {ds : List D} : H a = some (.lst vs) → RDs F ρ H vs ds → RD F ρ H (.ref a) (.lst ds)
  | frz {a : Addr} {vs : List V} {ds : List D} : SqL F.K H a vs → RDs F ρ H vs ds → RD F ρ H (.ref a) (.frz ds)
  | dK {a : Addr} {kvs : List (Key × V)} {kds : List (Key × D)} : H a = some (.dK kvs) → RDp F ρ H kvs kds → RD F ρ H (.ref a) (.dK kds)
  | dT {a : Addr} {kvs : List (List Key × V)} {kds : List (List Key × D)} : H a = some (.dT kvs) → RDt F ρ H kvs kds → RD F ρ H (.ref a) (.dT kds)
  | ref {a : Addr} {i : Nat} : ρ[i]? = some a → RD F ρ H (.ref a) (.ref i)
  | fn {a : Addr} {i : Nat} : F.fa i = some a → RD F ρ H (.ref a) (.fn i)
inductive RDs (F : Fx) (ρ : List Addr) (H : Hp) : List V → List D → Prop
  | nil : RDs F ρ H [] []
  | cons {v : V} {vs : List V} {d : D} {ds : List D} : RD F ρ H v d → RDs F ρ H vs ds → RDs F ρ H (v :: vs) (d :: ds)
inductive RDp (F : Fx) (ρ : List Addr) (H : Hp) : List (Key × V) → List (Key × D) → Prop
  | nil : RDp F ρ H [] []
  | cons {k : Key} {v : V} {vs : List (Key × V)} {d : D} {ds : List (Key × D)} : RD F ρ H v d → RDp F ρ H vs ds → RDp F ρ H ((k, v) :: vs) ((k, d) :: ds)
inductive RDt (F : Fx) (ρ : List Addr) (H : Hp) : List (List Key × V) → List (List Key × D) → Prop
  | nil : RDt F ρ H [] []
  | cons {k : List Key} {v : V} {vs : List (List Key × V)} {d : D} {ds : List (List Key × D)} : RD F ρ H v d → RDt F ρ H vs ds → RDt F ρ H ((k, v) :: vs) ((k, d) :: ds)
end
theorem sqT_mono {K : PySem.W.Frag} {H H' : Hp} {a : Addr} {vs : List V} (k : ∀ b o, H b = some o → H' b = some o) (h : SqT K H a vs) : SqT K H' a vs := by
  rcases h with (h | ⟨o, h⟩) | h
  · exact .inl (.inl (k _ _ h))
  · exact .inl (.inr ⟨o, k _ _ h⟩)
  · exact .inr h
theorem sqL_mono {K : PySem.W.Frag} {H H' : Hp} {a : Addr} {vs : List V} (k : ∀ b o, H b = some o → H' b = some o) (h : SqL K H a vs) : SqL K H' a vs := by
  rcases h with (h | ⟨o, h⟩) | h
  · exact .inl (.inl (k _ _ h))
  · exact .inl (.inr ⟨o, k _ _ h⟩)
  · exact .inr h
section
variable {F : Fx} {ρ ρ' : List Addr} {H H' : Hp}
theorem pre_get {ρ ρ' : List Addr} (p : ∃ e, ρ' = ρ ++ e) {i : Nat} {a : Addr} (h : ρ[i]? = some a) : ρ'[i]? = some a := by
  obtain ⟨e, rfl⟩ := p
  rw [List.getElem?_append_left (List.getElem?_eq_some_iff.mp h).1]
  exact h
mutual
theorem RD.mono (p : ∃ e, ρ' = ρ ++ e) (k : ∀ b o, H b = some o → H' b = some o) : ∀ {v : V} {d : D}, RD F ρ H v d → RD F ρ' H' v d
  | _, _, .non => .non
  | _, _, .bl b => .bl b
  | _, _, .int i => .int i
  | _, _, .str x => .str x
  | _, _, .tup h t => .tup (sqT_mono k h) (RDs.mono p k t)
  | _, _, .lst h t => .lst (k _ _ h) (RDs.mono p k t)
  | _, _, .frz h t => .frz (sqL_mono k h) (RDs.mono p k t)
  | _, _, .dK h t => .dK (k _ _ h) (RDp.mono p k t)
  | _, _, .dT h t => .dT (k _ _ h) (RDt.mono p k t)
  | _, _, .ref h => .ref (pre_get p h)
  | _, _, .fn h => .fn h
theorem RDs.mono (p : ∃ e, ρ' = ρ ++ e) (k : ∀ b o, H b = some o → H' b = some o) : ∀ {v : List V} {d : List D}, RDs F ρ H v d → RDs F ρ' H' v d
  | _, _, .nil => .nil
  | _, _, .cons h t => .cons (RD.mono p k h) (RDs.mono p k t)
theorem RDp.mono (p : ∃ e, ρ' = ρ ++ e) (k : ∀ b o, H b = some o → H' b = some o) : ∀ {v : List (Key × V)} {d : List (Key × D)}, RDp F ρ H v d → RDp F ρ' H' v d
  | _, _, .nil => .nil
  | _, _, .cons h t => .cons (RD.mono p k h) (RDp.mono p k t)
theorem RDt.mono (p : ∃ e, ρ' = ρ ++ e) (k : ∀ b o, H b = some o → H' b = some o) : ∀ {v : List (List Key × V)} {d : List (List Key × D)}, RDt F ρ H v d → RDt F ρ' H' v d
  | _, _, .nil => .nil
  | _, _, .cons h t => .cons (RD.mono p k h) (RDt.mono p k t)
end
theorem RDs.length : ∀ {vs : List V} {ds : List D}, RDs F ρ H vs ds → vs.length = ds.length
  | _, _, .nil => rfl
  | _, _, .cons _ t => congrArg (· + 1) (RDs.length t)
theorem RDs.get : ∀ {vs : List V} {ds : List D} {i : Nat} {d : D}, RDs F ρ H vs ds → ds[i]? = some d → ∃ v, vs[i]? = some v ∧ RD F ρ H v d
  | _, _, i, _, .nil, h => by simp at h
  | _, _, 0, _, .cons h t, e => by
    simp at e
    subst e
    exact ⟨_, rfl, h⟩
  | _, _, i + 1, _, .cons h t, e => by
    obtain ⟨v, h1, h2⟩ := RDs.get (i := i) t (by simpa using e)
    exact ⟨v, by simpa using h1, h2⟩
theorem RDs.getV : ∀ {vs : List V} {ds : List D} {i : Nat} {v : V}, RDs F ρ H vs ds → vs[i]? = some v → ∃ d, ds[i]? = some d ∧ RD F ρ H v d
  | _, _, i, _, .nil, h => by simp at h
  | _, _, 0, _, .cons h t, e => by
    simp at e
    subst e
    exact ⟨_, rfl, h⟩
  | _, _, i + 1, _, .cons h t, e => by
    obtain ⟨v, h1, h2⟩ := RDs.getV (i := i) t (by simpa using e)
    exact ⟨v, by simpa using h1, h2⟩
theorem RDs.append : ∀ {vs ws : List V} {ds es : List D}, RDs F ρ H vs ds → RDs F ρ H ws es → RDs F ρ H (vs ++ ws) (ds ++ es)
  | _, _, _, _, .nil, h => h
  | _, _, _, _, .cons a t, h => .cons a (RDs.append t h)
theorem RDs.take : ∀ {vs : List V} {ds : List D} (n : Nat), RDs F ρ H vs ds → RDs F ρ H (vs.take n) (ds.take n)
  | _, _, 0, _ => .nil
  | _, _, _ + 1, .nil => .nil
  | _, _, n + 1, .cons a t => .cons a (RDs.take n t)
theorem RDs.drop : ∀ {vs : List V} {ds : List D} (n : Nat), RDs F ρ H vs ds → RDs F ρ H (vs.drop n) (ds.drop n)
  | _, _, 0, h => h
  | _, _, _ + 1, .nil => .nil
  | _, _, n + 1, .cons a t => RDs.drop n t
theorem RDs.cut {vs : List V} {ds : List D} (lo hi : Option Int) (h : RDs F ρ H vs ds) : RDs F ρ H (cutV vs lo hi) (Cw.cut ds lo hi) := by
  unfold cutV Cw.cut
  rw [h.length]
  exact (h.drop _).take _
theorem RDs.reverse : ∀ {vs : List V} {ds : List D}, RDs F ρ H vs ds → RDs F ρ H vs.reverse ds.reverse
  | _, _, .nil => .nil
  | _, _, .cons a t => by
    rw [List.reverse_cons, List.reverse_cons]
    exact (RDs.reverse t).append (.cons a .nil)
theorem RDs.rep {vs : List V} {ds : List D} (h : RDs F ρ H vs ds) : ∀ k : Nat, RDs F ρ H (List.replicate k vs).flatten (List.replicate k ds).flatten
  | 0 => .nil
  | k + 1 => by
    rw [List.replicate_succ, List.replicate_succ, List.flatten_cons, List.flatten_cons]
    exact h.append (RDs.rep h k)
theorem RDs.set : ∀ {vs : List V} {ds : List D} {v : V} {d : D} (i : Nat), RDs F ρ H vs ds → RD F ρ H v d → RDs F ρ H (vs.set i v) (ds.set i d)
  | _, _, _, _, _, .nil, _ => .nil
  | _, _, _, _, 0, .cons a t, h => .cons h t
  | _, _, _, _, i + 1, .cons a t, h => .cons a (RDs.set i t h)
theorem RDs.eraseIdx : ∀ {vs : List V} {ds : List D} (i : Nat), RDs F ρ H vs ds → RDs F ρ H (vs.eraseIdx i) (ds.eraseIdx i)
  | _, _, _, .nil => .nil
  | _, _, 0, .cons a t => t
  | _, _, i + 1, .cons a t => .cons a (RDs.eraseIdx i t)
theorem RDs.atI {vs : List V} {ds : List D} {i : Int} {d : D} (h : RDs F ρ H vs ds) (e : L2.atI ds i = some d) : ∃ v, L2.atI vs i = some v ∧ RD F ρ H v d := by
  unfold L2.atI at e ⊢
  rw [h.length]
  cases q : ixN ds.length i with
  | none => rw [q] at e; cases e
  | some j =>
    rw [q] at e
    exact h.get e
theorem RDs.int : ∀ {vs : List V} {ds : List D} {ns : List Int}, RDs F ρ H vs ds → intsD ds = some ns → vs = ns.map V.int
  | _, _, _, .nil, e => by
    simp [intsD] at e
    subst e
    rfl
  | _, _, _, .cons (ds := l) (.int i) t, e => by
    simp only [intsD] at e
    cases q : intsD l with
    | none => rw [q] at e; cases e
    | some ms =>
      rw [q] at e
      cases e
      rw [List.map_cons, RDs.int t q]
  | _, _, _, .cons .non t, e => by simp [intsD] at e
  | _, _, _, .cons (.bl b) t, e => by simp [intsD] at e
  | _, _, _, .cons (.str b) t, e => by simp [intsD] at e
  | _, _, _, .cons (.tup _ _) t, e => by simp [intsD] at e
  | _, _, _, .cons (.lst _ _) t, e => by simp [intsD] at e
  | _, _, _, .cons (.frz _ _) t, e => by simp [intsD] at e
  | _, _, _, .cons (.dK _ _) t, e => by simp [intsD] at e
  | _, _, _, .cons (.dT _ _) t, e => by simp [intsD] at e
  | _, _, _, .cons (.ref _) t, e => by simp [intsD] at e
  | _, _, _, .cons (.fn _) t, e => by simp [intsD] at e
theorem RDs.bool : ∀ {vs : List V} {ds : List D} {ns : List Bool}, RDs F ρ H vs ds → blsD ds = some ns → vs = ns.map V.bl
  | _, _, _, .nil, e => by
    simp [blsD] at e
    subst e
    rfl
  | _, _, _, .cons (ds := l) (.bl i) t, e => by
    simp only [blsD] at e
    cases q : blsD l with
    | none => rw [q] at e; cases e
    | some ms =>
      rw [q] at e
      cases e
      rw [List.map_cons, RDs.bool t q]
  | _, _, _, .cons .non t, e => by simp [blsD] at e
  | _, _, _, .cons (.int b) t, e => by simp [blsD] at e
  | _, _, _, .cons (.str b) t, e => by simp [blsD] at e
  | _, _, _, .cons (.tup _ _) t, e => by simp [blsD] at e
  | _, _, _, .cons (.lst _ _) t, e => by simp [blsD] at e
  | _, _, _, .cons (.frz _ _) t, e => by simp [blsD] at e
  | _, _, _, .cons (.dK _ _) t, e => by simp [blsD] at e
  | _, _, _, .cons (.dT _ _) t, e => by simp [blsD] at e
  | _, _, _, .cons (.ref _) t, e => by simp [blsD] at e
  | _, _, _, .cons (.fn _) t, e => by simp [blsD] at e
theorem RDs.ofInts : ∀ (ns : List Int), RDs F ρ H (ns.map V.int) (ns.map D.int)
  | [] => .nil
  | n :: ns => .cons (.int n) (RDs.ofInts ns)
end

/-! ### slots -/
theorem gS_set : ∀ (σ : List Sl) (i j : Nat) (x : Sl), gS (sS σ i x) j = if j = i ∧ i < σ.length then x else gS σ j
  | [], i, j, x => by simp [sS, gS]
  | s :: l, 0, 0, x => by simp [sS, gS]
  | s :: l, 0, j + 1, x => by simp [sS, gS]
  | s :: l, i + 1, 0, x => by simp [sS, gS]
  | s :: l, i + 1, j + 1, x => by
    show gS (sS l i x) j = _
    rw [gS_set l i j x]
    simp [gS]
theorem sS_length : ∀ (σ : List Sl) (i : Nat) (x : Sl), (sS σ i x).length = σ.length
  | [], _, _ => rfl
  | _ :: l, 0, _ => rfl
  | _ :: l, i + 1, x => congrArg (· + 1) (sS_length l i x)

/-- the owned addresses -/
def owns (al : List (Option Addr)) : List Addr := al.filterMap id
def OO (A : Act) (ρ : List Addr) (al : List (Option Addr)) : List Addr := A.O0 ++ ρ ++ owns al
theorem mem_OO {A : Act} {ρ : List Addr} {al : List (Option Addr)} {a : Addr} : a ∈ OO A ρ al ↔ a ∈ A.O0 ∨ a ∈ ρ ∨ a ∈ owns al := by
  unfold OO
  rw [List.mem_append, List.mem_append, or_assoc]
theorem mem_owns {al : List (Option Addr)} {a : Addr} : a ∈ owns al ↔ ∃ i : Nat, al[i]? = some (some a) := by
  unfold owns
  rw [List.mem_filterMap]
  constructor
  · rintro ⟨o, h1, h2⟩
    obtain ⟨i, h⟩ := List.getElem?_of_mem h1
    exact ⟨i, by rw [h]; exact congrArg some h2⟩
  · rintro ⟨i, h⟩
    exact ⟨some a, List.mem_of_getElem? h, rfl⟩

/-- an own list or dict at a: its items lie in Hm -/
def OwR (F : Fx) (ρ : List Addr) (Hm H : Hp) (a : Addr) : D → Prop
  | .lst ds => ∃ vs, H a = some (.lst vs) ∧ RDs F ρ Hm vs ds
  | .dK kds => ∃ kvs, H a = some (.dK kvs) ∧ RDp F ρ Hm kvs kds
  | .dT kds => ∃ kvs, H a = some (.dT kvs) ∧ RDt F ρ Hm kvs kds
  | _ => False
def SlR (F : Fx) (ρ : List Addr) (Hm H : Hp) : Sl → Option Addr → Option V → Prop
  | .no, al, _ => al = none
  | .sh d, al, v => al = none ∧ ∃ x, v = some x ∧ RD F ρ Hm x d
  | .ow d, al, v => ∃ a, al = some a ∧ v = some (.ref a) ∧ OwR F ρ Hm H a d

structure Rel (F : Fx) (A : Act) (ρ : List Addr) (al : List (Option Addr)) (σ : List Sl) (R : RH) (σV : St) (H : Hp) : Prop where
  ls : σ.length = σV.length
  la : al.length = σV.length
  sl : ∀ i : Nat, i < σV.length → SlR F ρ (mask H (OO A ρ al)) H (gS σ i) (al.getD i none) (σV.getD i none)
  rl : ρ.length = R.length
  rf : ∀ (i : Nat) (a : Addr) (ds : List D), ρ[i]? = some a → R[i]? = some ds → ∃ vs, H a = some (.lst vs) ∧ RDs F ρ (mask H (OO A ρ al)) vs ds
  nd : (ρ ++ owns al).Nodup
  pre : ∃ e, ρ = A.re ++ e
  newO : ∀ a ∈ owns al, A.He a = none
  newR : ∀ a ∈ ρ, a ∉ A.re → A.He a = none
  fr : ∀ a o, A.He a = some o → a ∉ A.re → H a = some o
  o0 : ∀ a ∈ A.O0, H a ≠ none ∧ a ∉ ρ ∧ a ∉ owns al

/-- what an expression's evaluation leaves -/
structure Ext (ρ : List Addr) (H : Hp) (ρ' : List Addr) (H' : Hp) : Prop where
  pre : ∃ e, ρ' = ρ ++ e
  new : ∀ a ∈ ρ', a ∉ ρ → H a = none
  keep : ∀ a o, H a = some o → a ∉ ρ → H' a = some o
theorem Ext.refl {ρ : List Addr} {H : Hp} : Ext ρ H ρ H := ⟨⟨[], by simp⟩, fun a h n => absurd h n, fun _ _ h _ => h⟩
theorem Ext.trans {ρ ρ1 ρ2 : List Addr} {H H1 H2 : Hp} (a : Ext ρ H ρ1 H1) (b : Ext ρ1 H1 ρ2 H2) : Ext ρ H ρ2 H2 where
  pre := by
    obtain ⟨e, rfl⟩ := a.pre
    obtain ⟨e', rfl⟩ := b.pre
    exact ⟨e ++ e', by simp⟩
  new := fun c h n => by
    by_cases q : c ∈ ρ1
    · exact a.new c q n
    · cases z : H c with
      | none => rfl
      | some o =>
        have := a.keep c o z n
        rw [b.new c h q] at this
        cases this
  keep := fun c o h n => by
    have h1 := a.keep c o h n
    refine b.keep c o h1 fun q => ?_
    have := a.new c q n
    rw [h] at this
    cases this
section
variable {F : Fx} {A : Act} {ρ ρ' : List Addr} {al : List (Option Addr)} {σ : List Sl} {R R' : RH} {σV : St} {H H' : Hp}
theorem Rel.ltR (r : Rel F A ρ al σ R σV H) {a : Addr} (h : a ∈ ρ) : ∃ vs, H a = some (.lst vs) := by
  obtain ⟨i, hi⟩ := List.getElem?_of_mem h
  have hl : i < R.length := by rw [← r.rl]; exact (List.getElem?_eq_some_iff.mp hi).1
  obtain ⟨vs, e, _⟩ := r.rf i a R[i] hi (List.getElem?_eq_getElem hl)
  exact ⟨vs, e⟩
theorem Rel.ltO (r : Rel F A ρ al σ R σV H) {a : Addr} (h : a ∈ owns al) : H a ≠ none := by
  obtain ⟨i, hi⟩ := mem_owns.mp h
  have hl : i < σV.length := by rw [← r.la]; exact (List.getElem?_eq_some_iff.mp hi).1
  have q := r.sl i hl
  have e : al.getD i none = some a := by rw [List.getD_eq_getElem?_getD, hi]; rfl
  rw [e] at q
  cases z : gS σ i with
  | no => rw [z] at q; cases q
  | sh d => rw [z] at q; cases q.1
  | ow d =>
    rw [z] at q
    obtain ⟨b, e1, _, q⟩ := q
    cases e1
    cases d <;> first | exact False.elim q | (obtain ⟨vs, e, _⟩ := q; rw [e]; simp)
theorem Rel.ltB (r : Rel F A ρ al σ R σV H) {a : Addr} (h : a ∈ A.O0) : H a ≠ none := (r.o0 a h).1
theorem Rel.out (r : Rel F A ρ al σ R σV H) {p : Addr} (h : H p = none) : p ∉ OO A ρ al := fun m => by
  rcases mem_OO.mp m with m | m | m
  · exact r.ltB m h
  · obtain ⟨vs, e⟩ := r.ltR m
    rw [h] at e
    cases e
  · exact r.ltO m h
theorem Ext.mask (e : Ext ρ H ρ' H') : ∀ a o, mask H (OO A ρ al) a = some o → mask H' (OO A ρ' al) a = some o := fun a o h => by
  obtain ⟨h1, h2⟩ := mask_some h
  have n1 : a ∉ A.O0 := fun z => h2 (mem_OO.mpr (.inl z))
  have n2 : a ∉ ρ := fun z => h2 (mem_OO.mpr (.inr (.inl z)))
  have n3 : a ∉ owns al := fun z => h2 (mem_OO.mpr (.inr (.inr z)))
  have n4 : a ∉ ρ' := fun z => by
    have := e.new a z n2
    rw [h1] at this
    cases this
  rw [mask_out]
  · exact e.keep a o h1 n2
  · intro z
    rcases mem_OO.mp z with z | z | z
    · exact n1 z
    · exact n4 z
    · exact n3 z
/-- a state that differs in new objects and in the identity lists -/
theorem Rel.step (r : Rel F A ρ al σ R σV H) (e : Ext ρ H ρ' H') (nd : ρ'.Nodup) (rl : ρ'.length = R'.length) (rf : ∀ (i : Nat) (a : Addr) (ds : List D), ρ'[i]? = some a → R'[i]? = some ds → ∃ vs, H' a = some (.lst vs) ∧ RDs F ρ' (mask H' (OO A ρ' al)) vs ds) :
    Rel F A ρ' al σ R' σV H' where
  ls := r.ls
  la := r.la
  sl := fun i hi => by
    have q := r.sl i hi
    cases z : gS σ i with
    | no => rw [z] at q; exact q
    | sh d =>
      rw [z] at q
      obtain ⟨q1, x, q2, q3⟩ := q
      exact ⟨q1, x, q2, q3.mono e.pre e.mask⟩
    | ow d =>
      rw [z] at q
      obtain ⟨a, q1, q2, q3⟩ := q
      have ha : a ∈ owns al := mem_owns.mpr ⟨i, by
        rw [List.getD_eq_getElem?_getD] at q1
        cases y : al[i]? with
        | none => rw [y] at q1; cases q1
        | some o => rw [y] at q1; exact congrArg some q1⟩
      have na : a ∉ ρ := fun m => (List.nodup_append.mp r.nd).2.2 a m a ha rfl
      refine ⟨a, q1, q2, ?_⟩
      cases d <;> first | exact False.elim q3 | (obtain ⟨vs, q4, q5⟩ := q3; exact ⟨vs, e.keep a _ q4 na, q5.mono e.pre e.mask⟩)
  rl := rl
  rf := rf
  nd := by
    refine List.nodup_append.mpr ⟨nd, (List.nodup_append.mp r.nd).2.1, fun a h b h2 z => ?_⟩
    subst z
    by_cases q : a ∈ ρ
    · exact (List.nodup_append.mp r.nd).2.2 a q a h2 rfl
    · exact r.ltO h2 (e.new a h q)
  pre := by
    obtain ⟨x, rfl⟩ := r.pre
    obtain ⟨y, hy⟩ := e.pre
    exact ⟨x ++ y, by rw [hy, List.append_assoc]⟩
  newO := r.newO
  newR := fun a h n => by
    by_cases q : a ∈ ρ
    · exact r.newR a q n
    · cases z : A.He a with
      | none => rfl
      | some o =>
        have := r.fr a o z n
        rw [e.new a h q] at this
        cases this
  fr := fun a o h n => by
    refine e.keep a o (r.fr a o h n) fun q => ?_
    have := r.newR a q n
    rw [h] at this
    cases this
  o0 := fun a h => by
    obtain ⟨h1, h2, h3⟩ := r.o0 a h
    have n : a ∉ ρ' := fun m => h1 (e.new a m h2)
    refine ⟨?_, n, h3⟩
    cases z : H a with
    | none => exact absurd z h1
    | some o => rw [e.keep a o z h2]; simp
/-- new objects alone -/
theorem Rel.grow (r : Rel F A ρ al σ R σV H) (k : ∀ a o, H a = some o → H' a = some o) : Rel F A ρ al σ R σV H' := by
  have e : Ext ρ H ρ H' := ⟨⟨[], by simp⟩, fun a h n => absurd h n, fun a o h _ => k a o h⟩
  refine r.step e (List.nodup_append.mp r.nd).1 r.rl fun i a ds h1 h2 => ?_
  obtain ⟨vs, q1, q2⟩ := r.rf i a ds h1 h2
  exact ⟨vs, k _ _ q1, q2.mono e.pre e.mask⟩
theorem upd_keep {p : Addr} {o : HO} (hp : H p = none) : ∀ a u, H a = some u → upd H p o a = some u := fun a u h => by rw [upd_ne (ne_of_none h hp)]; exact h
theorem ext_grow (k : ∀ a o, H a = some o → H' a = some o) : Ext ρ H ρ H' := ⟨⟨[], by simp⟩, fun a h n => absurd h n, fun a o h _ => k a o h⟩
end
end Cw

end
section
/-! CwD: readings of own expressions; the rules. -/
namespace Cw
open PySem L2

/-- what is wanted of an exception of the class c -/
abbrev XW := Nat → L2.St → Hp → Prop
def XW.wx (F : Fx) (W : XW) : WX := fun cls d σ H => ∃ c C, cls = .ref C ∧ F.ca c = some C ∧ d = none ∧ W c σ H
def Post {α β : Type} (F : Fx) (A : Act) (al : List (Option Addr)) (W : XW) (σ : List Sl) (σV : L2.St) (ρ : List Addr) (H : Hp) (r : Res α) (Rl : List Addr → Hp → β → α → Prop) (Q : β → Hp → Prop) : Prop := match r with
  | .ok d R' => ∀ v H' ρ', Rel F A ρ' al σ R' σV H' → Ext ρ H ρ' H' → Rl ρ' H' v d → Q v H'
  | .exc c R' => ∀ H' ρ', Rel F A ρ' al σ R' σV H' → Ext ρ H ρ' H' → W c σV H'
  | .bad => False
/-- kept -/
def RM (F : Fx) (A : Act) (al : List (Option Addr)) : List Addr → Hp → V → D → Prop := fun ρ H v d => RD F ρ (mask H (OO A ρ al)) v d
/-- only read: it may be an own list -/
def RT (F : Fx) (A : Act) (al : List (Option Addr)) : List Addr → Hp → V → D → Prop := fun ρ H v d => RD F ρ (mask H (OO A ρ al)) v d ∨ ∃ a, v = .ref a ∧ a ∉ ρ ∧ OwR F ρ (mask H (OO A ρ al)) H a d
def RMs (F : Fx) (A : Act) (al : List (Option Addr)) : List Addr → Hp → List V → List D → Prop := fun ρ H v d => RDs F ρ (mask H (OO A ρ al)) v d
inductive All2 {α β : Type} (P : α → β → Prop) : List α → List β → Prop
  | nil : All2 P [] []
  | cons {a : α} {b : β} {l : List α} {m : List β} : P a b → All2 P l m → All2 P (a :: l) (b :: m)
theorem All2.imp {α β : Type} {P P' : α → β → Prop} (h : ∀ a b, P a b → P' a b) : ∀ {l : List α} {m : List β}, All2 P l m → All2 P' l m
  | _, _, .nil => .nil
  | _, _, .cons a t => .cons (h _ _ a) (All2.imp h t)
def RTs (F : Fx) (A : Act) (al : List (Option Addr)) : List Addr → Hp → List V → List D → Prop := fun ρ H v d => All2 (RT F A al ρ H) v d
section
variable {F : Fx} {A : Act} {al : List (Option Addr)} {W : XW} {σ : List Sl} {σV : L2.St} {ρ ρ1 ρ2 : List Addr} {H H1 H2 : Hp} {R R1 R2 : RH}
theorem Post.ext {α β : Type} {r : Res α} {Rl : List Addr → Hp → β → α → Prop} {Q : β → Hp → Prop} (p : Post F A al W σ σV ρ H r Rl Q) (e : Ext ρ H ρ1 H1) : Post F A al W σ σV ρ1 H1 r Rl Q := by
  cases r with
  | ok d R' => exact fun v H' ρ' a b c => p v H' ρ' a (e.trans b) c
  | exc c R' => exact fun H' ρ' a b => p H' ρ' a (e.trans b)
  | bad => exact p
theorem Post.bind {α β γ δ : Type} {r : Res α} {f : α → RH → Res γ} {Rl : List Addr → Hp → β → α → Prop} {Rl2 : List Addr → Hp → δ → γ → Prop} {Q : δ → Hp → Prop} {Q1 : β → Hp → Prop}
    (p : Post F A al W σ σV ρ H (r.bind f) Rl2 Q)
    (h : ∀ d R1 v H1 ρ1, Rel F A ρ1 al σ R1 σV H1 → Ext ρ H ρ1 H1 → Rl ρ1 H1 v d → Post F A al W σ σV ρ1 H1 (f d R1) Rl2 Q → Q1 v H1) : Post F A al W σ σV ρ H r Rl Q1 := by
  cases r with
  | ok d R' => exact fun v H' ρ' a b c => h d R' v H' ρ' a b c (p.ext b)
  | exc c R' => exact p
  | bad => exact p
theorem Post.of {α β : Type} {o : Option α} {Rl : List Addr → Hp → β → α → Prop} {Q : β → Hp → Prop} (p : Post F A al W σ σV ρ H (Res.of o R) Rl Q) : ∃ d, o = some d ∧ Post F A al W σ σV ρ H (.ok d R) Rl Q := by
  cases o with
  | none => exact p.elim
  | some d => exact ⟨d, rfl, p⟩
/-- the end: the same heap -/
theorem Post.here {α β : Type} {d : α} {v : β} {Rl : List Addr → Hp → β → α → Prop} {Q : β → Hp → Prop} (p : Post F A al W σ σV ρ H (.ok d R) Rl Q) (r : Rel F A ρ al σ R σV H) (q : Rl ρ H v d) : Q v H := p v H ρ r Ext.refl q
/-- the end: a new object -/
theorem Post.new {α β : Type} {d : α} {v : β} {p : Addr} {o : HO} {Rl : List Addr → Hp → β → α → Prop} {Q : β → Hp → Prop} (q : Post F A al W σ σV ρ H (.ok d R) Rl Q) (r : Rel F A ρ al σ R σV H) (hp : H p = none) (z : Rl ρ (upd H p o) v d) : Q v (upd H p o) :=
  q v _ ρ (r.grow (upd_keep hp)) (ext_grow (upd_keep hp)) z
theorem grow_mask {p : Addr} {o : HO} (hp : H p = none) : ∀ a u, mask H (OO A ρ al) a = some u → mask (upd H p o) (OO A ρ al) a = some u := fun a u h => by
  obtain ⟨h1, h2⟩ := mask_some h
  rw [mask_out h2]
  exact upd_keep hp a u h1
theorem Rel.newMask (r : Rel F A ρ al σ R σV H) {p : Addr} {o : HO} (hp : H p = none) : mask (upd H p o) (OO A ρ al) p = some o := by
  rw [mask_out (r.out hp), upd_same]
theorem RM.tup (r : Rel F A ρ al σ R σV H) {p : Addr} {vs : List V} {ds : List D} (hp : H p = none) (h : RMs F A al ρ H vs ds) : RM F A al ρ (upd H p (.tup vs)) (.ref p) (.tup ds) :=
  RD.tup (.inl (.inl (r.newMask hp))) (RDs.mono ⟨[], by simp⟩ (grow_mask hp) h)
theorem RM.lst (r : Rel F A ρ al σ R σV H) {p : Addr} {vs : List V} {ds : List D} (hp : H p = none) (h : RMs F A al ρ H vs ds) : RM F A al ρ (upd H p (.lst vs)) (.ref p) (.lst ds) :=
  RD.lst (r.newMask hp) (RDs.mono ⟨[], by simp⟩ (grow_mask hp) h)
theorem RM.rt {v : V} {d : D} (h : RM F A al ρ H v d) : RT F A al ρ H v d := .inl h
theorem RM.ext {v : V} {d : D} (h : RM F A al ρ H v d) (e : Ext ρ H ρ1 H1) : RM F A al ρ1 H1 v d := RD.mono e.pre e.mask h
theorem RMs.ext {v : List V} {d : List D} (h : RMs F A al ρ H v d) (e : Ext ρ H ρ1 H1) : RMs F A al ρ1 H1 v d := RDs.mono e.pre e.mask h
theorem RT.ext {v : V} {d : D} (h : RT F A al ρ H v d) (e : Ext ρ H ρ1 H1) : RT F A al ρ1 H1 v d := by
  rcases h with h | ⟨a, rfl, n, h⟩
  · exact .inl (RM.ext h e)
  · refine .inr ⟨a, rfl, fun m => ?_, ?_⟩
    · cases d <;> first | exact False.elim h | (obtain ⟨vs, q, _⟩ := h; have := e.new a m n; rw [q] at this; cases this)
    · cases d <;> first | exact False.elim h | (obtain ⟨vs, q, q2⟩ := h; exact ⟨vs, e.keep a _ q n, q2.mono e.pre e.mask⟩)
theorem RTs.ext {v : List V} {d : List D} (h : RTs F A al ρ H v d) (e : Ext ρ H ρ1 H1) : RTs F A al ρ1 H1 v d := All2.imp (fun _ _ x => RT.ext x e) h
/-! what is read of them -/
theorem RT.non {v : V} (h : RT F A al ρ H v .non) : v = .non := by
  rcases h with h | ⟨a, _, _, h⟩
  · cases h; rfl
  · exact h.elim
theorem RT.bl {v : V} {b : Bool} (h : RT F A al ρ H v (.bl b)) : v = .bl b := by
  rcases h with h | ⟨a, _, _, h⟩
  · cases h; rfl
  · exact h.elim
theorem RT.int {v : V} {b : Int} (h : RT F A al ρ H v (.int b)) : v = .int b := by
  rcases h with h | ⟨a, _, _, h⟩
  · cases h; rfl
  · exact h.elim
theorem RT.str {v : V} {b : Str} (h : RT F A al ρ H v (.str b)) : v = .str b := by
  rcases h with h | ⟨a, _, _, h⟩
  · cases h; rfl
  · exact h.elim
theorem sqT_of {O : List Addr} {a : Addr} {vs : List V} (h : SqT F.K (mask H O) a vs) : SqT F.K H a vs := sqT_mono (fun _ _ q => (mask_some q).1) h
theorem sqL_of {O : List Addr} {a : Addr} {vs : List V} (h : SqL F.K (mask H O) a vs) : SqL F.K H a vs := sqL_mono (fun _ _ q => (mask_some q).1) h
theorem RT.tup {v : V} {ds : List D} (h : RT F A al ρ H v (.tup ds)) : ∃ a vs, v = .ref a ∧ SqT F.K H a vs ∧ RMs F A al ρ H vs ds := by
  rcases h with h | ⟨a, _, _, h⟩
  · cases h with
    | tup h t => exact ⟨_, _, rfl, sqT_of h, t⟩
  · exact h.elim
theorem RT.lst {v : V} {ds : List D} (h : RT F A al ρ H v (.lst ds)) : ∃ a vs, v = .ref a ∧ H a = some (.lst vs) ∧ RMs F A al ρ H vs ds := by
  rcases h with h | ⟨a, rfl, _, vs, h, t⟩
  · cases h with
    | lst h t => exact ⟨_, _, rfl, (mask_some h).1, t⟩
  · exact ⟨_, _, rfl, h, t⟩
theorem RT.frz {v : V} {ds : List D} (h : RT F A al ρ H v (.frz ds)) : ∃ a vs, v = .ref a ∧ SqL F.K H a vs ∧ RMs F A al ρ H vs ds := by
  rcases h with h | ⟨a, _, _, h⟩
  · cases h with
    | frz h t => exact ⟨_, _, rfl, sqL_of h, t⟩
  · exact h.elim
theorem RT.dK {v : V} {ds : List (Key × D)} (h : RT F A al ρ H v (.dK ds)) : ∃ a vs, v = .ref a ∧ H a = some (.dK vs) ∧ RDp F ρ (mask H (OO A ρ al)) vs ds := by
  rcases h with h | ⟨a, rfl, _, vs, h, t⟩
  · cases h with
    | dK h t => exact ⟨_, _, rfl, (mask_some h).1, t⟩
  · exact ⟨_, _, rfl, h, t⟩
theorem RT.ref {v : V} {i : Nat} (h : RT F A al ρ H v (.ref i)) : ∃ a, v = .ref a ∧ ρ[i]? = some a := by
  rcases h with h | ⟨a, _, _, h⟩
  · cases h with
    | ref h => exact ⟨_, rfl, h⟩
  · exact h.elim
theorem RMs.length {vs : List V} {ds : List D} (h : RMs F A al ρ H vs ds) : vs.length = ds.length := RDs.length h
end

/-! ### readings -/
section
variable (F : Fx) (W : XW) (ck : Nat → List D → RH → Res D)
/-- kept -/
def tS (x : Ex) : TE := fun σV H Q => ∃ A ρ al σ R, Rel F A ρ al σ R σV H ∧ Post F A al W σ σV ρ H (stx x σ (ev ck x σ R)) (RM F A al) Q
/-- only read -/
def tB (x : Ex) : TE := fun σV H Q => ∃ A ρ al σ R, Rel F A ρ al σ R σV H ∧ Post F A al W σ σV ρ H (ev ck x σ R) (RT F A al) Q
def tAs (xs : Exs) : TA := fun σV H Q => ∃ A ρ al σ R, Rel F A ρ al σ R σV H ∧ Post F A al W σ σV ρ H (evs ck xs σ R) (RMs F A al) Q
def tAb (xs : Exs) : TA := fun σV H Q => ∃ A ρ al σ R, Rel F A ρ al σ R σV H ∧ Post F A al W σ σV ρ H (evb ck xs σ R) (RTs F A al) Q
/-- a test -/
def RB : List Addr → Hp → Bool → D → Prop := fun _ _ b d => d = .bl b
def tT (x : Ex) : TT := fun σV H Q => ∃ A ρ al σ R, Rel F A ρ al σ R σV H ∧ Post F A al W σ σV ρ H (ev ck x σ R) RB Q
end
theorem PE.by {X : Cx} {e : Expr} {t t' : TE} (h : PE X e t) (i : ∀ σ H Q, t' σ H Q → t σ H Q) : PE X e t' := ⟨fun pins s σ H Q I q => h.run pins s σ H Q I (i σ H Q q)⟩
theorem PA.by {X : Cx} {e : List Expr} {t t' : TA} (h : PA X e t) (i : ∀ σ H Q, t' σ H Q → t σ H Q) : PA X e t' := ⟨fun pos pins s σ H Q I q => h.run pos pins s σ H Q I (i σ H Q q)⟩
theorem PT.by {X : Cx} {e : Expr} {t t' : TT} (h : PT X e t) (i : ∀ σ H Q, t' σ H Q → t σ H Q) : PT X e t' := ⟨fun pins s σ H Q I q => h.run pins s σ H Q I (i σ H Q q)⟩
theorem PW.by {X : Cx} {e : Expr} {t t' : TT} (h : PW X e t) (i : ∀ σ H Q, t' σ H Q → t σ H Q) : PW X e t' := ⟨fun wh pins s σ H Q I q => h.run wh pins s σ H Q I (i σ H Q q)⟩

def isVar : Ex → Bool
  | .var _ => true
  | _ => false
theorem stx_not {x : Ex} {σ : List Sl} {r : Res D} (h : isVar x = false) : stx x σ r = r := by
  cases x <;> first | rfl | cases h
section
variable {F : Fx} {A : Act} {W : XW} {ck : Nat → List D → RH → Res D} {X : Cx} {e : Expr} {x : Ex}
/-- what is kept may be read -/
theorem tB_of (hv : isVar x = false) (h : PE X e (tS F W ck x)) : PE X e (tB F W ck x) := PE.by h fun σV H Q ⟨A, ρ, al, σ, R, r, p⟩ => ⟨A, ρ, al, σ, R, r, by
  rw [stx_not hv]
  cases q : ev ck x σ R with
  | ok d R' =>
    rw [q] at p
    exact fun v H' ρ' a b c => p v H' ρ' a b (RM.rt c)
  | exc c R' => rw [q] at p; exact p
  | bad => rw [q] at p; exact p⟩

/-! ### names, constants -/
theorem slot_at {i : Nat} {σ : List Sl} {d : Sl} : gS σ i = d → d ≠ .no → i < σ.length := by
  induction σ generalizing i with
  | nil => intro h n; exact absurd h.symm n
  | cons s l ih =>
    intro h n
    cases i with
    | zero => exact Nat.succ_pos _
    | succ i => exact Nat.succ_lt_succ (ih (i := i) h n)
theorem getD_some {σV : L2.St} {i : Nat} {v : V} (h : σV.getD i none = some v) : σV[i]? = some (some v) := by
  rw [List.getD_eq_getElem?_getD] at h
  cases q : σV[i]? with
  | none => rw [q] at h; cases h
  | some o => rw [q] at h; exact congrArg some h
theorem Rel.sh {ρ : List Addr} {al : List (Option Addr)} {σ : List Sl} {R : RH} {σV : L2.St} {H : Hp} (r : Rel F A ρ al σ R σV H) {i : Nat} {d : D} (h : gS σ i = .sh d) : ∃ v, σV[i]? = some (some v) ∧ RM F A al ρ H v d := by
  have hi := slot_at h (by simp)
  have q := r.sl i (by rw [← r.ls]; exact hi)
  rw [h] at q
  obtain ⟨_, v, q2, q3⟩ := q
  exact ⟨v, getD_some q2, q3⟩
theorem Rel.ow {ρ : List Addr} {al : List (Option Addr)} {σ : List Sl} {R : RH} {σV : L2.St} {H : Hp} (r : Rel F A ρ al σ R σV H) {i : Nat} {d : D} (h : gS σ i = .ow d) : ∃ a, σV[i]? = some (some (.ref a)) ∧ al.getD i none = some a ∧ a ∈ owns al ∧ a ∉ ρ ∧ OwR F ρ (mask H (OO A ρ al)) H a d := by
  have hi := slot_at h (by simp)
  have q := r.sl i (by rw [← r.ls]; exact hi)
  rw [h] at q
  obtain ⟨a, q1, q2, q3⟩ := q
  have ha : a ∈ owns al := mem_owns.mpr ⟨i, by
    rw [List.getD_eq_getElem?_getD] at q1
    cases y : al[i]? with
    | none => rw [y] at q1; cases q1
    | some o => rw [y] at q1; exact congrArg some q1⟩
  exact ⟨a, getD_some q2, q1, ha, fun m => (List.nodup_append.mp r.nd).2.2 a m a ha rfl, q3⟩
theorem snd_varB {i : Nat} (h : PE X e (tVar i)) : PE X e (tB F W ck (.var i)) := PE.by h fun σV H Q ⟨A, ρ, al, σ, R, r, p⟩ => by
  obtain ⟨d, e1, p⟩ := Post.of p
  cases q : gS σ i with
  | no => rw [q] at e1; cases e1
  | sh d' =>
    rw [q] at e1
    cases e1
    obtain ⟨v, h1, h2⟩ := r.sh q
    exact ⟨v, h1, p.here r (.inl h2)⟩
  | ow d' =>
    rw [q] at e1
    cases e1
    obtain ⟨a, h1, _, _, h3, h4⟩ := r.ow q
    exact ⟨_, h1, p.here r (.inr ⟨a, rfl, h3, h4⟩)⟩
theorem snd_varS {i : Nat} (h : PE X e (tVar i)) : PE X e (tS F W ck (.var i)) := PE.by h fun σV H Q ⟨A, ρ, al, σ, R, r, p⟩ => by
  unfold stx at p
  cases q : gS σ i with
  | no => simp only [q, isOw] at p; obtain ⟨d, e1, _⟩ := Post.of (R := R) (by simpa [ev, q, Sl.val] using p); cases e1
  | sh d' =>
    have p : Post F A al W σ σV ρ H (Res.of (some d') R) (RM F A al) Q := by simpa [ev, q, Sl.val, isOw] using p
    obtain ⟨v, h1, h2⟩ := r.sh q
    exact ⟨v, h1, p v H ρ r Ext.refl h2⟩
  | ow d' => simp [q, isOw] at p; exact p.elim
/-- a constant of the text or of the module -/
def ConOk (F : Fx) (v : V) (d : D) : Prop := ∀ ρ H, RD F ρ H v d
theorem snd_con {v : V} {d : D} (h : PE X e (tC v)) (c : ConOk F v d) : PE X e (tS F W ck (.con d)) := PE.by h fun σV H Q ⟨A, ρ, al, σ, R, r, p⟩ => p v H ρ r Ext.refl (c _ _)
/-! ### lists of arguments -/
def isStar : Expr → Bool
  | .Starred .. => true
  | _ => false
theorem star_cons {e : Expr} {es : List Expr} {env : Env} (h : isStar e = false) : starEach (e :: es) env = (false, eval e env) :: starEach es env := by
  cases e <;> first | rfl | cases h
theorem snd_nilS : PA X [] (tAs F W ck .nil) := PA.by pa_nil fun σV H Q ⟨A, ρ, al, σ, R, r, p⟩ => p [] H ρ r Ext.refl .nil
theorem snd_nilB : PA X [] (tAb F W ck .nil) := PA.by pa_nil fun σV H Q ⟨A, ρ, al, σ, R, r, p⟩ => p [] H ρ r Ext.refl .nil
theorem snd_consS {es : List Expr} {xs : Exs} (hs : isStar e = false) (h : PE X e (tS F W ck x)) (t : PA X es (tAs F W ck xs)) : PA X (e :: es) (tAs F W ck (.cons x xs)) :=
  PA.by (pa_cons h t (star_cons hs)) fun σV H Q ⟨A, ρ, al, σ, R, r, p⟩ => ⟨A, ρ, al, σ, R, r, Post.bind (Q1 := fun v H1 => tAs F W ck xs σV H1 fun vs H2 => Q (v :: vs) H2) p fun d R1 v H1 ρ1 r1 e1 q1 p1 => ⟨A, ρ1, al, σ, R1, r1, p1.bind fun ds R2 vs H2 ρ2 r2 e2 q2 p2 => p2 _ H2 ρ2 r2 Ext.refl (.cons (RM.ext q1 e2) q2)⟩⟩
theorem snd_consB {es : List Expr} {xs : Exs} (hs : isStar e = false) (h : PE X e (tB F W ck x)) (t : PA X es (tAb F W ck xs)) : PA X (e :: es) (tAb F W ck (.cons x xs)) :=
  PA.by (pa_cons h t (star_cons hs)) fun σV H Q ⟨A, ρ, al, σ, R, r, p⟩ => ⟨A, ρ, al, σ, R, r, Post.bind (Q1 := fun v H1 => tAb F W ck xs σV H1 fun vs H2 => Q (v :: vs) H2) p fun d R1 v H1 ρ1 r1 e1 q1 p1 => ⟨A, ρ1, al, σ, R1, r1, p1.bind fun ds R2 vs H2 ρ2 r2 e2 q2 p2 => p2 _ H2 ρ2 r2 Ext.refl (.cons (RT.ext q1 e2) q2)⟩⟩
def lenX : Exs → Nat
  | .nil => 0
  | .cons _ es => lenX es + 1
theorem evs_len : ∀ {xs : Exs} {σ : List Sl} {R R' : RH} {ds : List D}, evs ck xs σ R = .ok ds R' → ds.length = lenX xs
  | .nil, σ, R, R', ds, h => by
    simp only [evs] at h
    cases h
    rfl
  | .cons x xs, σ, R, R', ds, h => by
    simp only [evs] at h
    cases q : stx x σ (ev ck x σ R) with
    | ok d R1 =>
      rw [q] at h
      simp only [Res.bind] at h
      cases q2 : evs ck xs σ R1 with
      | ok l R2 =>
        rw [q2] at h
        cases h
        exact congrArg (· + 1) (evs_len q2)
      | exc c R2 => rw [q2] at h; cases h
      | bad => rw [q2] at h; cases h
    | exc c R2 => rw [q] at h; cases h
    | bad => rw [q] at h; cases h
theorem line_of {n : Nat} (h : n ≤ 1000) : n ≤ sizeLine := Nat.le_trans h (by decide)
theorem snd_tup {es : List Expr} {xs : Exs} {pos : Pos} {x1} (h : PA X es (tAs F W ck xs)) (hl : lenX xs ≤ 1000) : PE X (.Tuple es x1 pos) (tS F W ck (.tup xs)) :=
  PE.by (pe_tup h) fun σV H Q ⟨A, ρ, al, σ, R, r, p⟩ => ⟨A, ρ, al, σ, R, r, by
    have p : Post F A al W σ σV ρ H ((evs ck xs σ R).bind fun ds R => .ok (.tup ds) R) (RM F A al) Q := p
    cases q : evs ck xs σ R with
    | ok ds R1 =>
      rw [q] at p
      exact fun vs H1 ρ1 r1 e1 q1 => ⟨by rw [RMs.length q1, evs_len q]; exact line_of hl, fun a ha => (Post.ext p e1).new r1 ha (RM.tup r1 ha q1)⟩
    | exc c R1 => rw [q] at p; exact p
    | bad => rw [q] at p; exact p⟩
theorem snd_lst {es : List Expr} {xs : Exs} {pos : Pos} (h : PA X es (tAs F W ck xs)) (hl : lenX xs ≤ 1000) : PE X (.List es pos) (tS F W ck (.lst xs)) :=
  PE.by (pe_lst h) fun σV H Q ⟨A, ρ, al, σ, R, r, p⟩ => ⟨A, ρ, al, σ, R, r, by
    have p : Post F A al W σ σV ρ H ((evs ck xs σ R).bind fun ds R => .ok (.lst ds) R) (RM F A al) Q := p
    cases q : evs ck xs σ R with
    | ok ds R1 =>
      rw [q] at p
      exact fun vs H1 ρ1 r1 e1 q1 => ⟨by rw [RMs.length q1, evs_len q]; exact line_of hl, fun a ha => (Post.ext p e1).new r1 ha (RM.lst r1 ha q1)⟩
    | exc c R1 => rw [q] at p; exact p
    | bad => rw [q] at p; exact p⟩
end
end Cw

end
section
/-! CwE: operators, comparisons, tests. -/
namespace Cw
open PySem L2 PyProof.Rows

/-! ### data as the library's -/
mutual
def toPy : D → PyData
  | .non => .none
  | .bl b => .bool b
  | .int i => .int i
  | .str x => .str x
  | .tup xs => .tuple (toPys xs)
  | .lst xs => .list (toPys xs)
  | _ => .none
def toPys : List D → List PyData
  | [] => []
  | x :: xs => toPy x :: toPys xs
end
mutual
theorem canLay_of : ∀ d : D, plain d = true → (toPy d).canLay0 = true
  | .non, _ => by simp [toPy, PyData.canLay0]
  | .bl _, _ => by simp [toPy, PyData.canLay0]
  | .int _, _ => by simp [toPy, PyData.canLay0]
  | .str x, h => by simpa [toPy, PyData.canLay0, plain] using h
  | .tup xs, h => by
    simp only [toPy, PyData.canLay0]
    exact canLays_of xs (by simpa [plain] using h)
  | .lst xs, h => by
    simp only [toPy, PyData.canLay0]
    exact canLays_of xs (by simpa [plain] using h)
  | .dK _, h => by simp [plain] at h
  | .dT _, h => by simp [plain] at h
  | .ref _, h => by simp [plain] at h
  | .fn _, h => by simp [plain] at h
  | .frz _, h => by simp [plain] at h
theorem canLays_of : ∀ l : List D, plains l = true → PyData.canLayAll0 (toPys l) = true
  | [], _ => by simp [toPys, PyData.canLayAll0]
  | x :: l, h => by
    simp only [plains, Bool.and_eq_true] at h
    simp only [toPys, PyData.canLayAll0, Bool.and_eq_true]
    exact ⟨canLay_of x h.1, canLays_of l h.2⟩
end
mutual
theorem depth_of : ∀ d : D, plain d = true → (toPy d).depth = dep d
  | .non, _ => by simp [toPy, PyData.depth, dep]
  | .bl _, _ => by simp [toPy, PyData.depth, dep]
  | .int _, _ => by simp [toPy, PyData.depth, dep]
  | .str x, h => by simp [toPy, PyData.depth, dep]
  | .tup xs, h => by
    simp only [toPy, PyData.depth, dep]
    rw [depths_of xs (by simpa [plain] using h)]
  | .lst xs, h => by
    simp only [toPy, PyData.depth, dep]
    rw [depths_of xs (by simpa [plain] using h)]
  | .dK _, h => by simp [plain] at h
  | .dT _, h => by simp [plain] at h
  | .ref _, h => by simp [plain] at h
  | .fn _, h => by simp [plain] at h
  | .frz _, h => by simp [plain] at h
theorem depths_of : ∀ l : List D, plains l = true → PyData.depthAll (toPys l) = deps l
  | [], _ => by simp [toPys, PyData.depthAll, deps]
  | x :: l, h => by
    simp only [plains, Bool.and_eq_true] at h
    simp only [toPys, PyData.depthAll, deps]
    rw [depth_of x h.1, depths_of l h.2]
end
mutual
theorem deq_of : ∀ x y : D, plain x = true → plain y = true → PyData.eqv (toPy x) (toPy y) = deq x y
  | .non, y, _, h => by cases y <;> first | (simp [toPy, PyData.eqv, deq]; done) | (simp [plain] at h; done)
  | .bl _, y, _, h => by cases y <;> first | (simp [toPy, PyData.eqv, deq]; done) | (simp [plain] at h; done)
  | .int _, y, _, h => by cases y <;> first | (simp [toPy, PyData.eqv, deq]; done) | (simp [plain] at h; done)
  | .str x, y, _, h => by cases y <;> first | (simp [toPy, PyData.eqv, deq]; done) | (simp [plain] at h; done)
  | .tup xs, y, h1, h => by
    cases y with
    | tup ys => simp only [toPy, PyData.eqv, deq]; exact deqs_of xs ys (by simpa [plain] using h1) (by simpa [plain] using h)
    | _ => first | (simp [toPy, PyData.eqv, deq]; done) | (simp [plain] at h; done)
  | .lst xs, y, h1, h => by
    cases y with
    | lst ys => simp only [toPy, PyData.eqv, deq]; exact deqs_of xs ys (by simpa [plain] using h1) (by simpa [plain] using h)
    | _ => first | (simp [toPy, PyData.eqv, deq]; done) | (simp [plain] at h; done)
  | .dK _, _, h, _ => by simp [plain] at h
  | .dT _, _, h, _ => by simp [plain] at h
  | .ref _, _, h, _ => by simp [plain] at h
  | .fn _, _, h, _ => by simp [plain] at h
  | .frz _, _, h, _ => by simp [plain] at h
theorem deqs_of : ∀ x y : List D, plains x = true → plains y = true → PyData.eqvAll (toPys x) (toPys y) = deqs x y
  | [], [], _, _ => by simp [toPys, PyData.eqvAll, deqs]
  | [], _ :: _, _, _ => by simp [toPys, PyData.eqvAll, deqs]
  | _ :: _, [], _, _ => by simp [toPys, PyData.eqvAll, deqs]
  | x :: l, y :: m, h, h2 => by
    simp only [plains, Bool.and_eq_true] at h h2
    simp only [toPys, PyData.eqvAll, deqs]
    rw [deq_of x y h.1 h2.1, deqs_of l m h.2 h2.2]
end
theorem flt_plain {d : D} (h : flt d = true) : plain d = true := (Bool.and_eq_true_iff.mp h).1
theorem flt_dep {d : D} (h : flt d = true) : dep d ≤ 60 := of_decide_eq_true (Bool.and_eq_true_iff.mp h).2
theorem shaped_of {d : D} (h : flt d = true) : SeqAt.shaped (toPy d) = true := by
  unfold SeqAt.shaped
  rw [canLay_of d (flt_plain h), depth_of d (flt_plain h)]
  simp only [Bool.true_and, decide_eq_true_eq]
  have := flt_dep h
  omega
section
variable {F : Fx} {ρ : List Addr} {H Hm : Hp}
mutual
theorem RD.dp (k : ∀ a o, Hm a = some o → H a = some o) : ∀ {v : V} {d : D}, RD F ρ Hm v d → plain d = true → Dp F.K H v (toPy d)
  | _, _, .non, _ => .non
  | _, _, .bl b, _ => .bl b
  | _, _, .int i, _ => .int i
  | _, _, .str x, _ => .str x
  | _, _, .tup h t, p => .tup (sqT_mono k h) (RDs.dp k t (by simpa [plain] using p))
  | _, _, .lst h t, p => .lst (.of (k _ _ h)) (RDs.dp k t (by simpa [plain] using p))
  | _, _, .frz _ _, p => by simp [plain] at p
  | _, _, .dK _ _, p => by simp [plain] at p
  | _, _, .dT _ _, p => by simp [plain] at p
  | _, _, .ref _, p => by simp [plain] at p
  | _, _, .fn _, p => by simp [plain] at p
theorem RDs.dp (k : ∀ a o, Hm a = some o → H a = some o) : ∀ {v : List V} {d : List D}, RDs F ρ Hm v d → plains d = true → DpAll F.K H v (toPys d)
  | _, _, .nil, _ => .nil
  | _, _, .cons h t, p => by
    simp only [plains, Bool.and_eq_true] at p
    exact .cons (RD.dp k h p.1) (RDs.dp k t p.2)
end
end
section
variable {F : Fx} {A : Act} {al : List (Option Addr)} {W : XW} {σ : List Sl} {σV : L2.St} {ρ : List Addr} {H : Hp} {R : RH}
theorem RT.dp {v : V} {d : D} (h : RT F A al ρ H v d) (p : plain d = true) : Dp F.K H v (toPy d) := by
  have k : ∀ a o, mask H (OO A ρ al) a = some o → H a = some o := fun _ _ q => (mask_some q).1
  rcases h with h | ⟨a, rfl, _, h⟩
  · exact RD.dp k h p
  · cases d <;> first | exact False.elim h | (simp [plain] at p; done) | skip
    obtain ⟨vs, h1, h2⟩ := h
    exact .lst (.of h1) (RDs.dp k h2 (by simpa [plain] using p))
theorem RMs.dp {v : List V} {d : List D} (h : RMs F A al ρ H v d) (p : plains d = true) : DpAll F.K H v (toPys d) := RDs.dp (fun _ _ q => (mask_some q).1) h p
end

/-! ### < of data -/
theorem plains_all {l : List D} (h : plains l = true) : ∀ (i : Nat) (d : D), l[i]? = some d → plain d = true := by
  induction l with
  | nil => intro i d e; simp at e
  | cons x l ih =>
    simp only [plains, Bool.and_eq_true] at h
    intro i d e
    cases i with
    | zero => simp at e; subst e; exact h.1
    | succ i => exact ih h.2 i d (by simpa using e)
theorem deps_all {l : List D} : ∀ (i : Nat) (d : D), l[i]? = some d → dep d ≤ deps l := by
  induction l with
  | nil => intro i d e; simp at e
  | cons x l ih =>
    intro i d e
    simp only [deps]
    cases i with
    | zero => simp at e; subst e; omega
    | succ i => have := ih i d (by simpa using e); omega
theorem cmpbs_all : ∀ {l m : List D}, cmpbs l m = true → ∀ (i : Nat) d e, l[i]? = some d → m[i]? = some e → cmpb d e = true
  | [], _, _, i, d, e, h, _ => by simp at h
  | _ :: _, [], _, i, d, e, _, h => by simp at h
  | x :: l, y :: m, h, i, d, e, h1, h2 => by
    simp only [cmpbs, Bool.and_eq_true] at h
    cases i with
    | zero => simp at h1 h2; subst h1 h2; exact h.1
    | succ i => exact cmpbs_all h.2 i d e (by simpa using h1) (by simpa using h2)
/-- dlts by places -/
theorem dlts_at : ∀ (xs ys : List D) (e r : Nat → Bool), (∀ (j : Nat) x y, xs[j]? = some x → ys[j]? = some y → e j = deq x y ∧ (e j = false → r j = dlt x y)) → ∀ k, k ≤ min xs.length ys.length →
    Ob.lexAt e r (decide (xs.length < ys.length)) (min xs.length ys.length - k) k = (if (xs.drop (min xs.length ys.length - k)).length = 0 ∨ True then dlts (xs.drop (min xs.length ys.length - k)) (ys.drop (min xs.length ys.length - k)) else false) := by
  intro xs ys e r h k
  induction k with
  | zero =>
    intro _
    rw [if_pos (.inr trivial), Ob.lexAt_zero, Nat.sub_zero]
    by_cases q : xs.length < ys.length
    · rw [decide_eq_true q, Nat.min_eq_left (Nat.le_of_lt q)]
      have h1 : xs.drop xs.length = [] := List.drop_length
      rw [h1]
      cases z : ys.drop xs.length with
      | nil => have := congrArg List.length z; rw [List.length_drop] at this; simp at this; omega
      | cons y m => rfl
    · rw [decide_eq_false q, Nat.min_eq_right (Nat.le_of_not_lt q)]
      have h1 : ys.drop ys.length = [] := List.drop_length
      rw [h1]
      cases z : xs.drop ys.length with
      | nil => rfl
      | cons y m => rfl
  | succ k ih =>
    intro hk
    rw [if_pos (.inr trivial)]
    have ih := ih (by omega)
    rw [if_pos (.inr trivial)] at ih
    rw [Ob.lexAt_succ]
    have hx : min xs.length ys.length - (k + 1) < xs.length := by omega
    have hy : min xs.length ys.length - (k + 1) < ys.length := by omega
    rw [List.drop_eq_getElem_cons hx, List.drop_eq_getElem_cons hy]
    have e1 : min xs.length ys.length - (k + 1) + 1 = min xs.length ys.length - k := by omega
    rw [e1]
    obtain ⟨h1, h2⟩ := h _ _ _ (List.getElem?_eq_getElem hx) (List.getElem?_eq_getElem hy)
    simp only [dlts]
    rw [← h1]
    cases z : e (min xs.length ys.length - (k + 1)) with
    | true => rw [if_pos rfl, if_pos rfl]; exact ih
    | false => rw [if_neg Bool.false_ne_true, if_neg Bool.false_ne_true]; exact h2 z
theorem dlts_eq {xs ys : List D} {e r : Nat → Bool} (h : ∀ (j : Nat) x y, xs[j]? = some x → ys[j]? = some y → e j = deq x y ∧ (e j = false → r j = dlt x y)) :
    Ob.lexAt e r (decide (xs.length < ys.length)) 0 (min xs.length ys.length) = dlts xs ys := by
  have q := dlts_at xs ys e r h _ (Nat.le_refl _)
  rw [if_pos (.inr trivial), Nat.sub_self, List.drop_zero, List.drop_zero] at q
  exact q
section
variable {X : Cx} {pins : List (Addr × Obj)} {σ : L2.St} {H Hm : Hp} {s : Shared} {F : Fx} {ρ : List Addr}
theorem rc_lt (I : Inv X pins σ H s) (hK : F.K = X.K) (k : ∀ a o, Hm a = some o → H a = some o) : ∀ (n : Nat) (x y : D) (vx vy : V) (ux uy : Value) (B : Around), dep x ≤ n → RD F ρ Hm vx x → RD F ρ Hm vy y → RelV vx ux → RelV vy uy →
    plain x = true → plain y = true → cmpb x y = true → B.units + n < cLine → Ob.RcOp .Lt B s ux uy (dlt x y) := by
  intro n
  induction n with
  | zero =>
    intro x y vx vy ux uy B hd hx hy rx ry px py hc hu
    cases x with
    | int i =>
      cases y with
      | int j =>
        cases hx; cases hy
        obtain ⟨t, rfl⟩ := rx
        obtain ⟨t', rfl⟩ := ry
        simp only [dlt]
        exact Ob.RcOp.lt_int _ _ _ _
      | _ => simp [cmpb] at hc
    | str i =>
      cases y with
      | str j =>
        cases hx; cases hy
        obtain ⟨t, rfl⟩ := rx
        obtain ⟨t', rfl⟩ := ry
        simp only [dlt]
        exact fun prog w E Q h => lt_str h
      | _ => simp [cmpb] at hc
    | tup xs => simp [dep] at hd
    | _ => simp [cmpb] at hc
  | succ n ih =>
    intro x y vx vy ux uy B hd hx hy rx ry px py hc hu
    cases x with
    | int i =>
      cases y with
      | int j =>
        cases hx; cases hy
        obtain ⟨t, rfl⟩ := rx
        obtain ⟨t', rfl⟩ := ry
        simp only [dlt]
        exact Ob.RcOp.lt_int _ _ _ _
      | _ => simp [cmpb] at hc
    | str i =>
      cases y with
      | str j =>
        cases hx; cases hy
        obtain ⟨t, rfl⟩ := rx
        obtain ⟨t', rfl⟩ := ry
        simp only [dlt]
        exact fun prog w E Q h => lt_str h
      | _ => simp [cmpb] at hc
    | tup xs =>
      cases y with
      | tup ys =>
        cases hx with
        | tup h1 t1 =>
        cases hy with
        | tup h2 t2 =>
        cases rx
        cases ry
        rename_i a vs b ws
        obtain ⟨its, r1, p1, _⟩ := I.tuple (xs := vs) (a := a) (by rw [← hK]; exact sqT_mono k h1)
        obtain ⟨its2, r2, p2, _⟩ := I.tuple (xs := ws) (a := b) (by rw [← hK]; exact sqT_mono k h2)
        have l1 : its.length = xs.length := by rw [← r1.length, t1.length]
        have l2 : its2.length = ys.length := by rw [← r2.length, t2.length]
        simp only [dlt]
        simp only [plain] at px py
        simp only [cmpb] at hc
        simp only [dep] at hd
        have at1 : ∀ j (h : j < its.toArray.size), ∃ v d, xs[j]? = some d ∧ RD F ρ Hm v d ∧ RelV v its.toArray[j] := fun j h => by
          have hj : j < vs.length := by rw [r1.length]; simpa using h
          obtain ⟨d, e1, e2⟩ := t1.getV (List.getElem?_eq_getElem hj)
          obtain ⟨u, e3, e4⟩ := r1.get (List.getElem?_eq_getElem hj)
          refine ⟨_, d, e1, e2, ?_⟩
          have : its.toArray[j] = u := by simpa [List.getElem?_eq_getElem (show j < its.length by simpa using h)] using e3
          rw [this]
          exact e4
        have at2 : ∀ j (h : j < its2.toArray.size), ∃ v d, ys[j]? = some d ∧ RD F ρ Hm v d ∧ RelV v its2.toArray[j] := fun j h => by
          have hj : j < ws.length := by rw [r2.length]; simpa using h
          obtain ⟨d, e1, e2⟩ := t2.getV (List.getElem?_eq_getElem hj)
          obtain ⟨u, e3, e4⟩ := r2.get (List.getElem?_eq_getElem hj)
          refine ⟨_, d, e1, e2, ?_⟩
          have : its2.toArray[j] = u := by simpa [List.getElem?_eq_getElem (show j < its2.length by simpa using h)] using e3
          rw [this]
          exact e4
        have R := Ob.RcOp.tuples_lt (A := B) (s := s) (e := fun j => deq (xs.getD j .non) (ys.getD j .non)) (r := fun j => dlt (xs.getD j .non) (ys.getD j .non)) p1 p2 (by omega) (fun j g1 g2 => by
          obtain ⟨v, d, e1, e2, e3⟩ := at1 j g1
          obtain ⟨v', d', e1', e2', e3'⟩ := at2 j g2
          have pd := plains_all px _ _ e1
          have pd' := plains_all py _ _ e1'
          obtain ⟨as, q1⟩ := Dp.reads I (toPy d) v _ (by rw [← hK]; exact RD.dp k e2 pd) e3
          obtain ⟨bs, q2⟩ := Dp.reads I (toPy d') v' _ (by rw [← hK]; exact RD.dp k e2' pd') e3'
          have z := SeqAt.eqAt_reads (toPy d) (toPy d') B.in1 s _ _ as bs q1 q2 (canLay_of d pd) (canLay_of d' pd') (by
            have w1 := deps_all _ _ e1
            have w2 : min (toPy d).depth (toPy d').depth ≤ dep d := by rw [depth_of d pd]; exact Nat.min_le_left _ _
            show B.units + 1 + _ < cLine
            omega)
          rw [deq_of d d' pd pd'] at z
          simp only [List.getD_eq_getElem?_getD, e1, e1', Option.getD_some]
          exact z) (fun j g1 g2 _ => by
          obtain ⟨v, d, e1, e2, e3⟩ := at1 j g1
          obtain ⟨v', d', e1', e2', e3'⟩ := at2 j g2
          have w1 := deps_all _ _ e1
          simp only [List.getD_eq_getElem?_getD, e1, e1', Option.getD_some]
          exact ih d d' v v' _ _ B.in1 (by omega) e2 e2' e3 e3' (plains_all px _ _ e1) (plains_all py _ _ e1') (cmpbs_all hc j _ _ e1 e1') (by show B.units + 1 + n < cLine; omega))
        have e1 : its.toArray.size = xs.length := by simpa using l1
        have e2 : its2.toArray.size = ys.length := by simpa using l2
        rw [e1, e2, dlts_eq fun j x y h1 h2 => ⟨by simp [List.getD_eq_getElem?_getD, h1, h2], fun _ => by simp [List.getD_eq_getElem?_getD, h1, h2]⟩] at R
        exact R
      | _ => simp [cmpb] at hc
    | _ => simp [cmpb] at hc
end
end Cw

end
section
/-! CwF: operators, comparisons, tests, calls. -/
namespace Cw
open PySem L2 PyProof.Rows
section
variable {F : Fx} {A : Act} {al : List (Option Addr)} {W : XW} {σ : List Sl} {σV : L2.St} {ρ : List Addr} {H : Hp} {R : RH}
theorem RT.tupM {v : V} {ds : List D} (h : RT F A al ρ H v (.tup ds)) : RM F A al ρ H v (.tup ds) := by
  rcases h with h | ⟨a, _, _, h⟩
  · exact h
  · exact h.elim
theorem SqT.toK {K K' : PySem.W.Frag} (e : K = K') {H : Hp} {a : Addr} {vs : List V} (h : SqT K H a vs) : SqT K' H a vs := e ▸ h
theorem SqL.toK {K K' : PySem.W.Frag} (e : K = K') {H : Hp} {a : Addr} {vs : List V} (h : SqL K H a vs) : SqL K' H a vs := e ▸ h
end

/-! ### binary operators -/
def opB : Bop → Operator
  | .add => .Add
  | .sub => .Sub
  | .mul => .Mult
  | .fdiv => .FloorDiv
  | .mod => .Mod
  | .pow => .Pow
theorem OpR.or2 {X : Cx} {f : Value → Value → Sem Value} {r r' : R2} (h : OpR X f r) (h' : OpR X f r') : OpR X f (fun x y H Q => r x y H Q ∨ r' x y H Q) := h.or h'
def rAddS : R2 := fun x y H Q => ∃ i j, x = .str i ∧ y = .str j ∧ i.length + j.length ≤ sizeLine ∧ Q (.str (i ++ j)) H
def rBin (K : PySem.W.Frag) : Bop → R2
  | .add => fun x y H Q => (rI0 fun i j => .int (i + j)) x y H Q ∨ (rAddS x y H Q ∨ (rCatA K x y H Q ∨ rCat x y H Q))
  | .sub => rI0 fun i j => .int (i - j)
  | .mul => fun x y H Q => (rI CMul fun i j => .int (i * j)) x y H Q ∨ rRep x y H Q
  | .fdiv => rI CDivN fun i j => .int (i.fdiv j)
  | .mod => rI (fun _ j => j ≠ 0) fun i j => .int (i.fmod j)
  | .pow => rI CPow fun i j => .int (i ^ j.toNat)
theorem op_bin {X : Cx} : ∀ o : Bop, OpR X (binaryOp (opB o)) (rBin X.K o)
  | .add => op_add.or (op_add_str.or (op_catA.or op_cat))
  | .sub => op_sub
  | .mul => op_mul.or op_rep
  | .fdiv => op_fdivN
  | .mod => op_modN
  | .pow => op_pow
section
variable {F : Fx} {A : Act} {al : List (Option Addr)} {W : XW} {σ : List Sl} {σV : L2.St} {ρ : List Addr} {H : Hp} {R : RH} {K : PySem.W.Frag}
theorem bin_fin (hK : F.K = K) (r : Rel F A ρ al σ R σV H) {o : Bop} {x y d : D} {v u : V} {Q : VK} (q1 : RT F A al ρ H v x) (q2 : RT F A al ρ H u y) (e : binD o x y = some d)
    (p : Post F A al W σ σV ρ H (.ok d R) (RM F A al) Q) : rBin K o v u H Q := by
  unfold binD at e
  split at e
  · cases e
    exact .inl ⟨_, _, q1.int, q2.int, p.here r (RD.int _)⟩
  · split at e
    · rename_i h
      cases e
      exact .inr (.inl ⟨_, _, q1.str, q2.str, h, p.here r (RD.str _)⟩)
    · cases e
  · split at e
    · rename_i xs ys h
      cases e
      obtain ⟨a, vs, rfl, h1, t1⟩ := q1.tup
      obtain ⟨b, ws, rfl, h2, t2⟩ := q2.tup
      refine .inr (.inr (.inl ⟨a, b, vs, ws, rfl, rfl, SqT.toK hK h1, SqT.toK hK h2, by rw [t1.length, t2.length]; exact h, fun z => ?_, fun _ z => ?_, fun _ _ s hs => ?_⟩))
      · subst z
        cases t1
        exact p.here r q2.tupM
      · subst z
        cases t2
        rw [List.append_nil] at p
        exact p.here r q1.tupM
      · exact p.new r hs (RM.tup r hs (t1.append t2))
    · cases e
  · split at e
    · rename_i xs ys h
      cases e
      obtain ⟨a, vs, rfl, h1, t1⟩ := q1.lst
      obtain ⟨b, ws, rfl, h2, t2⟩ := q2.lst
      exact .inr (.inr (.inr ⟨a, b, vs, ws, rfl, rfl, h1, h2, by rw [t1.length, t2.length]; exact h, fun s hs => p.new r hs (RM.lst r hs (t1.append t2))⟩))
    · cases e
  · cases e
    exact ⟨_, _, q1.int, q2.int, p.here r (RD.int _)⟩
  · split at e
    · rename_i h
      cases e
      exact .inl ⟨_, _, q1.int, q2.int, of_decide_eq_true h, p.here r (RD.int _)⟩
    · cases e
  · split at e
    · rename_i xs k h
      cases e
      simp only [Bool.and_eq_true, decide_eq_true_eq] at h
      obtain ⟨a, vs, rfl, h1, t1⟩ := q1.lst
      exact .inr ⟨a, k, vs, rfl, q2.int, h1, h.1.1, h.1.2, by rw [t1.length]; exact h.2, fun s hs => p.new r hs (RM.lst r hs (RDs.rep t1 _))⟩
    · cases e
  · split at e
    · rename_i h
      cases e
      exact ⟨_, _, q1.int, q2.int, of_decide_eq_true h, p.here r (RD.int _)⟩
    · cases e
  · split at e
    · cases e
    · rename_i h
      cases e
      exact ⟨_, _, q1.int, q2.int, h, p.here r (RD.int _)⟩
  · split at e
    · rename_i h
      cases e
      exact ⟨_, _, q1.int, q2.int, of_decide_eq_true h, p.here r (RD.int _)⟩
    · cases e
  · cases e
end
section
variable {F : Fx} {A : Act} {W : XW} {ck : Nat → List D → RH → Res D} {X : Cx} {a b c : Expr} {xa xb xc : Ex} {pos : Pos}
theorem snd_bin (hK : F.K = X.K) (o : Bop) (ha : PE X a (tB F W ck xa)) (hb : PE X b (tB F W ck xb)) : PE X (.BinOp a (opB o) b pos) (tS F W ck (.bin o xa xb)) :=
  PE.by (pe_op (op_bin o) ha hb) fun σV H Q ⟨A, ρ, al, σ, R, r, p⟩ => ⟨A, ρ, al, σ, R, r, Post.bind (Q1 := fun v H1 => tB F W ck xb σV H1 fun u H2 => rBin X.K o v u H2 Q) (show Post F A al W σ σV ρ H ((ev ck xa σ R).bind fun x R => (ev ck xb σ R).bind fun y R => .of (binD o x y) R) (RM F A al) Q from p)
    fun d R1 v H1 ρ1 r1 e1 q1 p1 => ⟨A, ρ1, al, σ, R1, r1, p1.bind fun d2 R2 u H2 ρ2 r2 e2 q2 p2 => by
      obtain ⟨d3, e3, p3⟩ := p2.of
      exact bin_fin hK r2 (RT.ext q1 e2) q2 e3 p3⟩⟩
theorem snd_neg (ha : PE X a (tB F W ck xa)) : PE X (.UnaryOp .USub a pos) (tS F W ck (.neg xa)) :=
  PE.by (pe_un un_neg ha) fun σV H Q ⟨A, ρ, al, σ, R, r, p⟩ => ⟨A, ρ, al, σ, R, r, Post.bind (show Post F A al W σ σV ρ H ((ev ck xa σ R).bind fun x R => .of (negD x) R) (RM F A al) Q from p) fun d R1 v H1 ρ1 r1 e1 q1 p1 => by
      obtain ⟨d', e', p2⟩ := p1.of
      cases d <;> first | (cases e'; done) | skip
      cases e'
      exact ⟨_, q1.int, p2.here r1 (RD.int _)⟩⟩
end

/-! ### comparisons -/
def opC : Cop → CmpOp
  | .eq => .Eq
  | .ne => .NotEq
  | .lt => .Lt
  | .le => .LtE
  | .gt => .Gt
  | .ge => .GtE
  | .is => .Is
  | .isn => .IsNot
  | .in_ => .In
  | .nin => .NotIn
def rLtD (F : Fx) : R2 := fun x y H Q => ∃ ρ Hm d e, (∀ a o, Hm a = some o → H a = some o) ∧ RD F ρ Hm x d ∧ RD F ρ Hm y e ∧ flt d = true ∧ flt e = true ∧ cmpb d e = true ∧ Q (.bl (dlt d e)) H
theorem op_ltD {X : Cx} {F : Fx} (hK : F.K = X.K) (hu : X.A.units + 70 < cLine) : OpR X (compareOp .Lt) (rLtD F) := by
  intro pins s σ H x y v u Q I rx ry h
  obtain ⟨ρ, Hm, d, e, k, h1, h2, f1, f2, c, q⟩ := h
  have z := rc_lt I hK k (dep d) d e x y v u X.A (Nat.le_refl _) h1 h2 rx ry (flt_plain f1) (flt_plain f2) c (by have := flt_dep f1; omega)
  exact z X.prog X.w X.xe (EP X pins σ Q) ⟨.bl _, H, I, rfl, q⟩
def rInT (K : PySem.W.Frag) (neg : Bool) : R2 := fun x y H Q => ∃ d ds, Dp K H x d ∧ Dp K H y (.tuple ds) ∧ SeqAt.shaped d = true ∧ PyData.canLayAll0 ds = true ∧ Q (.bl (if neg = true then !ds.any fun z => PyData.eqv z d else ds.any fun z => PyData.eqv z d)) H
def rInL (K : PySem.W.Frag) (neg : Bool) : R2 := fun x y H Q => ∃ d ds, Dp K H x d ∧ Dp K H y (.list ds) ∧ SeqAt.shaped d = true ∧ PyData.canLayAll0 ds = true ∧ Q (.bl (if neg = true then !ds.any fun z => PyData.eqv z d else ds.any fun z => PyData.eqv z d)) H
theorem op_inT {X : Cx} (hu : X.A.units + 70 < cLine) : OpR X (compareOp .In) (rInT X.K false) := by
  intro pins s σ H x y v u Q I rx ry h
  obtain ⟨d, ds, hd, he, sd, se, q⟩ := h
  obtain ⟨as, r1⟩ := Dp.reads I d x v hd rx
  obtain ⟨bs, r2⟩ := Dp.reads I (.tuple ds) y u he ry
  exact SeqAt.in_tuple_reads r2 r1 se (SeqAt.canLay_of_shaped sd) (room_in_shaped sd (by omega)) ⟨.bl _, H, I, rfl, q⟩
theorem op_ninT {X : Cx} (hu : X.A.units + 70 < cLine) : OpR X (compareOp .NotIn) (rInT X.K true) := by
  intro pins s σ H x y v u Q I rx ry h
  obtain ⟨d, ds, hd, he, sd, se, q⟩ := h
  obtain ⟨as, r1⟩ := Dp.reads I d x v hd rx
  obtain ⟨bs, r2⟩ := Dp.reads I (.tuple ds) y u he ry
  exact SeqAt.notIn_tuple_reads r2 r1 se (SeqAt.canLay_of_shaped sd) (room_in_shaped sd (by omega)) ⟨.bl _, H, I, rfl, q⟩
theorem op_inL {X : Cx} (hu : X.A.units + 70 < cLine) : OpR X (compareOp .In) (rInL X.K false) := by
  intro pins s σ H x y v u Q I rx ry h
  obtain ⟨d, ds, hd, he, sd, se, q⟩ := h
  obtain ⟨as, r1⟩ := Dp.reads I d x v hd rx
  obtain ⟨bs, r2⟩ := Dp.reads I (.list ds) y u he ry
  exact SeqAt.in_list_reads r2 r1 se (SeqAt.canLay_of_shaped sd) (room_in_shaped sd (by omega)) ⟨.bl _, H, I, rfl, q⟩
theorem op_ninL {X : Cx} (hu : X.A.units + 70 < cLine) : OpR X (compareOp .NotIn) (rInL X.K true) := by
  intro pins s σ H x y v u Q I rx ry h
  obtain ⟨d, ds, hd, he, sd, se, q⟩ := h
  obtain ⟨as, r1⟩ := Dp.reads I d x v hd rx
  obtain ⟨bs, r2⟩ := Dp.reads I (.list ds) y u he ry
  exact SeqAt.notIn_list_reads r2 r1 se (SeqAt.canLay_of_shaped sd) (room_in_shaped sd (by omega)) ⟨.bl _, H, I, rfl, q⟩
def rIsNon : R2 := fun x y H Q => y = .non ∧ Q (.bl (decide (x = .non))) H
def rIsnNon : R2 := fun x y H Q => y = .non ∧ Q (.bl (!decide (x = .non))) H
def rCmp (F : Fx) (K : PySem.W.Frag) : Cop → R2
  | .eq => rEqD K
  | .ne => rNeD K
  | .lt => rLtD F
  | .le => rI0 fun i j => .bl (decide (i ≤ j))
  | .gt => rI0 fun i j => .bl (decide (j < i))
  | .ge => rI0 fun i j => .bl (decide (j ≤ i))
  | .is => fun x y H Q => rIsNon x y H Q ∨ rIsB x y H Q
  | .isn => fun x y H Q => rIsnNon x y H Q ∨ rNotB x y H Q
  | .in_ => fun x y H Q => rInL K false x y H Q ∨ rInT K false x y H Q
  | .nin => fun x y H Q => rInL K true x y H Q ∨ rInT K true x y H Q
theorem op_cmp {X : Cx} {F : Fx} (hK : F.K = X.K) (hu : X.A.units + 70 < cLine) : ∀ o : Cop, OpR X (compareOp (opC o)) (rCmp F X.K o)
  | .eq => op_eqD (by omega)
  | .ne => op_neD (by omega)
  | .lt => op_ltD hK hu
  | .le => op_le
  | .gt => op_gt
  | .ge => op_ge
  | .is => op_isN.or op_isBl
  | .isn => op_notN.or op_notBl
  | .in_ => (op_inL hu).or (op_inT hu)
  | .nin => (op_ninL hu).or (op_ninT hu)
theorem any_eqv (x : D) (hx : plain x = true) : ∀ ys : List D, ys.all flt = true → (toPys ys).any (fun z => PyData.eqv z (toPy x)) = ys.any fun y => deq y x
  | [], _ => rfl
  | y :: ys, h => by
    simp only [List.all_cons, Bool.and_eq_true] at h
    simp only [toPys, List.any_cons]
    rw [deq_of y x (flt_plain h.1) hx, any_eqv x hx ys h.2]
theorem plains_of : ∀ {ys : List D}, ys.all flt = true → plains ys = true
  | [], _ => rfl
  | y :: ys, h => by
    simp only [List.all_cons, Bool.and_eq_true] at h
    simp only [plains, Bool.and_eq_true]
    exact ⟨flt_plain h.1, plains_of h.2⟩
section
variable {F : Fx} {A : Act} {al : List (Option Addr)} {W : XW} {σ : List Sl} {σV : L2.St} {ρ : List Addr} {H : Hp} {R : RH} {K : PySem.W.Frag}
theorem RT.to_rd {v : V} {x y : D} {u : V} (h : RT F A al ρ H v x) (h2 : RT F A al ρ H u y) (c : cmpb x y = true) : RD F ρ (mask H (OO A ρ al)) v x ∧ RD F ρ (mask H (OO A ρ al)) u y := by
  refine ⟨?_, ?_⟩
  · rcases h with h | ⟨a, _, _, h⟩
    · exact h
    · cases x <;> first | exact False.elim h | (simp [cmpb] at c; done)
  · rcases h2 with h | ⟨a, _, _, h⟩
    · exact h
    · cases y <;> first | exact False.elim h | (cases x <;> simp [cmpb] at c; done)
theorem RT.decNon {v : V} {x : D} (h : RT F A al ρ H v x) : decide (v = .non) = isNon x := by
  rcases h with h | ⟨a, rfl, _, h⟩
  · cases h <;> simp [isNon]
  · cases x <;> first | exact False.elim h | simp [isNon]
theorem cmp_fin (hK : F.K = K) (r : Rel F A ρ al σ R σV H) {o : Cop} {x y : D} {k : Bool} {v u : V} {Q : VK} (q1 : RT F A al ρ H v x) (q2 : RT F A al ρ H u y) (e : cmpD o x y = some k)
    (p : Q (.bl k) H) : rCmp F K o v u H Q := by
  subst hK
  unfold cmpD at e
  split at e
  · split at e
    · rename_i h
      cases e
      obtain ⟨f1, f2⟩ := Bool.and_eq_true_iff.mp h
      exact ⟨_, _, q1.dp (flt_plain f1), q2.dp (flt_plain f2), shaped_of f1, shaped_of f2, by rw [deq_of _ _ (flt_plain f1) (flt_plain f2)]; exact p⟩
    · cases e
  · split at e
    · rename_i h
      cases e
      obtain ⟨f1, f2⟩ := Bool.and_eq_true_iff.mp h
      exact ⟨_, _, q1.dp (flt_plain f1), q2.dp (flt_plain f2), shaped_of f1, shaped_of f2, by rw [deq_of _ _ (flt_plain f1) (flt_plain f2)]; exact p⟩
    · cases e
  · split at e
    · rename_i h
      cases e
      obtain ⟨f12, c⟩ := Bool.and_eq_true_iff.mp h
      obtain ⟨f1, f2⟩ := Bool.and_eq_true_iff.mp f12
      obtain ⟨h1, h2⟩ := RT.to_rd q1 q2 c
      exact ⟨ρ, _, _, _, fun _ _ z => (mask_some z).1, h1, h2, f1, f2, c, p⟩
    · cases e
  · cases e
    exact ⟨_, _, q1.int, q2.int, p⟩
  · cases e
    exact ⟨_, _, q1.int, q2.int, p⟩
  · cases e
    exact ⟨_, _, q1.int, q2.int, p⟩
  · cases e
    exact .inl ⟨q2.non, by rw [q1.decNon]; exact p⟩
  · cases e
    exact .inl ⟨q2.non, by rw [q1.decNon]; exact p⟩
  · cases e
    exact .inr ⟨_, _, q1.bl, q2.bl, p⟩
  · cases e
    exact .inr ⟨_, _, q1.bl, q2.bl, p⟩
  · split at e
    · rename_i h
      cases e
      obtain ⟨f1, f2⟩ := Bool.and_eq_true_iff.mp h
      have pl := plains_of f2
      exact .inl ⟨_, _, q1.dp (flt_plain f1), q2.dp (by simpa [plain] using pl), shaped_of f1, canLays_of _ pl, by rw [any_eqv _ (flt_plain f1) _ f2]; exact p⟩
    · cases e
  · split at e
    · rename_i h
      cases e
      obtain ⟨f1, f2⟩ := Bool.and_eq_true_iff.mp h
      have pl := plains_of f2
      exact .inl ⟨_, _, q1.dp (flt_plain f1), q2.dp (by simpa [plain] using pl), shaped_of f1, canLays_of _ pl, by rw [any_eqv _ (flt_plain f1) _ f2]; exact p⟩
    · cases e
  · split at e
    · rename_i h
      cases e
      obtain ⟨f1, f2⟩ := Bool.and_eq_true_iff.mp h
      have pl := plains_of f2
      exact .inr ⟨_, _, q1.dp (flt_plain f1), q2.dp (by simpa [plain] using pl), shaped_of f1, canLays_of _ pl, by rw [any_eqv _ (flt_plain f1) _ f2]; exact p⟩
    · cases e
  · split at e
    · rename_i h
      cases e
      obtain ⟨f1, f2⟩ := Bool.and_eq_true_iff.mp h
      have pl := plains_of f2
      exact .inr ⟨_, _, q1.dp (flt_plain f1), q2.dp (by simpa [plain] using pl), shaped_of f1, canLays_of _ pl, by rw [any_eqv _ (flt_plain f1) _ f2]; exact p⟩
    · cases e
  · cases e
end
end Cw

end
section
/-! CwG: comparisons, tests, calls. -/
namespace Cw
open PySem L2 PyProof.Rows
section
variable {F : Fx} {A : Act} {W : XW} {ck : Nat → List D → RH → Res D} {X : Cx} {a b c : Expr} {xa xb xc : Ex} {pos : Pos}
theorem cmp_step {o : Cop} (hK : F.K = X.K) (σV : L2.St) (H : Hp) (Q : VK) (h : tS F W ck (.cmp o xa xb) σV H Q) : tOp (rCmp F X.K o) (tB F W ck xa) (tB F W ck xb) σV H Q := by
  obtain ⟨A, ρ, al, σ, R, r, p⟩ := h
  exact ⟨A, ρ, al, σ, R, r, Post.bind (Q1 := fun v H1 => tB F W ck xb σV H1 fun u H2 => rCmp F X.K o v u H2 Q) (show Post F A al W σ σV ρ H ((ev ck xa σ R).bind fun x R => (ev ck xb σ R).bind fun y R => .of ((cmpD o x y).map .bl) R) (RM F A al) Q from p)
    fun d R1 v H1 ρ1 r1 e1 q1 p1 => ⟨A, ρ1, al, σ, R1, r1, p1.bind fun d2 R2 u H2 ρ2 r2 e2 q2 p2 => by
      obtain ⟨d3, e3, p3⟩ := p2.of
      cases e4 : cmpD o d d2 with
      | none => rw [e4] at e3; cases e3
      | some k =>
        rw [e4] at e3
        cases e3
        exact cmp_fin hK r2 (RT.ext q1 e2) q2 e4 (p3.here r2 (RD.bl k))⟩⟩
/-- a test by a reading -/
def tQ (t : TE) : TT := fun σ H Q => t σ H fun x H' => ∃ k, x = .bl k ∧ Q k H'
theorem nomark' {b : Expr} {o : CmpOp} (h : (match b with | .Set .. => true | _ => false) = false) : behindInMarks o b = false := by
  cases b <;> first | rfl | cases h
def notSet (b : Expr) : Bool := match b with | .Set .. => false | _ => true
theorem nomarkS {b : Expr} {o : CmpOp} (h : notSet b = true) : behindInMarks o b = false := by
  cases b <;> first | rfl | cases h
theorem snd_cmp {o : Cop} (hK : F.K = X.K) (hu : X.A.units + 70 < cLine) (hm : notSet b = true) (ha : PE X a (tB F W ck xa)) (hb : PE X b (tB F W ck xb)) : PE X (.Compare a [opC o] [b] pos) (tS F W ck (.cmp o xa xb)) :=
  PE.by (pe_cmpR (op_cmp hK hu o) ha hb (nomarkS hm)) fun σV H Q h => cmp_step hK σV H Q h
theorem snd_cmpT {o : Cop} (hK : F.K = X.K) (hu : X.A.units + 70 < cLine) (hm : notSet b = true) (ha : PE X a (tB F W ck xa)) (hb : PE X b (tB F W ck xb)) : PT X (.Compare a [opC o] [b] pos) (tQ (tS F W ck (.cmp o xa xb))) :=
  PT.by (pt_cmpR (op_cmp hK hu o) ha hb (nomarkS hm)) fun σV H Q h => cmp_step hK σV H _ h
/-- least <= x <= most -/
theorem ch_step {o o2 : Cop} (hK : F.K = X.K) (σV : L2.St) (H : Hp) (Q : VK) (h : tS F W ck (.ch2 o o2 xa xb xc) σV H Q) : tChain (rCmp F X.K o) (rCmp F X.K o2) (tB F W ck xa) (tB F W ck xb) (tB F W ck xc) σV H Q := by
  obtain ⟨A, ρ, al, σ, R, r, p⟩ := h
  refine ⟨A, ρ, al, σ, R, r, Post.bind (Rl := RT F A al) (show Post F A al W σ σV ρ H ((ev ck xa σ R).bind fun x R => (ev ck xb σ R).bind fun y R => match cmpD o x y with
    | some true => (ev ck xc σ R).bind fun z R => .of ((cmpD o2 y z).map .bl) R
    | some false => .ok (.bl false) R
    | none => .bad) (RM F A al) Q from p)
    fun d R1 v H1 ρ1 r1 e1 q1 p1 => ⟨A, ρ1, al, σ, R1, r1, p1.bind fun d2 R2 u H2 ρ2 r2 e2 q2 p2 => ?_⟩⟩
  cases e4 : cmpD o d d2 with
  | none => simp only [e4] at p2; exact p2.elim
  | some k =>
    refine cmp_fin hK r2 (RT.ext q1 e2) q2 e4 ⟨k, rfl, ?_⟩
    cases k with
    | false => simp only [e4] at p2; exact p2.here r2 (RD.bl _)
    | true =>
      simp only [e4] at p2
      refine ⟨A, ρ2, al, σ, R2, r2, p2.bind fun d3 R3 w H3 ρ3 r3 e3 q3 p3 => ?_⟩
      obtain ⟨d4, e5, p4⟩ := p3.of
      cases e6 : cmpD o2 d2 d3 with
      | none => rw [e6] at e5; cases e5
      | some k =>
        rw [e6] at e5
        cases e5
        exact cmp_fin hK r3 (RT.ext q2 e3) q3 e6 (p4.here r3 (RD.bl k))
theorem snd_ch {o o2 : Cop} (hK : F.K = X.K) (hu : X.A.units + 70 < cLine) (hm : notSet c = true) (ha : PE X a (tB F W ck xa)) (hb : PE X b (tB F W ck xb)) (hc : PE X c (tB F W ck xc)) :
    PE X (.Compare a [opC o, opC o2] [b, c] pos) (tS F W ck (.ch2 o o2 xa xb xc)) := PE.by (pe_chain (op_cmp hK hu o) (op_cmp hK hu o2) ha hb hc (nomarkS hm)) fun σV H Q h => ch_step hK σV H Q h
theorem snd_chT {o o2 : Cop} (hK : F.K = X.K) (hu : X.A.units + 70 < cLine) (hm : notSet c = true) (ha : PE X a (tB F W ck xa)) (hb : PE X b (tB F W ck xb)) (hc : PE X c (tB F W ck xc)) :
    PT X (.Compare a [opC o, opC o2] [b, c] pos) (tQ (tS F W ck (.ch2 o o2 xa xb xc))) := PT.by (pt_chain (op_cmp hK hu o) (op_cmp hK hu o2) ha hb hc (nomarkS hm)) fun σV H Q h => ch_step hK σV H _ h

/-! ### tests -/
/-- how a test is taken, of an expression that is no comparison, no and, or, not -/
def plainT (e : Expr) : Bool := match e with
  | .Name .. | .Call .. | .Constant .. | .Subscript .. => true
  | _ => false
theorem snd_val {x : Ex} {e : Expr} (hp : plainT e = true) (h : PE X e (tS F W ck x)) : PT X e (tQ (tS F W ck x)) := by
  refine PT.by (pt_val h ?_) fun σV H Q h => h
  cases e <;> first | (intro _; rfl) | cases hp
/-- a test's reading, of what follows it -/
theorem Post.test {al : List (Option Addr)} {σ : List Sl} {σV : L2.St} {ρ : List Addr} {H : Hp} {R : RH} {x : Ex} {γ δ : Type} {f : D → RH → Res γ} {Rl2 : List Addr → Hp → δ → γ → Prop} {Q : δ → Hp → Prop} {Q1 : VK} (r : Rel F A ρ al σ R σV H)
    (p : Post F A al W σ σV ρ H ((ev ck x σ R).bind f) Rl2 Q) (hf : ∀ d R1, (∀ b, d ≠ .bl b) → f d R1 = .bad)
    (h : ∀ b R1 H1 ρ1, Rel F A ρ1 al σ R1 σV H1 → Ext ρ H ρ1 H1 → Post F A al W σ σV ρ1 H1 (f (.bl b) R1) Rl2 Q → Q1 (.bl b) H1) : Post F A al W σ σV ρ H (stx x σ (ev ck x σ R)) (RM F A al) Q1 := by
  have e : stx x σ (ev ck x σ R) = ev ck x σ R ∨ ∃ i d, x = .var i ∧ gS σ i = .ow d := by
    cases x <;> first | exact .inl rfl | skip
    rename_i i
    cases q : gS σ i with
    | no => left; unfold stx; simp [q, isOw]
    | sh d => left; unfold stx; simp [q, isOw]
    | ow d => right; exact ⟨i, d, rfl, q⟩
  cases q : ev ck x σ R with
  | exc c R1 =>
    rw [q] at p e
    rcases e with e | ⟨i, d, rfl, g⟩
    · rw [e]; exact p
    · simp [ev, g, Sl.val, Res.of] at q
  | bad => rw [q] at p; exact p.elim
  | ok d R1 =>
    rw [q] at p e
    by_cases hb : ∃ b, d = .bl b
    · obtain ⟨b, rfl⟩ := hb
      rcases e with e | ⟨i, d, rfl, g⟩
      · rw [e]
        intro v H1 ρ1 r1 e1 q1
        have q1 : RD F ρ1 (mask H1 (OO A ρ1 al)) v (.bl b) := q1
        cases q1
        exact h b R1 H1 ρ1 r1 e1 (Post.ext p e1)
      · simp only [ev, g, Sl.val, Res.of, Res.ok.injEq] at q
        obtain ⟨rfl, rfl⟩ := q
        obtain ⟨a, _, _, _, _, z⟩ := r.ow g
        exact z.elim
    · have z := hf d R1 fun b e => hb ⟨b, e⟩
      simp only [Res.bind] at p
      rw [z] at p
      exact p.elim
theorem snd_not (ha : PE X a (tB F W ck xa)) : PE X (.UnaryOp .Not a pos) (tS F W ck (.not xa)) :=
  PE.by (pe_not ha) fun σV H Q ⟨A, ρ, al, σ, R, r, p⟩ => ⟨A, ρ, al, σ, R, r, Post.bind (show Post F A al W σ σV ρ H ((ev ck xa σ R).bind fun x R => .of (notD x) R) (RM F A al) Q from p) fun d R1 v H1 ρ1 r1 e1 q1 p1 => by
    obtain ⟨d', e', p2⟩ := p1.of
    cases d <;> first | (cases e'; done) | skip
    cases e'
    exact ⟨_, q1.bl, p2.here r1 (RD.bl _)⟩⟩
theorem notD_bad : ∀ d : D, (∀ b, d ≠ .bl b) → notD d = none := fun d h => by
  cases d <;> first | rfl | exact absurd rfl (h _)
theorem snd_notT (ha : PT X a (tQ (tS F W ck xa))) : PT X (.UnaryOp .Not a pos) (tQ (tS F W ck (.not xa))) :=
  PT.by (pt_not ha) fun σV H Q ⟨A, ρ, al, σ, R, r, p⟩ => ⟨A, ρ, al, σ, R, r, Post.test r (show Post F A al W σ σV ρ H ((ev ck xa σ R).bind fun x R => .of (notD x) R) (RM F A al) _ from p) (fun d R1 h => by rw [notD_bad d h]; rfl) fun b R1 H1 ρ1 r1 e1 p1 => by
    obtain ⟨k, e, q⟩ := Post.here (v := V.bl (!b)) p1 r1 (RD.bl _)
    cases e
    exact ⟨b, rfl, q⟩⟩
/-! and, or -/
def tEA (F : Fx) (W : XW) (ck : Nat → List D → RH → Res D) (xs : Exs) : TE := fun σV H Q => ∃ A ρ al σ R, Rel F A ρ al σ R σV H ∧ Post F A al W σ σV ρ H (evAnd ck xs σ R) (RM F A al) Q
def tEO (F : Fx) (W : XW) (ck : Nat → List D → RH → Res D) (xs : Exs) : TE := fun σV H Q => ∃ A ρ al σ R, Rel F A ρ al σ R σV H ∧ Post F A al W σ σV ρ H (evOr ck xs σ R) (RM F A al) Q
variable {es : List Expr} {xs : Exs}
theorem snd_and1 (ha : PE X a (tS F W ck xa)) : PE X (.BoolOp .And [a] pos) (tEA F W ck (.cons xa .nil)) := PE.by (pe_one ha) fun σV H Q ⟨A, ρ, al, σ, R, r, p⟩ => ⟨A, ρ, al, σ, R, r, p⟩
theorem snd_or1 (ha : PE X a (tS F W ck xa)) : PE X (.BoolOp .Or [a] pos) (tEO F W ck (.cons xa .nil)) := PE.by (pe_one ha) fun σV H Q ⟨A, ρ, al, σ, R, r, p⟩ => ⟨A, ρ, al, σ, R, r, p⟩
theorem snd_and1T (ha : PT X a (tQ (tS F W ck xa))) : PW X (.BoolOp .And [a] pos) (tQ (tEA F W ck (.cons xa .nil))) := PW.by (pw_and1 ha) fun σV H Q ⟨A, ρ, al, σ, R, r, p⟩ => ⟨A, ρ, al, σ, R, r, p⟩
theorem snd_or1T (ha : PT X a (tQ (tS F W ck xa))) : PW X (.BoolOp .Or [a] pos) (tQ (tEO F W ck (.cons xa .nil))) := PW.by (pw_or1 ha) fun σV H Q ⟨A, ρ, al, σ, R, r, p⟩ => ⟨A, ρ, al, σ, R, r, p⟩
def andK (ck : Nat → List D → RH → Res D) (xs : Exs) (σ : List Sl) : D → RH → Res D := fun x R => match x with
    | .bl true => evAnd ck xs σ R
    | .bl false => .ok (.bl false) R
    | _ => .bad
def orK (ck : Nat → List D → RH → Res D) (xs : Exs) (σ : List Sl) : D → RH → Res D := fun x R => match x with
    | .bl false => evOr ck xs σ R
    | .bl true => .ok (.bl true) R
    | _ => .bad
theorem andK_bad {σ : List Sl} : ∀ (d : D) (R : RH), (∀ b, d ≠ .bl b) → andK ck xs σ d R = .bad := fun d R h => by
  cases d <;> first | rfl | exact absurd rfl (h _)
theorem orK_bad {σ : List Sl} : ∀ (d : D) (R : RH), (∀ b, d ≠ .bl b) → orK ck xs σ d R = .bad := fun d R h => by
  cases d <;> first | rfl | exact absurd rfl (h _)
theorem and_valK {σV : L2.St} {H : Hp} {Q : VK} {ρ : List Addr} {al : List (Option Addr)} {σ : List Sl} {R : RH} (r : Rel F A ρ al σ R σV H) (p : Post F A al W σ σV ρ H ((ev ck xa σ R).bind (andK ck xs σ)) (RM F A al) Q) :
    tAndV (tB F W ck xa) (tEA F W ck xs) σV H Q := ⟨A, ρ, al, σ, R, r, p.bind fun d R1 v H1 ρ1 r1 e1 q1 p1 => by
  by_cases hb : ∃ b, d = .bl b
  · obtain ⟨b, rfl⟩ := hb
    refine ⟨b, q1.bl, ?_⟩
    cases b with
    | true => exact iteT ⟨A, ρ1, al, σ, R1, r1, p1⟩
    | false => exact iteF (Post.here (d := D.bl false) p1 r1 (RD.bl _))
  · rw [andK_bad d R1 fun b e => hb ⟨b, e⟩] at p1
    exact p1.elim⟩
theorem or_valK {σV : L2.St} {H : Hp} {Q : VK} {ρ : List Addr} {al : List (Option Addr)} {σ : List Sl} {R : RH} (r : Rel F A ρ al σ R σV H) (p : Post F A al W σ σV ρ H ((ev ck xa σ R).bind (orK ck xs σ)) (RM F A al) Q) :
    tOrV (tB F W ck xa) (tEO F W ck xs) σV H Q := ⟨A, ρ, al, σ, R, r, p.bind fun d R1 v H1 ρ1 r1 e1 q1 p1 => by
  by_cases hb : ∃ b, d = .bl b
  · obtain ⟨b, rfl⟩ := hb
    refine ⟨b, q1.bl, ?_⟩
    cases b with
    | true => exact iteT (Post.here (d := D.bl true) p1 r1 (RD.bl _))
    | false => exact iteF ⟨A, ρ1, al, σ, R1, r1, p1⟩
  · rw [orK_bad d R1 fun b e => hb ⟨b, e⟩] at p1
    exact p1.elim⟩
theorem and_testK {σV : L2.St} {H : Hp} {Q : Bool → Hp → Prop} {ρ : List Addr} {al : List (Option Addr)} {σ : List Sl} {R : RH} (r : Rel F A ρ al σ R σV H) (p : Post F A al W σ σV ρ H ((ev ck xa σ R).bind (andK ck xs σ)) (RM F A al) fun v H' => ∃ k, v = .bl k ∧ Q k H') :
    tAnd (tQ (tS F W ck xa)) (tQ (tEA F W ck xs)) σV H Q := ⟨A, ρ, al, σ, R, r, p.test r andK_bad fun b R1 H1 ρ1 r1 e1 p1 => by
  refine ⟨b, rfl, ?_⟩
  cases b with
  | true => exact iteT ⟨A, ρ1, al, σ, R1, r1, p1⟩
  | false =>
    obtain ⟨k, e, q⟩ := Post.here (d := D.bl false) (v := V.bl false) p1 r1 (RD.bl _)
    cases e
    exact iteF q⟩
theorem or_testK {σV : L2.St} {H : Hp} {Q : Bool → Hp → Prop} {ρ : List Addr} {al : List (Option Addr)} {σ : List Sl} {R : RH} (r : Rel F A ρ al σ R σV H) (p : Post F A al W σ σV ρ H ((ev ck xa σ R).bind (orK ck xs σ)) (RM F A al) fun v H' => ∃ k, v = .bl k ∧ Q k H') :
    tOr (tQ (tS F W ck xa)) (tQ (tEO F W ck xs)) σV H Q := ⟨A, ρ, al, σ, R, r, p.test r orK_bad fun b R1 H1 ρ1 r1 e1 p1 => by
  refine ⟨b, rfl, ?_⟩
  cases b with
  | true =>
    obtain ⟨k, e, q⟩ := Post.here (d := D.bl true) (v := V.bl true) p1 r1 (RD.bl _)
    cases e
    exact iteT q
  | false => exact iteF ⟨A, ρ1, al, σ, R1, r1, p1⟩⟩
theorem snd_andc (ha : PE X a (tB F W ck xa)) (hb : PE X (.BoolOp .And (b :: es) pos) (tEA F W ck (.cons xb xs))) : PE X (.BoolOp .And (a :: b :: es) pos) (tEA F W ck (.cons xa (.cons xb xs))) :=
  PE.by (pe_and ha hb) fun σV H Q ⟨A, ρ, al, σ, R, r, p⟩ => and_valK r p
theorem snd_orc (ha : PE X a (tB F W ck xa)) (hb : PE X (.BoolOp .Or (b :: es) pos) (tEO F W ck (.cons xb xs))) : PE X (.BoolOp .Or (a :: b :: es) pos) (tEO F W ck (.cons xa (.cons xb xs))) :=
  PE.by (pe_or ha hb) fun σV H Q ⟨A, ρ, al, σ, R, r, p⟩ => or_valK r p
theorem snd_and (ha : PE X a (tB F W ck xa)) (hb : PE X (.BoolOp .And (b :: es) pos) (tEA F W ck xs)) : PE X (.BoolOp .And (a :: b :: es) pos) (tS F W ck (.and xa xs)) :=
  PE.by (pe_and ha hb) fun σV H Q ⟨A, ρ, al, σ, R, r, p⟩ => and_valK r p
theorem snd_or (ha : PE X a (tB F W ck xa)) (hb : PE X (.BoolOp .Or (b :: es) pos) (tEO F W ck xs)) : PE X (.BoolOp .Or (a :: b :: es) pos) (tS F W ck (.or xa xs)) :=
  PE.by (pe_or ha hb) fun σV H Q ⟨A, ρ, al, σ, R, r, p⟩ => or_valK r p
theorem snd_andcT (ha : PT X a (tQ (tS F W ck xa))) (hb : PW X (.BoolOp .And (b :: es) pos) (tQ (tEA F W ck (.cons xb xs)))) : PW X (.BoolOp .And (a :: b :: es) pos) (tQ (tEA F W ck (.cons xa (.cons xb xs)))) :=
  PW.by (pw_and ha hb) fun σV H Q ⟨A, ρ, al, σ, R, r, p⟩ => and_testK r p
theorem snd_orcT (ha : PT X a (tQ (tS F W ck xa))) (hb : PW X (.BoolOp .Or (b :: es) pos) (tQ (tEO F W ck (.cons xb xs)))) : PW X (.BoolOp .Or (a :: b :: es) pos) (tQ (tEO F W ck (.cons xa (.cons xb xs)))) :=
  PW.by (pw_or ha hb) fun σV H Q ⟨A, ρ, al, σ, R, r, p⟩ => or_testK r p
theorem snd_andT (ha : PT X a (tQ (tS F W ck xa))) (hb : PW X (.BoolOp .And (b :: es) pos) (tQ (tEA F W ck xs))) : PT X (.BoolOp .And (a :: b :: es) pos) (tQ (tS F W ck (.and xa xs))) :=
  (PW.by (pw_and ha hb) fun σV H Q ⟨A, ρ, al, σ, R, r, p⟩ => and_testK r p).pt
theorem snd_orT (ha : PT X a (tQ (tS F W ck xa))) (hb : PW X (.BoolOp .Or (b :: es) pos) (tQ (tEO F W ck xs))) : PT X (.BoolOp .Or (a :: b :: es) pos) (tQ (tS F W ck (.or xa xs))) :=
  (PW.by (pw_or ha hb) fun σV H Q ⟨A, ρ, al, σ, R, r, p⟩ => or_testK r p).pt
/-! a if c else b -/
def iteK (ck : Nat → List D → RH → Res D) (xa xb : Ex) (σ : List Sl) : D → RH → Res D := fun x R => match x with
    | .bl true => stx xa σ (ev ck xa σ R)
    | .bl false => stx xb σ (ev ck xb σ R)
    | _ => .bad
theorem snd_ite (hc : PT X c (tQ (tS F W ck xc))) (ha : PE X a (tS F W ck xa)) (hb : PE X b (tS F W ck xb)) : PE X (.IfExp c a b pos) (tS F W ck (.ite xc xa xb)) :=
  PE.by (pe_ifExp hc ha hb) fun σV H Q ⟨A, ρ, al, σ, R, r, p⟩ => ⟨A, ρ, al, σ, R, r, Post.test (f := iteK ck xa xb σ) r p (fun d R h => by cases d <;> first | rfl | exact absurd rfl (h _)) fun b R1 H1 ρ1 r1 e1 p1 => ⟨b, rfl, by
    cases b with
    | true => exact iteT ⟨A, ρ1, al, σ, R1, r1, p1⟩
    | false => exact iteF ⟨A, ρ1, al, σ, R1, r1, p1⟩⟩⟩
end
end Cw

end
section
/-! CwH: calls of defs and built-ins, places, slices. -/
namespace Cw
open PySem L2 PyProof.Rows

/-! ### a def's promise -/
def Refs (F : Fx) (ρ : List Addr) (R : RH) (Hm H : Hp) : Prop := ρ.length = R.length ∧ ∀ (i : Nat) (a : Addr) (ds : List D), ρ[i]? = some a → R[i]? = some ds → ∃ vs, H a = some (.lst vs) ∧ RDs F ρ Hm vs ds
def spI (F : Fx) (cal : List D → RH → Res D) (np : Nat) : Sp := fun vs H Q E => ∃ O0 ρ R ds, ρ.Nodup ∧ (∀ a ∈ O0, a ∉ ρ ∧ H a ≠ none) ∧ Refs F ρ R (mask H (O0 ++ ρ)) H ∧ RDs F ρ (mask H (O0 ++ ρ)) vs ds ∧ vs.length = np ∧
  match cal ds R with
  | .ok d R' => ∀ v H' ρ', Ext ρ H ρ' H' → ρ'.Nodup → Refs F ρ' R' (mask H' (O0 ++ ρ')) H' → RD F ρ' (mask H' (O0 ++ ρ')) v d → Q v H'
  | .exc c R' => ∀ H' ρ' C, Ext ρ H ρ' H' → ρ'.Nodup → Refs F ρ' R' (mask H' (O0 ++ ρ')) H' → F.ca c = some C → E (.ref C) none H'
  | .bad => False
section
variable {F : Fx} {A : Act} {al : List (Option Addr)} {W : XW} {σ : List Sl} {σV : L2.St} {ρ : List Addr} {H : Hp} {R : RH}
theorem mask_oo (A : Act) (al : List (Option Addr)) (H : Hp) (ρ : List Addr) : mask H ((A.O0 ++ owns al) ++ ρ) = mask H (OO A ρ al) := mask_congr fun a => by
  unfold OO
  simp only [List.mem_append]
  constructor
  · rintro ((h | h) | h)
    · exact .inl (.inl h)
    · exact .inr h
    · exact .inl (.inr h)
  · rintro ((h | h) | h)
    · exact .inl (.inl h)
    · exact .inr h
    · exact .inl (.inr h)
/-- from a caller's state to the callee's promise, and back -/
theorem call_fin (r : Rel F A ρ al σ R σV H) {cal : List D → RH → Res D} {np : Nat} {vs : List V} {ds : List D} {Q : VK} (q : RMs F A al ρ H vs ds) (hn : ds.length = np) (p : Post F A al W σ σV ρ H (cal ds R) (RM F A al) Q) :
    spI F cal np vs H Q (WE (XW.wx F W) σV) := by
  refine ⟨A.O0 ++ owns al, ρ, R, ds, (List.nodup_append.mp r.nd).1, fun a h => ?_, ⟨r.rl, ?_⟩, ?_, by rw [q.length]; exact hn, ?_⟩
  · rcases List.mem_append.mp h with h | h
    · exact ⟨(r.o0 a h).2.1, r.ltB h⟩
    · exact ⟨fun m => (List.nodup_append.mp r.nd).2.2 a m a h rfl, r.ltO h⟩
  · rw [mask_oo]; exact r.rf
  · rw [mask_oo]; exact q
  · have back : ∀ {H' : Hp} {ρ' : List Addr} {R' : RH}, Ext ρ H ρ' H' → ρ'.Nodup → Refs F ρ' R' (mask H' ((A.O0 ++ owns al) ++ ρ')) H' → Rel F A ρ' al σ R' σV H' := fun {H' ρ' R'} e nd rf => by
      rw [mask_oo] at rf
      exact r.step e nd rf.1 rf.2
    cases z : cal ds R with
    | ok d R' =>
      rw [z] at p
      intro v H' ρ' e nd rf rd
      rw [mask_oo] at rd
      exact p v H' ρ' (back e nd rf) e rd
    | exc c R' =>
      rw [z] at p
      intro H' ρ' C e nd rf hc
      exact ⟨c, C, rfl, hc, rfl, p H' ρ' (back e nd rf) e⟩
    | bad => rw [z] at p; exact p
end
def noStar (es : List Expr) : Bool := es.all fun e => !isStar e
theorem plain_of {env : Env} {pos : Pos} : ∀ {es : List Expr}, noStar es = true → (backTo pos (starEach es env)).any (·.1) = false
  | [], _ => rfl
  | e :: es, h => by
    simp only [noStar, List.all_cons, Bool.and_eq_true, Bool.not_eq_true'] at h
    rw [star_cons h.1]
    show (backTo pos ((false, eval e env) :: starEach es env)).any (·.1) = false
    simp only [backTo, List.map_cons, List.any_cons, Bool.false_or]
    exact plain_of (env := env) (pos := pos) (es := es) (by simpa [noStar] using h.2)
theorem star_of {env : Env} {e : Expr} {es : List Expr} (h : noStar (e :: es) = true) : starEach (e :: es) env = (false, eval e env) :: starEach es env := by
  simp only [noStar, List.all_cons, Bool.and_eq_true, Bool.not_eq_true'] at h
  exact star_cons h.1
theorem noStar_tail {e : Expr} {es : List Expr} (h : noStar (e :: es) = true) : noStar es = true := by
  simp only [noStar, List.all_cons, Bool.and_eq_true] at h
  exact h.2
section
variable {F : Fx} {A : Act} {W : XW} {ck : Nat → List D → RH → Res D} {X : Cx} {e : Expr} {es : List Expr} {xs : Exs} {x : Str} {p pos : Pos} {k f : Nat} {fa : Addr} {fd : FuncData} {ps : List Str}
/-- what a call of the def number f at level k may lean on -/
structure FnAt (F : Fx) (ck : Nat → List D → RH → Res D) (X : Cx) (k : Nat) (x : Str) (f np : Nat) : Prop where
  at_ : ∃ (fa : Addr) (fd : FuncData) (ps : List Str), X.mg x = some (.ref fa) ∧ FnOk X.prog X.w X.K X.mg X.base (L2.CX X.prog X.w) k fa fd ps (spI F (ck f) np) ∧ PySem.W.keepIn X.K (.ref fa) = true ∧ Binds X.K fd ps []
theorem snd_call (G : FnAt F ck X k x f (lenX xs)) (hr : Room k X.A) (hg : Gl X x) (tk : Takes X (XW.wx F W)) (hd : (x == ("__debug__" : Str)) = false) (hs : noStar (e :: es) = true) (ha : PA X (e :: es) (tAs F W ck xs)) :
    PE X (.Call (.Name x p) (e :: es) [] pos) (tS F W ck (.call f xs)) := by
  obtain ⟨fa, fd, ps, hm, hf, hk, hb⟩ := G.at_
  refine PE.by (pe_callS hf hr hg hm hk hb (fun σ => passAt tk σ) ha hd (star_of hs) (plain_of (noStar_tail hs))) fun σV H Q ⟨A, ρ, al, σ, R, r, p⟩ => ⟨A, ρ, al, σ, R, r, ?_⟩
  have p : Post F A al W σ σV ρ H ((evs ck xs σ R).bind fun ds R => ck f ds R) (RM F A al) Q := p
  cases q : evs ck xs σ R with
  | ok ds R1 =>
    rw [q] at p
    exact fun vs H1 ρ1 r1 e1 q1 => call_fin r1 q1 (evs_len q) (Post.ext p e1)
  | exc c R1 => rw [q] at p; exact p
  | bad => rw [q] at p; exact p
/-- f() -/
theorem snd_call0 (G : FnAt F ck X k x f 0) (hr : Room k X.A) (hg : Gl X x) (tk : Takes X (XW.wx F W)) (hd : (x == ("__debug__" : Str)) = false) :
    PE X (.Call (.Name x p) [] [] pos) (tS F W ck (.call f .nil)) := by
  obtain ⟨fa, fd, ps, hm, hf, hk, hb⟩ := G.at_
  refine ⟨fun pins s σV H Q I ⟨A, ρ, al, σ, R, r, p⟩ => ?_⟩
  refine wpAny_Call_Name_kw (ld_glob I hg hm ?_ hd)
  have p : Post F A al W σ σV ρ H (ck f [] R) (RM F A al) Q := p
  exact PySem.W.callWith_K0 I.kIn hk (run_fnS (E := WE (XW.wx F W)) (us := []) hf hr hb (passAt tk σV) I .nil (call_fin r (vs := []) (ds := []) RDs.nil rfl p))
end

/-! ### built-ins -/
theorem insI_perm (x : Int) : ∀ l, (insI x l).Perm (x :: l)
  | [] => List.Perm.refl _
  | y :: l => by
    unfold insI
    split
    · exact List.Perm.refl _
    · exact ((insI_perm x l).cons y).trans (List.Perm.swap x y l)
theorem insI_sorted (x : Int) : ∀ l : List Int, l.Pairwise (· ≤ ·) → (insI x l).Pairwise (· ≤ ·)
  | [], _ => List.pairwise_singleton _ _
  | y :: l, h => by
    obtain ⟨h1, h2⟩ := List.pairwise_cons.mp h
    unfold insI
    split
    · rename_i q
      refine List.pairwise_cons.mpr ⟨fun z hz => ?_, h⟩
      rcases List.mem_cons.mp hz with rfl | hz
      · omega
      · have := h1 z hz; omega
    · rename_i q
      refine List.pairwise_cons.mpr ⟨fun z hz => ?_, insI_sorted x l h2⟩
      rcases List.mem_cons.mp ((insI_perm x l).mem_iff.mp hz) with rfl | hz
      · omega
      · exact h1 z hz
theorem foldI (l : List Int) : ∀ acc : List Int, (l.foldl (fun acc x => insI x acc) acc).Perm (l ++ acc) ∧ (acc.Pairwise (· ≤ ·) → (l.foldl (fun acc x => insI x acc) acc).Pairwise (· ≤ ·)) := by
  induction l with
  | nil => exact fun acc => ⟨List.Perm.refl _, id⟩
  | cons x l ih =>
    intro acc
    obtain ⟨h1, h2⟩ := ih (insI x acc)
    refine ⟨h1.trans ?_, fun h => h2 (insI_sorted x acc h)⟩
    exact ((insI_perm x acc).append_left l).trans List.perm_middle
theorem sortI_perm (l : List Int) : (sortI l).Perm l := by have := (foldI l []).1; rwa [List.append_nil] at this
theorem sortI_sorted (l : List Int) : (sortI l).Pairwise (· ≤ ·) := (foldI l []).2 List.Pairwise.nil
theorem sorted_one {l m : List Int} (p : l.Perm m) (h : l.Pairwise (· ≤ ·)) : l = sortI m :=
  List.Perm.eq_of_pairwise (fun a b _ _ h1 h2 => Int.le_antisymm h1 h2) h (sortI_sorted m) (p.trans (sortI_perm m).symm)
theorem maxI_spec : ∀ (l : List Int) (m : Int), maxI m l ∈ m :: l ∧ ∀ y ∈ m :: l, y ≤ maxI m l
  | [], m => ⟨List.mem_singleton.mpr rfl, fun y h => by rw [List.mem_singleton.mp h]; exact Int.le_refl _⟩
  | x :: l, m => by
    obtain ⟨h1, h2⟩ := maxI_spec l (if m < x then x else m)
    unfold maxI
    refine ⟨?_, fun y h => ?_⟩
    · rcases List.mem_cons.mp h1 with e | h
      · rw [e]
        split
        · exact List.mem_cons_of_mem _ List.mem_cons_self
        · exact List.mem_cons_self
      · exact List.mem_cons_of_mem _ (List.mem_cons_of_mem _ h)
    · have h3 := h2 _ List.mem_cons_self
      have h4 := fun y (h : y ∈ l) => h2 y (List.mem_cons_of_mem _ h)
      generalize maxI (if m < x then x else m) l = M at h3 h4 ⊢
      rcases List.mem_cons.mp h with e | h
      · subst e; split at h3 <;> omega
      · rcases List.mem_cons.mp h with e | h
        · subst e; split at h3 <;> omega
        · exact h4 y h
theorem minI_spec : ∀ (l : List Int) (m : Int), minI m l ∈ m :: l ∧ ∀ y ∈ m :: l, minI m l ≤ y
  | [], m => ⟨List.mem_singleton.mpr rfl, fun y h => by rw [List.mem_singleton.mp h]; exact Int.le_refl _⟩
  | x :: l, m => by
    obtain ⟨h1, h2⟩ := minI_spec l (if x < m then x else m)
    unfold minI
    refine ⟨?_, fun y h => ?_⟩
    · rcases List.mem_cons.mp h1 with e | h
      · rw [e]
        split
        · exact List.mem_cons_of_mem _ List.mem_cons_self
        · exact List.mem_cons_self
      · exact List.mem_cons_of_mem _ (List.mem_cons_of_mem _ h)
    · have h3 := h2 _ List.mem_cons_self
      have h4 := fun y (h : y ∈ l) => h2 y (List.mem_cons_of_mem _ h)
      generalize minI (if x < m then x else m) l = M at h3 h4 ⊢
      rcases List.mem_cons.mp h with e | h
      · subst e; split at h3 <;> omega
      · rcases List.mem_cons.mp h with e | h
        · subst e; split at h3 <;> omega
        · exact h4 y h
theorem rngI_get : ∀ (n : Nat) (lo : Int) (i : Nat), i < n → (rngI lo n)[i]? = some (.int (lo + i))
  | n + 1, lo, 0, _ => by simp [rngI]
  | n + 1, lo, i + 1, h => by
    simp only [rngI, List.getElem?_cons_succ]
    rw [rngI_get n (lo + 1) i (by omega)]
    have : lo + 1 + (i : Int) = lo + ((i + 1 : Nat) : Int) := by omega
    rw [this]
theorem rngI_length : ∀ (n : Nat) (lo : Int), (rngI lo n).length = n
  | 0, _ => rfl
  | n + 1, lo => congrArg (· + 1) (rngI_length n (lo + 1))
theorem rngI_eq (n : Nat) (lo : Int) : rngI lo n = (List.range n).map fun i => D.int (lo + (i : Nat)) := by
  refine List.ext_getElem? fun i => ?_
  by_cases h : i < n
  · rw [rngI_get n lo i h, List.getElem?_map, List.getElem?_range h]
    rfl
  · rw [List.getElem?_eq_none (by rw [rngI_length]; omega), List.getElem?_eq_none (by rw [List.length_map, List.length_range]; omega)]
theorem rgV_rd {F : Fx} {ρ : List Addr} {H : Hp} (a b : Int) : RDs F ρ H (rgV a b) (rngI a (b - a).toNat) := by
  rw [rngI_eq]
  unfold rgV
  generalize List.range (b - a).toNat = l
  induction l with
  | nil => exact .nil
  | cons i l ih => exact .cons (.int _) ih

/-- by their values -/
def rBlt (K : PySem.W.Frag) : Blt → List V → Hp → VK → Prop
  | .len => fun xs H Q => (∃ x n, xs = [x] ∧ LenV K x H n ∧ Q (.int n) H) ∨ ∃ d kvs, xs = [V.ref d] ∧ H d = some (.dK kvs) ∧ Q (.int kvs.length) H
  | .abs => fun xs H Q => ∃ i, xs = [.int i] ∧ Q (.int (if i < 0 then -i else i)) H
  | .int => fun xs H Q => (∃ i, xs = [.int i] ∧ Q (.int i) H) ∨ ∃ k, xs = [.bl k] ∧ Q (.int (if k then 1 else 0)) H
  | .min => fun xs H Q => (∃ i j, xs = [.int i, .int j] ∧ Q (.int (if j < i then j else i)) H) ∨ rMin K xs H Q
  | .max => fun xs H Q => (∃ i j, xs = [.int i, .int j] ∧ Q (.int (if j > i then j else i)) H) ∨ rMax K xs H Q
  | .sum => rSum K
  | .all => rAll K
  | .any => rAny K
  | .sorted => rSortedI K
  | .list => fun xs H Q => ∃ p ys, xs = [.ref p] ∧ (SqL K H p ys ∨ SqT K H p ys) ∧ ∀ l, H l = none → Q (.ref l) (upd H l (.lst ys))
  | .tuple => fun xs H Q => ∃ p ys, xs = [.ref p] ∧ ((SqL K H p ys ∧ ∀ l, H l = none → Q (.ref l) (upd H l (.tup ys))) ∨ (SqT K H p ys ∧ Q (.ref p) H))
  | .lrange => fun _ _ _ => False
def bltV : Blt → Value
  | .len => .builtin "len"
  | .abs => .builtin "abs"
  | .int => .type "int"
  | .min => .builtin "min"
  | .max => .builtin "max"
  | .sum => .builtin "sum"
  | .all => .builtin "all"
  | .any => .builtin "any"
  | .sorted => .builtin "sorted"
  | .list => .type "list"
  | .tuple => .type "tuple"
  | .lrange => .none
def bltN : Blt → Str
  | .len => "len"
  | .abs => "abs"
  | .int => "int"
  | .min => "min"
  | .max => "max"
  | .sum => "sum"
  | .all => "all"
  | .any => "any"
  | .sorted => "sorted"
  | .list => "list"
  | .tuple => "tuple"
  | .lrange => "list"
theorem cr_blt {X : Cx} (hc : X.calm = true) : ∀ f : Blt, f ≠ .lrange → CallR X (bltV f) (rBlt X.K f)
  | .len, _ => call_len.or call_lenD
  | .abs, _ => call_abs
  | .int, _ => call_int1
  | .min, _ => (call_min2 hc).or (cr_min hc)
  | .max, _ => (call_max2 hc).or (cr_max hc)
  | .sum, _ => cr_sum hc
  | .all, _ => cr_all hc
  | .any, _ => cr_any hc
  | .sorted, _ => cr_sortedI
  | .list, _ => call_list_of
  | .tuple, _ => call_tuple_of
  | .lrange, h => absurd rfl h
end Cw

end
section
/-! CwI: built-ins by own values, isinstance, places, slices. -/
namespace Cw
open PySem L2 PyProof.Rows
section
variable {F : Fx} {A : Act} {al : List (Option Addr)} {W : XW} {σ : List Sl} {σV : L2.St} {ρ : List Addr} {H : Hp} {R : RH} {K : PySem.W.Frag}
theorem RTs.one {vs : List V} {d : D} (h : RTs F A al ρ H vs [d]) : ∃ v, vs = [v] ∧ RT F A al ρ H v d := by
  cases h with
  | cons h t => cases t; exact ⟨_, rfl, h⟩
theorem RTs.two {vs : List V} {d e : D} (h : RTs F A al ρ H vs [d, e]) : ∃ v u, vs = [v, u] ∧ RT F A al ρ H v d ∧ RT F A al ρ H u e := by
  cases h with
  | cons h t => cases t with
    | cons h2 t => cases t; exact ⟨_, _, rfl, h, h2⟩
theorem RDp.length {F : Fx} {ρ : List Addr} {H : Hp} : ∀ {a : List (Key × V)} {b : List (Key × D)}, RDp F ρ H a b → a.length = b.length
  | _, _, .nil => rfl
  | _, _, .cons _ t => congrArg (· + 1) (RDp.length t)
theorem RDt.length {F : Fx} {ρ : List Addr} {H : Hp} : ∀ {a : List (List Key × V)} {b : List (List Key × D)}, RDt F ρ H a b → a.length = b.length
  | _, _, .nil => rfl
  | _, _, .cons _ t => congrArg (· + 1) (RDt.length t)
def lenA (f : Blt) (R : RH) (ds : List D) : List D := match f with
  | .len => ds.map (lenR R)
  | _ => ds
theorem len_fin (hK : F.K = K) (r : Rel F A ρ al σ R σV H) {x d : D} {v : V} {Q : VK} (q : RT F A al ρ H v x) (e : bltD .len [lenR R x] = some d) (p : Post F A al W σ σV ρ H (.ok d R) (RM F A al) Q) : rBlt K .len [v] H Q := by
  subst hK
  cases x with
  | lst xs =>
    cases e
    obtain ⟨a, vs, rfl, h, t⟩ := q.lst
    exact .inl ⟨_, xs.length, rfl, .inl ⟨vs, .of h, t.length.symm⟩, p.here r (RD.int _)⟩
  | frz xs =>
    cases e
    obtain ⟨a, vs, rfl, h, t⟩ := q.frz
    exact .inl ⟨_, xs.length, rfl, .inl ⟨vs, h, t.length.symm⟩, p.here r (RD.int _)⟩
  | tup xs =>
    cases e
    obtain ⟨a, vs, rfl, h, t⟩ := q.tup
    exact .inl ⟨_, xs.length, rfl, .inr ⟨vs, h, t.length.symm⟩, p.here r (RD.int _)⟩
  | str z =>
    simp only [lenR, bltD] at e
    split at e
    · rename_i hz
      cases e
      have := q.str
      subst this
      exact .inl ⟨_, z.length, rfl, ⟨hz, rfl⟩, p.here r (RD.int _)⟩
    · cases e
  | dK kvs =>
    cases e
    obtain ⟨a, vs, rfl, h, t⟩ := q.dK
    exact .inr ⟨a, vs, rfl, h, by rw [t.length]; exact p.here r (RD.int _)⟩
  | ref i =>
    obtain ⟨a, rfl, h⟩ := q.ref
    simp only [lenR] at e
    cases z : R[i]? with
    | none => rw [z] at e; simp [bltD] at e
    | some xs =>
      rw [z] at e
      cases e
      obtain ⟨vs, h1, t⟩ := r.rf i a xs h z
      exact .inl ⟨_, xs.length, rfl, .inl ⟨vs, .of h1, t.length.symm⟩, p.here r (RD.int _)⟩
  | non => simp [lenR, bltD] at e
  | bl b => simp [lenR, bltD] at e
  | int b => simp [lenR, bltD] at e
  | dT b => simp [lenR, bltD] at e
  | fn b => simp [lenR, bltD] at e
theorem ofIn (ns : List Int) {ρ : List Addr} {Hm : Hp} : RDs F ρ Hm (ns.map V.int) (ns.map D.int) := RDs.ofInts ns
theorem blt_fin (hK : F.K = K) (r : Rel F A ρ al σ R σV H) {f : Blt} (hf : f ≠ .lrange) {ds : List D} {d : D} {vs : List V} {Q : VK} (q : RTs F A al ρ H vs ds) (e : bltD f (lenA f R ds) = some d) (p : Post F A al W σ σV ρ H (.ok d R) (RM F A al) Q) : rBlt K f vs H Q := by
  by_cases hlen : f = .len
  · subst hlen
    cases q with
    | nil => simp [lenA, bltD] at e
    | cons q t =>
      cases t with
      | nil => exact len_fin hK r q e p
      | cons q2 t => simp [lenA, bltD] at e
  replace e : bltD f ds = some d := by
    cases f <;> first | exact e | exact absurd rfl hlen
  subst hK
  unfold bltD at e
  split at e
  any_goals (exact absurd rfl hlen)
  any_goals (exact absurd rfl hf)
  · cases e
    obtain ⟨v, rfl, q1⟩ := q.one
    exact ⟨_, by rw [q1.int], p.here r (RD.int _)⟩
  · cases e
    obtain ⟨v, rfl, q1⟩ := q.one
    exact .inl ⟨_, by rw [q1.int], p.here r (RD.int _)⟩
  · cases e
    obtain ⟨v, rfl, q1⟩ := q.one
    exact .inr ⟨_, by rw [q1.bl], p.here r (RD.int _)⟩
  · cases e
    obtain ⟨v, u, rfl, q1, q2⟩ := q.two
    exact .inl ⟨_, _, by rw [q1.int, q2.int], p.here r (RD.int _)⟩
  · cases e
    obtain ⟨v, u, rfl, q1, q2⟩ := q.two
    exact .inl ⟨_, _, by rw [q1.int, q2.int], p.here r (RD.int _)⟩
  · rename_i i l
    obtain ⟨v, rfl, q1⟩ := q.one
    obtain ⟨a, vs, rfl, h, t⟩ := q1.lst
    cases z : intsD l with
    | none => rw [z] at e; cases e
    | some ns =>
      rw [z] at e
      cases e
      have t' := RDs.int (ns := i :: ns) t (by simp [intsD, z])
      subst t'
      obtain ⟨m1, m2⟩ := maxI_spec ns i
      exact .inr ⟨a, i :: ns, rfl, .of h, by simp, fun m h1 h2 => by
        have : m = maxI i ns := Int.le_antisymm (m2 m h1) (h2 _ m1)
        rw [this]
        exact p.here r (RD.int _)⟩
  · rename_i i l
    obtain ⟨v, rfl, q1⟩ := q.one
    obtain ⟨a, vs, rfl, h, t⟩ := q1.lst
    cases z : intsD l with
    | none => rw [z] at e; cases e
    | some ns =>
      rw [z] at e
      cases e
      have t' := RDs.int (ns := i :: ns) t (by simp [intsD, z])
      subst t'
      obtain ⟨m1, m2⟩ := minI_spec ns i
      exact .inr ⟨a, i :: ns, rfl, .of h, by simp, fun m h1 h2 => by
        have : m = minI i ns := Int.le_antisymm (h2 _ m1) (m2 m h1)
        rw [this]
        exact p.here r (RD.int _)⟩
  · rename_i l
    obtain ⟨v, rfl, q1⟩ := q.one
    obtain ⟨a, vs, rfl, h, t⟩ := q1.lst
    cases z : intsD l with
    | none => rw [z] at e; cases e
    | some ns =>
      rw [z] at e
      cases e
      have t' := RDs.int t z
      subst t'
      exact ⟨a, ns, rfl, .of h, p.here r (RD.int _)⟩
  · rename_i l
    obtain ⟨v, rfl, q1⟩ := q.one
    obtain ⟨a, vs, rfl, h, t⟩ := q1.lst
    cases z : blsD l with
    | none => rw [z] at e; cases e
    | some ns =>
      rw [z] at e
      cases e
      have t' := RDs.bool t z
      subst t'
      exact ⟨a, ns, rfl, .of h, p.here r (RD.bl _)⟩
  · rename_i l
    obtain ⟨v, rfl, q1⟩ := q.one
    obtain ⟨a, vs, rfl, h, t⟩ := q1.lst
    cases z : blsD l with
    | none => rw [z] at e; cases e
    | some ns =>
      rw [z] at e
      cases e
      have t' := RDs.bool t z
      subst t'
      exact ⟨a, ns, rfl, .of h, p.here r (RD.bl _)⟩
  · rename_i l
    obtain ⟨v, rfl, q1⟩ := q.one
    obtain ⟨a, vs, rfl, h, t⟩ := q1.lst
    cases z : intsD l with
    | none => rw [z] at e; cases e
    | some ns =>
      rw [z] at e
      cases e
      have t' := RDs.int t z
      subst t'
      refine ⟨a, ns, rfl, .of h, fun ns' b h1 h2 hb => ?_⟩
      rw [sorted_one h1 h2]
      exact p.new r hb (RM.lst r hb (ofIn _))
  · cases e
    obtain ⟨v, rfl, q1⟩ := q.one
    obtain ⟨a, vs, rfl, h, t⟩ := q1.lst
    exact ⟨a, vs, rfl, .inl (.of h), fun b hb => p.new r hb (RM.lst r hb t)⟩
  · cases e
    obtain ⟨v, rfl, q1⟩ := q.one
    obtain ⟨a, vs, rfl, h, t⟩ := q1.frz
    exact ⟨a, vs, rfl, .inl h, fun b hb => p.new r hb (RM.lst r hb t)⟩
  · cases e
    obtain ⟨v, rfl, q1⟩ := q.one
    obtain ⟨a, vs, rfl, h, t⟩ := q1.tup
    exact ⟨a, vs, rfl, .inr h, fun b hb => p.new r hb (RM.lst r hb t)⟩
  · cases e
    obtain ⟨v, rfl, q1⟩ := q.one
    obtain ⟨a, vs, rfl, h, t⟩ := q1.lst
    exact ⟨a, vs, rfl, .inl ⟨.of h, fun b hb => p.new r hb (RM.tup r hb t)⟩⟩
  · cases e
    obtain ⟨v, rfl, q1⟩ := q.one
    obtain ⟨a, vs, rfl, h, t⟩ := q1.frz
    exact ⟨a, vs, rfl, .inl ⟨h, fun b hb => p.new r hb (RM.tup r hb t)⟩⟩
  · cases e
    obtain ⟨v, rfl, q1⟩ := q.one
    obtain ⟨a, vs, rfl, h, t⟩ := q1.tup
    exact ⟨a, vs, rfl, .inr ⟨h, p.here r q1.tupM⟩⟩
  · cases e
end
section
variable {F : Fx} {A : Act} {W : XW} {ck : Nat → List D → RH → Res D} {X : Cx} {e a b : Expr} {xa xb : Ex} {es : List Expr} {xs : Exs} {p pos : Pos}
theorem bltN_ok : ∀ f : Blt, f ≠ .lrange → bootBuiltins (bltN f) = some (bltV f) ∧ bltN f ≠ "__name__" ∧ (bltN f == ("__debug__" : Str)) = false := by
  intro f hf
  cases f <;> first | exact absurd rfl hf | exact ⟨by decide +kernel, by decide +kernel, by decide +kernel⟩
theorem snd_blt (hK : F.K = X.K) (hc : X.calm = true) {f : Blt} (hf : f ≠ .lrange) (hg : Gl X (bltN f)) (hm : X.mg (bltN f) = none) (hs : noStar (e :: es) = true) (ha : PA X (e :: es) (tAb F W ck xs)) :
    PE X (.Call (.Name (bltN f) p) (e :: es) [] pos) (tS F W ck (.blt f xs)) := by
  obtain ⟨h1, h2, h3⟩ := bltN_ok f hf
  have main : PE X (.Call (.Name (bltN f) p) (e :: es) [] pos) (tCB (rBlt X.K f) (tAb F W ck xs)) := by
    have cr := cr_blt (X := X) hc f hf
    cases f with
    | int => exact pe_callTy cr hg hm h1 ha h2 h3 (star_of hs) (plain_of (noStar_tail hs))
    | list => exact pe_callTy cr hg hm h1 ha h2 h3 (star_of hs) (plain_of (noStar_tail hs))
    | tuple => exact pe_callTy cr hg hm h1 ha h2 h3 (star_of hs) (plain_of (noStar_tail hs))
    | lrange => exact absurd rfl hf
    | _ => exact pe_callB cr hg hm h1 ha h2 h3 (star_of hs) (plain_of (noStar_tail hs))
  refine PE.by main fun σV H Q ⟨A, ρ, al, σ, R, r, p⟩ => ⟨A, ρ, al, σ, R, r, Post.bind (f := fun ds R => Res.of (bltD f (lenA f R ds)) R) (Rl := RTs F A al) (show Post F A al W σ σV ρ H ((evb ck xs σ R).bind fun ds R => .of (bltD f (lenA f R ds)) R) (RM F A al) Q from p) fun d R1 v H1 ρ1 r1 e1 q1 p1 => ?_⟩
  obtain ⟨d', e', p2⟩ := p1.of
  exact blt_fin hK r1 hf q1 e' p2
/-- list(range(..)) -/
theorem snd_lrange1 (hc : X.calm = true) (hg : Gl X "list") (hm : X.mg "list" = none) (hg2 : Gl X "range") (hm2 : X.mg "range" = none) (hs : noStar [a] = true) (ha : PE X a (tB F W ck xa)) {p2 pos2 : Pos} :
    PE X (.Call (.Name "list" p) [.Call (.Name "range" p2) [a] [] pos2] [] pos) (tS F W ck (.blt .lrange (.cons xa .nil))) := by
  refine PE.by (pe_listRg hc hg hm (prg_1 hg2 hm2 ha (star_of hs))) fun σV H Q ⟨A, ρ, al, σ, R, r, p⟩ => ⟨A, ρ, al, σ, R, r, ?_⟩
  have p : Post F A al W σ σV ρ H (((ev ck xa σ R).bind fun x R => (Res.ok [] R).bind fun xs R => .ok (x :: xs) R).bind fun ds R => .of (bltD .lrange ds) R) (RM F A al) Q := p
  cases q : ev ck xa σ R with
  | ok d R1 =>
    rw [q] at p
    intro v H1 ρ1 r1 e1 q1
    obtain ⟨d', e', p2⟩ := (Post.ext p e1).of
    cases d <;> simp only [bltD] at e' <;> first | (cases e'; done) | skip
    rename_i n
    split at e'
    · rename_i h
      cases e'
      simp only [Bool.and_eq_true, decide_eq_true_eq] at h
      have hz : (sizeLine : Int) = 16777216 := by decide
      refine ⟨n, q1.int, ⟨by omega, by omega, by omega, by omega, by omega⟩, fun b hb => p2.new r1 hb (RM.lst r1 hb ?_)⟩
      have := rgV_rd (F := F) (ρ := ρ1) (H := mask H1 (OO A ρ1 al)) 0 n
      rw [Int.sub_zero] at this
      exact this
    · cases e'
  | exc c R1 => rw [q] at p; exact p
  | bad => rw [q] at p; exact p
theorem snd_lrange2 (hc : X.calm = true) (hg : Gl X "list") (hm : X.mg "list" = none) (hg2 : Gl X "range") (hm2 : X.mg "range" = none) (hs : noStar [a, b] = true) (ha : PE X a (tB F W ck xa)) (hb : PE X b (tB F W ck xb)) {p2 pos2 : Pos} :
    PE X (.Call (.Name "list" p) [.Call (.Name "range" p2) [a, b] [] pos2] [] pos) (tS F W ck (.blt .lrange (.cons xa (.cons xb .nil)))) := by
  refine PE.by (pe_listRg hc hg hm (prg_2 hg2 hm2 ha hb (star_of hs) (star_of (noStar_tail hs)) (plain_of (noStar_tail hs)))) fun σV H Q ⟨A, ρ, al, σ, R, r, p⟩ => ⟨A, ρ, al, σ, R, r, ?_⟩
  have p : Post F A al W σ σV ρ H ((ev ck xa σ R).bind fun x R => ((ev ck xb σ R).bind fun y R => Res.ok [y] R).bind fun xs R => .of (bltD .lrange (x :: xs)) R) (RM F A al) Q := by
    have p : Post F A al W σ σV ρ H (((ev ck xa σ R).bind fun x R => ((ev ck xb σ R).bind fun y R => (Res.ok [] R).bind fun xs R => Res.ok (y :: xs) R).bind fun xs R => .ok (x :: xs) R).bind fun ds R => .of (bltD .lrange ds) R) (RM F A al) Q := p
    cases q : ev ck xa σ R with
    | ok d R1 =>
      rw [q] at p
      simp only [Res.bind] at p ⊢
      cases q2 : ev ck xb σ R1 with
      | ok d2 R2 => rw [q2] at p; simp only [Res.bind] at p ⊢; exact p
      | exc c R1 => rw [q2] at p; exact p
      | bad => rw [q2] at p; exact p
    | exc c R1 => rw [q] at p; exact p
    | bad => rw [q] at p; exact p
  refine p.bind fun d R1 v H1 ρ1 r1 e1 q1 p1 => ⟨A, ρ1, al, σ, R1, r1, ?_⟩
  cases q2 : ev ck xb σ R1 with
  | ok d2 R2 =>
    rw [q2] at p1
    intro u H2 ρ2 r2 e2 q3
    obtain ⟨d', e', p2⟩ := (Post.ext p1 e2).of
    cases d <;> cases d2 <;> simp only [bltD] at e' <;> first | (cases e'; done) | skip
    rename_i n m
    split at e'
    · rename_i h
      cases e'
      simp only [Bool.and_eq_true, decide_eq_true_eq] at h
      have hz : (sizeLine : Int) = 16777216 := by decide
      exact ⟨n, m, q1.int, q3.int, ⟨by omega, by omega, by omega, by omega, by omega⟩, fun b hb => p2.new r2 hb (RM.lst r2 hb (rgV_rd (F := F) n m))⟩
    · cases e'
  | exc c R1 => rw [q2] at p1; exact p1
  | bad => rw [q2] at p1; exact p1
end
end Cw

end
section
/-! CwJ: isinstance, places, slices. -/
namespace Cw
open PySem L2 PyProof.Rows
def kdS : Kd → String
  | .int => "int"
  | .bool => "bool"
  | .str => "str"
  | .tuple => "tuple"
  | .list => "list"
  | .dict => "dict"
def kdN : Kd → Str
  | .int => "int"
  | .bool => "bool"
  | .str => "str"
  | .tuple => "tuple"
  | .list => "list"
  | .dict => "dict"
def tyS : D → String
  | .non => "NoneType"
  | .bl _ => "bool"
  | .int _ => "int"
  | .str _ => "str"
  | .tup _ => "tuple"
  | .lst _ | .ref _ | .frz _ => "list"
  | .dK _ | .dT _ => "dict"
  | .fn _ => "function"
theorem kit_ks : ∀ (k : Kd) (d : D) (b : Bool), isK k d = some b → kitB (tyS d) (kdS k) = some b
  | k, .non, b, h => by cases k <;> (cases h; simp only [tyS, kdS]; decide +kernel)
  | k, .bl _, b, h => by cases k <;> (cases h; simp only [tyS, kdS]; decide +kernel)
  | k, .int _, b, h => by cases k <;> (cases h; simp only [tyS, kdS]; decide +kernel)
  | k, .str _, b, h => by cases k <;> (cases h; simp only [tyS, kdS]; decide +kernel)
  | k, .tup _, b, h => by cases k <;> (cases h; simp only [tyS, kdS]; decide +kernel)
  | k, .lst _, b, h => by cases k <;> (cases h; simp only [tyS, kdS]; decide +kernel)
  | k, .ref _, b, h => by cases k <;> (cases h; simp only [tyS, kdS]; decide +kernel)
  | k, .frz _, b, h => by cases k <;> (cases h; simp only [tyS, kdS]; decide +kernel)
  | k, .dK _, b, h => by cases k <;> (cases h; simp only [tyS, kdS]; decide +kernel)
  | k, .dT _, b, h => by cases k <;> (cases h; simp only [tyS, kdS]; decide +kernel)
  | k, .fn _, b, h => by cases k <;> cases h
section
variable {F : Fx} {A : Act} {al : List (Option Addr)} {W : XW} {σ : List Sl} {σV : L2.St} {ρ : List Addr} {H : Hp} {R : RH} {K : PySem.W.Frag}
theorem ty_sqT {a : Addr} {vs : List V} (h : SqT K H a vs) : TyX K H (.ref a) (.type "tuple") := by
  rcases h with (h | ⟨o, h⟩) | ⟨o, its, n, h, c, _⟩
  · exact .base (.tup h)
  · exact .fTuple h
  · exact .kTuple h c
theorem ty_sqL {a : Addr} {vs : List V} (h : SqL K H a vs) : TyX K H (.ref a) (.type "list") := by
  rcases h with (h | ⟨o, h⟩) | ⟨o, its, n, h, c, _⟩
  · exact .base (.lst h)
  · exact .base (.frz h)
  · exact .kList h c
theorem RT.ty (hK : F.K = K) (r : Rel F A ρ al σ R σV H) {v : V} {d : D} (q : RT F A al ρ H v d) (hd : ∀ i, d ≠ .fn i) : TyX K H v (.type (tyS d)) := by
  subst hK
  cases d with
  | non => rw [q.non]; exact .base .non
  | bl b => rw [q.bl]; exact .base (.bl b)
  | int b => rw [q.int]; exact .base (.int b)
  | str b => rw [q.str]; exact .base (.str b)
  | tup xs => obtain ⟨a, vs, rfl, h, _⟩ := q.tup; exact ty_sqT h
  | lst xs => obtain ⟨a, vs, rfl, h, _⟩ := q.lst; exact .base (.lst h)
  | frz xs => obtain ⟨a, vs, rfl, h, _⟩ := q.frz; exact ty_sqL h
  | dK xs => obtain ⟨a, vs, rfl, h, _⟩ := q.dK; exact .base (.dK h)
  | dT xs =>
    rcases q with h | ⟨a, rfl, _, kvs, h, _⟩
    · cases h with
      | dT h t => exact .base (.dT (mask_some h).1)
    · exact .base (.dT h)
  | ref i =>
    obtain ⟨a, rfl, h⟩ := q.ref
    obtain ⟨vs, h⟩ := r.ltR (List.mem_of_getElem? h)
    exact .base (.lst h)
  | fn i => exact absurd rfl (hd i)
theorem isKs_fn {ks : List Kd} {d : D} {b : Bool} (h : isKs ks d = some b) (hk : ks ≠ []) : ∀ i, d ≠ .fn i := by
  intro i e
  subst e
  cases ks with
  | nil => exact hk rfl
  | cons k ks => simp [isKs, isK] at h
theorem kit_all : ∀ {ks : List Kd} {d : D} {b : Bool}, isKs ks d = some b → PySem.W.kitAny K (.type (tyS d)) (ks.map fun k => Value.type (kdS k)) = some b
  | [], d, b, h => by cases h; rfl
  | k :: ks, d, b, h => by
    simp only [isKs] at h
    cases z : isK k d with
    | none => rw [z] at h; cases h
    | some c =>
      cases z2 : isKs ks d with
      | none => rw [z, z2] at h; cases h
      | some e =>
        rw [z, z2] at h
        cases h
        have h1 := kit_ty (K := K) (kit_ks k d c z)
        have h2 := kit_all (ks := ks) z2
        simp only [List.map_cons, PySem.W.kitAny, h1]
        cases c with
        | true => rfl
        | false => simpa using h2
end
section
variable {F : Fx} {A : Act} {W : XW} {ck : Nat → List D → RH → Res D} {X : Cx} {a b : Expr} {xa xb : Ex} {p pos : Pos}
theorem kd_boot : ∀ k : Kd, bootBuiltins (kdN k) = some (.type (kdS k)) ∧ kdN k ≠ "__name__" ∧ (kdN k == ("__debug__" : Str)) = false := by
  intro k
  cases k <;> exact ⟨by decide +kernel, by decide +kernel, by decide +kernel⟩
theorem pe_kd (k : Kd) {p : Pos} (hg : Gl X (kdN k)) (hm : X.mg (kdN k) = none) : PE X (.Name (kdN k) p) (tC (.ty (kdS k))) := by
  obtain ⟨h1, h2, h3⟩ := kd_boot k
  exact pe_bltn hg hm h1 rfl h2 h3
theorem snd_isi1 (hK : F.K = X.K) (k : Kd) (hg : Gl X "isinstance") (hm : X.mg "isinstance" = none) (hg2 : Gl X (kdN k)) (hm2 : X.mg (kdN k) = none) (hs : isStar a = false) (ha : PE X a (tB F W ck xa)) {p2 : Pos} :
    PE X (.Call (.Name "isinstance" p) [a, .Name (kdN k) p2] [] pos) (tS F W ck (.isi [k] xa)) :=
  PE.by (pe_callB call_isi hg hm (by decide +kernel) (pa_cons ha (pa_cons (pe_kd k hg2 hm2) pa_nil) (star_cons hs)) (by decide) (by decide) (star_cons hs) rfl) fun σV H Q ⟨A, ρ, al, σ, R, r, p⟩ => ⟨A, ρ, al, σ, R, r, Post.bind (show Post F A al W σ σV ρ H ((ev ck xa σ R).bind fun x R => .of ((isKs [k] x).map .bl) R) (RM F A al) Q from p) fun d R1 v H1 ρ1 r1 e1 q1 p1 => by
    obtain ⟨d', e', p2⟩ := p1.of
    cases z : isKs [k] d with
    | none => rw [z] at e'; cases e'
    | some c =>
      rw [z] at e'
      cases e'
      have z1 := kit_all (K := X.K) z
      have z2 : PySem.W.kitOne X.K (.type (tyS d)) (.type (kdS k)) = some c := by
        simp only [List.map_cons, List.map_nil, PySem.W.kitAny] at z1
        cases w : PySem.W.kitOne X.K (.type (tyS d)) (.type (kdS k)) with
        | none => rw [w] at z1; cases z1
        | some b => rw [w] at z1; cases b <;> exact z1
      exact ⟨v, .ty (kdS k), _, _, c, rfl, .ty _, RT.ty hK r1 q1 (isKs_fn z (by simp)), z2, p2.here r1 (RD.bl _)⟩⟩
/-- the names of the kinds -/
def kdsE : List Kd → List Expr → Bool
  | [], [] => true
  | k :: ks, .Name n _ :: es => decide (n = kdN k) && kdsE ks es
  | _, _ => false
theorem kds_noStar : ∀ {ks : List Kd} {es : List Expr}, kdsE ks es = true → noStar es = true
  | [], [], _ => rfl
  | k :: ks, .Name n _ :: es, h => by
    simp only [kdsE, Bool.and_eq_true] at h
    have := kds_noStar h.2
    simp only [noStar, List.all_cons, Bool.and_eq_true]
    exact ⟨rfl, this⟩
theorem pa_kds : ∀ {ks : List Kd} {es : List Expr}, (∀ k ∈ ks, X.mg (kdN k) = none) → kdsE ks es = true → (∀ k ∈ ks, Gl X (kdN k)) → PA X es (fun _ H Q => Q (ks.map fun k => V.ty (kdS k)) H)
  | [], [], _, _, _ => pa_nil
  | k :: ks, .Name n p :: es, hg, h, g => by
    simp only [kdsE, Bool.and_eq_true, decide_eq_true_eq] at h
    obtain ⟨rfl, h2⟩ := h
    exact PA.by (pa_cons (pe_kd k (g k List.mem_cons_self) (hg k List.mem_cons_self)) (pa_kds (fun k hk => hg k (List.mem_cons_of_mem _ hk)) h2 fun k hk => g k (List.mem_cons_of_mem _ hk)) (star_cons rfl)) fun σ H Q h => h
theorem cls_all : ∀ ks : List Kd, Paired ClsV (ks.map fun k => V.ty (kdS k)) (ks.map fun k => Value.type (kdS k))
  | [] => .nil
  | k :: ks => .cons (.ty _) (cls_all ks)
theorem snd_isiT (hK : F.K = X.K) {ks : List Kd} {es : List Expr} (hk : kdsE ks es = true) (hl : ks.length ≤ 10) (hn : ks ≠ []) (hg : Gl X "isinstance") (hm : X.mg "isinstance" = none) (hg2 : ∀ k ∈ ks, Gl X (kdN k)) (hm2 : ∀ k ∈ ks, X.mg (kdN k) = none) (hs : isStar a = false) (ha : PE X a (tB F W ck xa)) {p2 : Pos} {x1} :
    PE X (.Call (.Name "isinstance" p) [a, .Tuple es x1 p2] [] pos) (tS F W ck (.isi ks xa)) :=
  PE.by (pe_callB call_isiT hg hm (by decide +kernel) (pa_cons ha (pa_cons (pe_tup (pa_kds hm2 hk hg2)) pa_nil) (star_cons hs)) (by decide) (by decide) (star_cons hs) rfl) fun σV H Q ⟨A, ρ, al, σ, R, r, p⟩ => ⟨A, ρ, al, σ, R, r, Post.bind (show Post F A al W σ σV ρ H ((ev ck xa σ R).bind fun x R => .of ((isKs ks x).map .bl) R) (RM F A al) Q from p) fun d R1 v H1 ρ1 r1 e1 q1 p1 => by
    obtain ⟨d', e', p2⟩ := p1.of
    cases z : isKs ks d with
    | none => rw [z] at e'; cases e'
    | some c =>
      rw [z] at e'
      cases e'
      refine ⟨by rw [List.length_map]; exact Nat.le_trans hl (by decide), fun b hb => ?_⟩
      refine ⟨v, b, _, _, _, c, rfl, upd_same, cls_all ks, RT.ty hK (r1.grow (upd_keep hb)) (RT.ext q1 (ext_grow (upd_keep hb))) (isKs_fn z hn), kit_all z, p2.new r1 hb (RD.bl _)⟩⟩

/-! ### places -/
def plainI (b : Expr) : Bool := match b with
  | .Slice .. => false
  | _ => true
theorem plainIx {b : Expr} (h : plainI b = true) : PlainIx b := by
  cases b <;> first | (intro o i; rfl) | cases h
end
end Cw

end
section
/-! CwK: enumerate and zip over lists and tuples in any mixture. -/
namespace Cw
open PySem L2 PyProof.Rows PySem.W
/-- a list or a tuple at an address -/
inductive Src where | L (a : Addr) | T (a : Addr)
def Src.ad : Src → Addr
  | .L a => a
  | .T a => a
def Src.has (K : PySem.W.Frag) (H : Hp) : Src → List V → Prop
  | .L a, xs => SqL K H a xs
  | .T a, xs => SqT K H a xs
def Src.iter (h : Heap) (it : Addr) (i : Nat) : Src → Prop
  | .L a => h.IsListIter it a i
  | .T a => h.IsTupleIter it a i
def Src.is (h : Heap) (its : Array Value) : Src → Prop
  | .L a => h.IsList a its
  | .T a => h.IsTuple a its
def Src.itO : Src → Obj
  | .L a => { cls := .type "list_iterator", data := .fields #[.ref a, .int 0 0] }
  | .T a => { cls := .type "tuple_iterator", data := .fields #[.ref a, .int 0 0] }
theorem Src.itO_fin (S : Src) : S.itO.data ≠ .freed := by cases S <;> (intro z; cases z)
theorem Src.iter_obj {S : Src} {h : Heap} {it : Addr} {i : Nat} (x : S.iter h it i) : ∃ o, h.get? it = some o ∧ ∀ v, o.data ≠ .cell v := by
  cases S with
  | L a => obtain ⟨o, e, c, d⟩ := x; exact ⟨o, e, fun v z => by rw [d] at z; cases z⟩
  | T a => obtain ⟨o, e, c, d⟩ := x; exact ⟨o, e, fun v z => by rw [d] at z; cases z⟩
theorem Src.iter_at {S : Src} {h h' : Heap} {it : Addr} {i : Nat} (x : S.iter h it i) (k : ∀ o, h.get? it = some o → h'.get? it = some o) : S.iter h' it i := by
  cases S with
  | L a => exact Heap.IsListIter.at x k
  | T a => exact Heap.IsTupleIter.at x k
theorem Src.is_lt {S : Src} {h : Heap} {its : Array Value} (x : S.is h its) : S.ad < h.objs.size := by
  cases S with
  | L a => obtain ⟨o, e, _⟩ := x; exact Heap.lt_size e
  | T a => obtain ⟨o, e, _⟩ := x; exact Heap.lt_size e
theorem Src.draws {prog : Program} {w : World} {A : Around} (hh : A.handled = none) (it : Addr) (S : Src) (hne : S.ad ≠ it) (its : Array Value) :
    Draws prog w A it [it, S.ad] its.size (fun i v => its[i]? = some v) (fun i h => S.iter h it i ∧ S.is h its) := by
  cases S with
  | L a => exact Draws.list hh it a hne its
  | T a => exact Draws.tuple hh it a hne its
section
variable {X : Cx} {pins : List (Addr × Obj)} {σ : L2.St} {H : Hp} {s : Shared}
theorem src_is (I : Inv X pins σ H s) {S : Src} {xs : List V} (h : S.has X.K H xs) : ∃ its : List Value, Vals xs its ∧ S.is s.heap its.toArray ∧ xs.length ≤ sizeLine := by
  cases S with
  | L a => obtain ⟨its, r, p, z⟩ := I.list h; exact ⟨its, r, p.isList, z⟩
  | T a => obtain ⟨its, r, p, z⟩ := I.tuple h; exact ⟨its, r, p, z⟩
theorem src_inj (I : Inv X pins σ H s) {S : Src} {xs ys : List V} (h : S.has X.K H xs) (h' : S.has X.K H ys) : xs = ys := by
  cases S with
  | L a => exact I.list_inj h h'
  | T a => exact I.tuple_inj h h'
end
/-! ### enumerate -/
def IteS (K : PySem.W.Frag) (S : Src) : It :=
  ⟨fun i H => ∃ (xs : List V) (x : V), S.has K H xs ∧ xs[i]? = some x, fun i H v H' => ∃ T x, v = .ref T ∧ H T = none ∧ H' = upd H T (.tup [.int (i : Nat), x]) ∧ ∀ xs, S.has K H xs → xs[i]? = some x, fun i H => ∃ xs : List V, S.has K H xs ∧ xs.length = i⟩
theorem turn_enumS {P : Program} {w : World} {K : PySem.W.Frag} {elts : List Expr} {kk : Nat} {tpos : Pos} (S : Src) (e it : Addr) (hS : S.ad ≠ e ∧ S.ad ≠ it) :
    Turn P w K (.Tuple elts kk tpos) (IteS K S) [e, it] e (fun i h => (∃ old, IsEnum h e it ((i : Nat) : Int) old) ∧ S.iter h it i ∧ e ≠ it) where
  mem := by simp
  obj := fun i h st b hb => by
    obtain ⟨⟨old, he⟩, hi, _⟩ := st
    have e' : b = e ∨ b = it := by simpa using hb
    rcases e' with z | z
    · rw [z]; exact ⟨_, he, fun v q => nomatch q⟩
    · rw [z]; exact Src.iter_obj hi
  keep := fun i h h' st k => let ⟨⟨old, he⟩, hi, hne⟩ := st; ⟨⟨old, k e (by simp) _ he⟩, Src.iter_at (S := S) hi fun o q => k it (by simp) o q, hne⟩
  item := by
    intro X hP hw hK hc i pins s σ H E I hf st hg
    subst hP hw hK
    obtain ⟨⟨old, he⟩, hit, hne⟩ := st
    obtain ⟨xs, x, hq, hx⟩ := hg
    obtain ⟨its, rv, p, hz⟩ := src_is I hq
    obtain ⟨u, hu, ru⟩ := rv.get hx
    have hel : e < s.heap.objs.size := Heap.lt_size he
    have hil : it < s.heap.objs.size := by obtain ⟨_, q, _⟩ := Src.iter_obj hit; exact Heap.lt_size q
    have hlt : i < its.toArray.size := by
      have := (List.getElem?_eq_some_iff.mp hu).1
      simpa using this
    refine wpAny_pyNext_enum_itemD (S.draws (A := X.A.in1) (I.ok.hd hc) it hS.2 its.toArray) he ⟨hit, p⟩ hlt hne (fun m => by
      have : e = it ∨ e = S.ad := by simpa using m
      rcases this with z | z
      · exact hne z
      · exact hS.1 z.symm) fun u' h' tk hu' ho hit' hT hsz hk => ?_
    have eu : u' = u := by
      have h1 : its.toArray[i]? = some u := by simpa using hu
      exact Option.some.inj (hu'.symm.trans h1)
    subst eu
    refine ⟨_, rfl, wpAny_letOwnedTupleGo_enum (s := { s with heap := h', toks := tk + 1 }) ho fun h'' he' sb => ?_⟩
    have hT2 : h''.get? s.heap.objs.size = some { cls := .type "tuple", data := .seq #[.int i tk, u'] } := (sb.2 _ (Nat.ne_of_gt hel)).trans hT
    have new : ObjOk X.prog X.w (upd H s.heap.objs.size (.tup [.int (i : Nat), x])) h'' s.heap.objs.size (.tup [.int (i : Nat), x]) :=
      ⟨by show 2 ≤ sizeLine; decide, [.int i tk, u'], .cons ⟨_, rfl⟩ (.cons ru .nil), ⟨_, hT2, rfl, _, rfl⟩⟩
    have I1 : Inv X pins σ (upd H s.heap.objs.size (.tup [.int (i : Nat), x])) { s with heap := h'', toks := tk + 1 } :=
      I.turnedNew (ch := [e, it]) (fun b ob hb q => (sb.2 b (fun z => hb (by simp [z]))).trans (hk b ob (fun z => hb (by simp [z])) (fun z => hb (by simp [z])) q)) hf (Nat.le_refl _) new
    refine ⟨.ref s.heap.objs.size, _, I1, rfl, ⟨_, x, rfl, I.hok.fresh (Nat.le_refl _), rfl, fun ys hy => by rw [src_inj I hy hq]; exact hx⟩, ⟨⟨u', ?_⟩, Src.iter_at (S := S) hit'.1 fun o q => (sb.2 it (Ne.symm hne)).trans q, hne⟩, fun b hb => ?_⟩
    · have e1 : ((i + 1 : Nat) : Int) = (i : Int) + 1 := by omega
      rw [e1]; exact he'
    · have hb' : b < s.heap.objs.size := by
        have e' : b = e ∨ b = it := by simpa using hb
        rcases e' with z | z
        · rw [z]; exact hel
        · rw [z]; exact hil
      rw [upd_ne (Nat.ne_of_lt hb')]
      exact (hf b hb).1
  done := by
    intro X hP hw hK hc i pins s σ H E I hf st hg
    subst hP hw hK
    obtain ⟨⟨old, he⟩, hit, hne⟩ := st
    obtain ⟨xs, hq, hx⟩ := hg
    obtain ⟨its, rv, p, hz⟩ := src_is I hq
    obtain ⟨f0, f1, f2, f3, f4, f5⟩ := hf it (by simp)
    have hl := rv.length
    have hn : i = its.toArray.size := by simp; omega
    subst hn
    exact wpAny_pyNext_enum_endD (S.draws (A := X.A.in1) (I.ok.hd hc) it hS.2 its.toArray) he ⟨hit, p⟩ fun h' eb => ⟨rfl, I.turned (t' := s.toks) (fun b o hb q => eb b o hb q) f0 f1 f3 f4 f5⟩
  self := fun A i s Q E st h => let ⟨⟨_, he⟩, _⟩ := st; wpAny_pyIter_enum he h

theorem meets_enumerate_newT (l : Addr) (items : Array Value) :
    Meets (Builtin.«enumerate.__new__» ⟨[.type "enumerate", .ref l], []⟩) (fun _ R s => s.heap.IsTuple l items ∧
      R (.ok (.ret (.ref (s.heap.push { cls := .type "tuple_iterator", data := .fields #[.ref l, .int 0 0] }).objs.size)))
        { s with heap := (s.heap.push { cls := .type "tuple_iterator", data := .fields #[.ref l, .int 0 0] }).push { cls := .type "enumerate", data := .fields #[.none, .bool false, .ref s.heap.objs.size, rawInt 0, .none, .none] } }) :=
  .of_wp fun prog w A R s h => by
    obtain ⟨hp, g, d, tk, os⟩ := s; obtain ⟨hL, h⟩ := h
    have hsub := sub_enumerate
    have hL : Heap.IsTuple (Shared.heap ⟨hp, g, d, tk, os⟩) l items := hL
    wp_walk
    refine wpAny_stack_any fun st => wpAny_pure ?_
    split
    · rename_i c _ _ _ _ _
      cases (c == Value.type "enumerate")
      · wp_walk using wpAny_pyIter_tuple hL
        exact ⟨_, rfl, h⟩
      · wp_walk using wpAny_pyIter_tuple hL
        exact ⟨_, rfl, h⟩
    · wp_walk using wpAny_pyIter_tuple hL
      exact ⟨_, rfl, h⟩
section
variable {prog : Program} {w : World} {A : Around} {E : Value → Shared → Prop} {s : Shared}
theorem call_enumerate_tup {l : Addr} {items : Array Value} {Q : Value → Shared → Prop} (hL : s.heap.IsTuple l items)
    (h : ∀ h', IsEnum h' (s.heap.objs.size + 1) s.heap.objs.size 0 .none → h'.IsTupleIter s.heap.objs.size l 0 → h'.objs.size = s.heap.objs.size + 2 →
      (∀ b o, s.heap.get? b = some o → h'.get? b = some o) → Q (.ref (s.heap.objs.size + 1)) { s with heap := h' }) :
    wpAny (model prog w) A (call (.type "enumerate") [.ref l]) Q E s := by
  refine callType_new F.called_enumerate (by decide) (F.typeCall_enumerate_1 _) (F.newCall_enumerate_1 _) (fun obj => F.args_object_init_2 obj _) F.entry_enumerate_new
    (meets_enumerate_newT l items) ⟨hL, ?_⟩
  have hz : (s.heap.push { cls := .type "tuple_iterator", data := .fields #[.ref l, .int 0 0] }).objs.size = s.heap.objs.size + 1 := Heap.size_push ..
  show _ ∧ _
  rw [hz]
  have he : IsEnum ((s.heap.push { cls := .type "tuple_iterator", data := .fields #[.ref l, .int 0 0] }).push
      { cls := .type "enumerate", data := .fields #[.none, .bool false, .ref s.heap.objs.size, rawInt 0, .none, .none] }) (s.heap.objs.size + 1) s.heap.objs.size 0 .none := by
    have := Heap.get?_push_size (s.heap.push { cls := .type "tuple_iterator", data := .fields #[.ref l, .int 0 0] })
      (o := { cls := .type "enumerate", data := .fields #[.none, .bool false, .ref s.heap.objs.size, rawInt 0, .none, .none] }) rfl
    rw [hz] at this; exact this
  refine ⟨⟨_, he, rfl⟩, h _ he ⟨_, Heap.get?_push_of_some _ (Heap.get?_push_size _ rfl), rfl, rfl⟩ (by rw [Heap.size_push, hz]) fun b o x => Heap.get?_push_of_some _ (Heap.get?_push_of_some _ x)⟩
theorem call_enumerate_src (S : Src) {items : Array Value} {Q : Value → Shared → Prop} (hL : S.is s.heap items)
    (h : ∀ h', IsEnum h' (s.heap.objs.size + 1) s.heap.objs.size 0 .none → S.iter h' s.heap.objs.size 0 → h'.objs.size = s.heap.objs.size + 2 →
      (∀ b o, s.heap.get? b = some o → h'.get? b = some o) → Q (.ref (s.heap.objs.size + 1)) { s with heap := h' }) :
    wpAny (model prog w) A (call (.type "enumerate") [.ref S.ad]) Q E s := by
  cases S with
  | L a => exact call_enumerate_list hL h
  | T a => exact call_enumerate_tup hL h
end
def iEnumS (K : PySem.W.Frag) (ta : TA) : TI := fun σ H R => ta σ H fun vs H1 => ∃ S xs, vs = [.ref (Src.ad S)] ∧ S.has K H1 xs ∧ R (IteS K S) H1
theorem pi_enumS {X : Cx} {e : Expr} {ta : TA} {p pos tpos : Pos} {elts : List Expr} {kk : Nat} (hg : Gl X "enumerate") (hm : X.mg "enumerate" = none) (ha : PA X [e] ta) (hs : isStar e = false) :
    PI X (.Tuple elts kk tpos) (.Call (.Name "enumerate" p) [e] [] pos) (iEnumS X.K ta) := by
  refine ⟨fun pins s σ H R I h => ?_⟩
  refine Call_ (ld_blt I hg hm boot_enumerate (PyProof.Rows.callWith_type1 (thn (ha.run pos pins s σ H _ I h) fun us s1 ⟨vs, H1, I1, r1, q1⟩ => ?_) (star_cons hs) rfl))
  obtain ⟨S, xs, ex, hq, q⟩ := q1
  subst ex
  cases r1 with
  | cons r rr =>
    cases rr
    cases r
    obtain ⟨its, rv, p', hz⟩ := src_is I1 hq
    have la := Src.is_lt p'
    refine call_enumerate_src S p' fun h' he hit hsz hk => wpAny_pyIter_enum he ?_
    have I2 : Inv X pins σ H1 { s1 with heap := h' } := I1.kept (t' := s1.toks) hk
    refine ⟨s1.heap.objs.size + 1, [s1.heap.objs.size + 1, s1.heap.objs.size], _, _, H1, rfl, I2, turn_enumS S (s1.heap.objs.size + 1) s1.heap.objs.size ⟨Nat.ne_of_lt (Nat.lt_succ_of_lt la), Nat.ne_of_lt la⟩, ⟨⟨.none, he⟩, hit, Nat.succ_ne_self _⟩, fun b hb => ?_, q⟩
    have e' : b = s1.heap.objs.size + 1 ∨ b = s1.heap.objs.size := by simpa using hb
    have hle : s1.heap.objs.size ≤ b := by
      rcases e' with z | z
      · rw [z]; exact Nat.le_add_right _ _
      · rw [z]; exact Nat.le_refl _
    exact I1.fpOk hle (I1.hok.fresh hle)

/-! ### zip -/
abbrev zH1 (h : Heap) (S1 : Src) : Heap := h.push S1.itO
abbrev zH2 (h : Heap) (S1 S2 : Src) : Heap := (zH1 h S1).push S2.itO
abbrev zH3 (h : Heap) (S1 S2 : Src) : Heap := (zH2 h S1 S2).push { cls := .type "tuple", data := .seq #[.ref h.objs.size, .ref (zH1 h S1).objs.size] }
abbrev zH4 (h : Heap) (S1 S2 : Src) : Heap := (zH3 h S1 S2).push { cls := .type "tuple", data := .seq #[.none, .none] }
abbrev zH5 (h : Heap) (S1 S2 : Src) : Heap := (zH4 h S1 S2).push { cls := .type "zip", data := .fields #[.none, .bool false, .bool false, .ref (zH2 h S1 S2).objs.size, .ref (zH3 h S1 S2).objs.size] }
theorem src_push {S : Src} {h : Heap} {its : Array Value} {o : Obj} (x : S.is h its) : S.is (h.push o) its := by
  cases S with
  | L a => obtain ⟨o', e, c⟩ := x; exact ⟨o', Heap.get?_push_of_some _ e, c⟩
  | T a => obtain ⟨o', e, c⟩ := x; exact ⟨o', Heap.get?_push_of_some _ e, c⟩
theorem meets_zipLL (l1 l2 : Addr) (xs ys : Array Value) :
    Meets (Builtin.«zip.__new__» ⟨[.type "zip", .ref l1, .ref l2], []⟩) (fun _ R s => s.heap.IsList l1 xs ∧ s.heap.IsList l2 ys ∧
      R (.ok (.ret (.ref (zH4 s.heap (.L l1) (.L l2)).objs.size))) { s with heap := zH5 s.heap (.L l1) (.L l2) }) :=
  meets_zip_new l1 l2 xs ys
theorem meets_zipLT (l1 l2 : Addr) (xs ys : Array Value) :
    Meets (Builtin.«zip.__new__» ⟨[.type "zip", .ref l1, .ref l2], []⟩) (fun _ R s => s.heap.IsList l1 xs ∧ s.heap.IsTuple l2 ys ∧
      R (.ok (.ret (.ref (zH4 s.heap (.L l1) (.T l2)).objs.size))) { s with heap := zH5 s.heap (.L l1) (.T l2) }) :=
  .of_wp fun prog w A R s h => by
    obtain ⟨hp, g, d, tk, os⟩ := s; obtain ⟨hl1, hl2, h⟩ := h
    have hsub := sub_zip
    have hL1 : Heap.IsList (Shared.heap ⟨hp, g, d, tk, os⟩) l1 xs := hl1
    have hL2 : Heap.IsTuple (Shared.heap ⟨hp.push { cls := .type "list_iterator", data := .fields #[.ref l1, .int 0 0] }, g, d, tk, os⟩) l2 ys := src_push (S := .T l2) hl2
    wp_walk using wpAny_pyIter_list hL1, wpAny_pyIter_tuple hL2
    exact ⟨_, rfl, h⟩
theorem meets_zipTL (l1 l2 : Addr) (xs ys : Array Value) :
    Meets (Builtin.«zip.__new__» ⟨[.type "zip", .ref l1, .ref l2], []⟩) (fun _ R s => s.heap.IsTuple l1 xs ∧ s.heap.IsList l2 ys ∧
      R (.ok (.ret (.ref (zH4 s.heap (.T l1) (.L l2)).objs.size))) { s with heap := zH5 s.heap (.T l1) (.L l2) }) :=
  .of_wp fun prog w A R s h => by
    obtain ⟨hp, g, d, tk, os⟩ := s; obtain ⟨hl1, hl2, h⟩ := h
    have hsub := sub_zip
    have hL1 : Heap.IsTuple (Shared.heap ⟨hp, g, d, tk, os⟩) l1 xs := hl1
    have hL2 : Heap.IsList (Shared.heap ⟨hp.push { cls := .type "tuple_iterator", data := .fields #[.ref l1, .int 0 0] }, g, d, tk, os⟩) l2 ys := src_push (S := .L l2) hl2
    wp_walk using wpAny_pyIter_tuple hL1, wpAny_pyIter_list hL2
    exact ⟨_, rfl, h⟩
theorem meets_zipTT (l1 l2 : Addr) (xs ys : Array Value) :
    Meets (Builtin.«zip.__new__» ⟨[.type "zip", .ref l1, .ref l2], []⟩) (fun _ R s => s.heap.IsTuple l1 xs ∧ s.heap.IsTuple l2 ys ∧
      R (.ok (.ret (.ref (zH4 s.heap (.T l1) (.T l2)).objs.size))) { s with heap := zH5 s.heap (.T l1) (.T l2) }) :=
  RZ.meets_zipT_new l1 l2 xs ys
theorem meets_zipS_new (S1 S2 : Src) (xs ys : Array Value) :
    Meets (Builtin.«zip.__new__» ⟨[.type "zip", .ref S1.ad, .ref S2.ad], []⟩) (fun _ R s => S1.is s.heap xs ∧ S2.is s.heap ys ∧
      R (.ok (.ret (.ref (zH4 s.heap S1 S2).objs.size))) { s with heap := zH5 s.heap S1 S2 }) := by
  cases S1 <;> cases S2
  · exact meets_zipLL _ _ xs ys
  · exact meets_zipLT _ _ xs ys
  · exact meets_zipTL _ _ xs ys
  · exact meets_zipTT _ _ xs ys
theorem iter_new {S : Src} {h : Heap} {it : Addr} (e : h.get? it = some S.itO) : S.iter h it 0 := by
  cases S with
  | L a => exact ⟨_, e, rfl, rfl⟩
  | T a => exact ⟨_, e, rfl, rfl⟩
section
variable {prog : Program} {w : World} {A : Around} {E : Value → Shared → Prop} {s : Shared}
theorem call_zipS (S1 S2 : Src) {xs ys : Array Value} {Q : Value → Shared → Prop} (hl1 : S1.is s.heap xs) (hl2 : S2.is s.heap ys)
    (h : ∀ h', IsZip h' (s.heap.objs.size + 4) (s.heap.objs.size + 2) (s.heap.objs.size + 3) .none → IsTupOf2 h' (s.heap.objs.size + 2) (.ref s.heap.objs.size) (.ref (s.heap.objs.size + 1)) →
      IsTupOf2 h' (s.heap.objs.size + 3) .none .none → S1.iter h' s.heap.objs.size 0 → S2.iter h' (s.heap.objs.size + 1) 0 → h'.objs.size = s.heap.objs.size + 5 →
      (∀ c o, s.heap.get? c = some o → h'.get? c = some o) → Q (.ref (s.heap.objs.size + 4)) { s with heap := h' }) :
    wpAny (model prog w) A (call (.type "zip") [.ref S1.ad, .ref S2.ad]) Q E s := by
  refine callType_new F.called_zip (by decide) (F.typeCall_zip_2 _ _) (F.newCall_zip_2 _ _) (fun obj => F.args_object_init_3 obj _ _) F.entry_zip_new
    (meets_zipS_new S1 S2 xs ys) ⟨hl1, hl2, ?_⟩
  have z1 : (zH1 s.heap S1).objs.size = s.heap.objs.size + 1 := Heap.size_push ..
  have z2 : (zH2 s.heap S1 S2).objs.size = s.heap.objs.size + 2 := by rw [Heap.size_push, z1]
  have z3 : (zH3 s.heap S1 S2).objs.size = s.heap.objs.size + 3 := by rw [Heap.size_push, z2]
  have z4 : (zH4 s.heap S1 S2).objs.size = s.heap.objs.size + 4 := by rw [Heap.size_push, z3]
  have z5 : (zH5 s.heap S1 S2).objs.size = s.heap.objs.size + 5 := by rw [Heap.size_push, z4]
  have nf : ∀ S : Src, ∀ h : Heap, (h.push S.itO).get? h.objs.size = some S.itO := fun S h => by cases S <;> exact Heap.get?_push_size _ rfl
  have g5 : (zH5 s.heap S1 S2).get? (zH4 s.heap S1 S2).objs.size = some _ := Heap.get?_push_size _ rfl
  have g4 : (zH5 s.heap S1 S2).get? (zH3 s.heap S1 S2).objs.size = some _ := Heap.get?_push_of_some _ (Heap.get?_push_size _ rfl)
  have g3 : (zH5 s.heap S1 S2).get? (zH2 s.heap S1 S2).objs.size = some _ := Heap.get?_push_of_some _ (Heap.get?_push_of_some _ (Heap.get?_push_size _ rfl))
  have g2 : (zH5 s.heap S1 S2).get? (zH1 s.heap S1).objs.size = some S2.itO := Heap.get?_push_of_some _ (Heap.get?_push_of_some _ (Heap.get?_push_of_some _ (nf S2 _)))
  have g1 : (zH5 s.heap S1 S2).get? s.heap.objs.size = some S1.itO := Heap.get?_push_of_some _ (Heap.get?_push_of_some _ (Heap.get?_push_of_some _ (Heap.get?_push_of_some _ (nf S1 _))))
  show _ ∧ _
  rw [z2, z3, z4] at g5
  rw [z1, z2] at g3
  rw [z3] at g4
  rw [z1] at g2
  rw [z4]
  exact ⟨⟨_, g5, rfl⟩, h _ g5 g3 g4 (iter_new g1) (iter_new g2) z5 fun c o x =>
    Heap.get?_push_of_some _ (Heap.get?_push_of_some _ (Heap.get?_push_of_some _ (Heap.get?_push_of_some _ (Heap.get?_push_of_some _ x))))⟩
end
def ItzS (K : PySem.W.Frag) (S1 S2 : Src) : It :=
  ⟨fun i H => ∃ (xs ys : List V) (x y : V), S1.has K H xs ∧ S2.has K H ys ∧ xs[i]? = some x ∧ ys[i]? = some y,
    fun i H v H' => ∃ T x y, v = .ref T ∧ H T = none ∧ H' = upd H T (.tup [x, y]) ∧ (∀ xs, S1.has K H xs → xs[i]? = some x) ∧ ∀ ys, S2.has K H ys → ys[i]? = some y,
    fun i H => ∃ xs ys : List V, S1.has K H xs ∧ S2.has K H ys ∧ i ≤ xs.length ∧ i ≤ ys.length ∧ (xs.length = i ∨ ys.length = i)⟩
theorem small5 {c n m : Nat} (h : c = n + 4 ∨ c = n + 2 ∨ c = n + 3 ∨ c = n ∨ c = n + 1) (k : n + 4 < m) : c < m := by omega
theorem nne {a b : Nat} (h : a < b ∨ b < a) : a ≠ b := by omega
theorem nm2 {c a b : Nat} (h1 : c < a ∨ a < c) (h2 : c < b ∨ b < c) : c ∉ [a, b] := by
  intro m
  have : c = a ∨ c = b := by simpa using m
  omega
theorem sep2 {n a b : Nat} (la : a < n) (lb : b < n) : ZipSep2 (n + 4) (n + 2) (n + 3) n (n + 1) [n, a] [n + 1, b] :=
  ⟨nne (by omega), nne (by omega), nne (by omega), nne (by omega), by simp, nm2 (by omega) (by omega), nm2 (by omega) (by omega), nne (by omega), by simp, nm2 (by omega) (by omega), nm2 (by omega) (by omega), nm2 (by omega) (by omega), nm2 (by omega) (by omega)⟩
theorem turn_zipS {P : Program} {w : World} {K : PySem.W.Frag} {elts : List Expr} {kk : Nat} {tpos : Pos} (S1 S2 : Src) {n : Nat} (l1 : S1.ad < n) (l2 : S2.ad < n) :
    Turn P w K (.Tuple elts kk tpos) (ItzS K S1 S2) [n + 4, n + 2, n + 3, n, n + 1] (n + 4) (fun i h => IsZip h (n + 4) (n + 2) (n + 3) .none ∧ IsTupOf2 h (n + 2) (.ref n) (.ref (n + 1)) ∧ (∃ x y, IsTupOf2 h (n + 3) x y) ∧ S1.iter h n i ∧ S2.iter h (n + 1) i) where
  mem := by simp
  obj := fun i h st c hc => by
    obtain ⟨hz, hTI, ⟨x, y, hTO⟩, h1, h2⟩ := st
    have e' : c = n + 4 ∨ c = n + 2 ∨ c = n + 3 ∨ c = n ∨ c = n + 1 := by simpa using hc
    rcases e' with q | q | q | q | q
    · rw [q]; exact ⟨_, hz, fun v q => nomatch q⟩
    · rw [q]; exact ⟨_, hTI, fun v q => nomatch q⟩
    · rw [q]; exact ⟨_, hTO, fun v q => nomatch q⟩
    · rw [q]; exact Src.iter_obj h1
    · rw [q]; exact Src.iter_obj h2
  keep := fun i h h' st k => by
    obtain ⟨hz, hTI, ⟨x, y, hTO⟩, h1, h2⟩ := st
    exact ⟨k _ (by simp) _ hz, k _ (by simp) _ hTI, ⟨x, y, k _ (by simp) _ hTO⟩, Src.iter_at (S := S1) h1 fun o q => k _ (by simp) o q, Src.iter_at (S := S2) h2 fun o q => k _ (by simp) o q⟩
  item := by
    intro X hP hw hK hc i pins s σ H E I hf st hg
    subst hP hw hK
    obtain ⟨hz, hTI, ⟨x0, y0, hTO⟩, h1, h2⟩ := st
    obtain ⟨xs, ys, x, y, hqx, hqy, hx, hy⟩ := hg
    obtain ⟨its, rv, p, _⟩ := src_is I hqx
    obtain ⟨its2, rv2, p2, _⟩ := src_is I hqy
    obtain ⟨u, hu, ru⟩ := rv.get hx
    obtain ⟨u2, hu2, ru2⟩ := rv2.get hy
    have hzl : n + 4 < s.heap.objs.size := Heap.lt_size hz
    have lt1 : i < its.toArray.size := by have := (List.getElem?_eq_some_iff.mp hu).1; simpa using this
    have lt2 : i < its2.toArray.size := by have := (List.getElem?_eq_some_iff.mp hu2).1; simpa using this
    refine wpAny_pyNext_zipD2_item (sep2 l1 l2) (S1.draws (A := X.A.in1) (I.ok.hd hc) n (Nat.ne_of_lt l1) its.toArray) (S2.draws (A := X.A.in1) (I.ok.hd hc) (n + 1) (Nat.ne_of_lt (Nat.lt_succ_of_lt l2)) its2.toArray) hz hTI hTO ⟨h1, p⟩ ⟨h2, p2⟩ lt1 lt2
      fun v1 v2 h' tk e1 e2 z' TO' h1' h2' hT hsz hk => ?_
    have ev1 : v1 = u := Option.some.inj (e1.symm.trans (by simpa using hu))
    have ev2 : v2 = u2 := Option.some.inj (e2.symm.trans (by simpa using hu2))
    subst ev1 ev2
    refine ⟨_, rfl, wpAny_letOwnedTupleGo_zip (s := { s with heap := h', toks := tk }) z' fun h'' z'' sb => ?_⟩
    have hT2 : h''.get? s.heap.objs.size = some { cls := .type "tuple", data := .seq #[v1, v2] } := (sb.2 _ (Nat.ne_of_gt hzl)).trans hT
    have new : ObjOk X.prog X.w (upd H s.heap.objs.size (.tup [x, y])) h'' s.heap.objs.size (.tup [x, y]) :=
      ⟨by show 2 ≤ sizeLine; decide, [v1, v2], .cons ru (.cons ru2 .nil), ⟨_, hT2, rfl, _, rfl⟩⟩
    have I1 : Inv X pins σ (upd H s.heap.objs.size (.tup [x, y])) { s with heap := h'', toks := tk } :=
      I.turnedNew (ch := [n + 4, n + 2, n + 3, n, n + 1]) (fun c o hb q => (sb.2 c (fun q' => hb (by simp [q']))).trans (hk c o (fun q' => hb (by simp [q'])) (fun q' => hb (by simp [q'])) (fun q' => hb (by simp [q'])) (fun q' => hb (by simp [q'])) q)) hf (Nat.le_refl _) new
    have ne2 : n + 2 ≠ n + 4 := nne (by omega)
    have ne3 : n + 3 ≠ n + 4 := nne (by omega)
    have ne0 : n ≠ n + 4 := nne (by omega)
    have ne1 : n + 1 ≠ n + 4 := nne (by omega)
    refine ⟨.ref s.heap.objs.size, _, I1, rfl, ⟨_, x, y, rfl, I.hok.fresh (Nat.le_refl _), rfl, fun l hl => by rw [src_inj I hl hqx]; exact hx, fun l hl => by rw [src_inj I hl hqy]; exact hy⟩, ⟨z'', ?_, ⟨v1, v2, ?_⟩, ?_, ?_⟩, fun c hcm => ?_⟩
    · exact (sb.2 _ ne2).trans (hk _ _ ne2 (nne (by omega)) (nne (by omega)) (nne (by omega)) hTI)
    · exact (sb.2 _ ne3).trans TO'
    · exact Src.iter_at (S := S1) h1'.1 fun o q => (sb.2 _ ne0).trans q
    · exact Src.iter_at (S := S2) h2'.1 fun o q => (sb.2 _ ne1).trans q
    · have hlt : c < s.heap.objs.size := by
        have e' : c = n + 4 ∨ c = n + 2 ∨ c = n + 3 ∨ c = n ∨ c = n + 1 := by simpa using hcm
        exact small5 e' hzl
      rw [upd_ne (Nat.ne_of_lt hlt)]
      exact (hf c hcm).1
  done := by
    intro X hP hw hK hc i pins s σ H E I hf st hg
    subst hP hw hK
    obtain ⟨hz, hTI, ⟨x0, y0, hTO⟩, h1, h2⟩ := st
    obtain ⟨xs, ys, hqx, hqy, le1, le2, hend⟩ := hg
    obtain ⟨its, rv, p, _⟩ := src_is I hqx
    obtain ⟨its2, rv2, p2, _⟩ := src_is I hqy
    have m1 := rv.length
    have m2 := rv2.length
    exact wpAny_pyNext_zipD2_end (sep2 l1 l2) (S1.draws (A := X.A.in1) (I.ok.hd hc) n (Nat.ne_of_lt l1) its.toArray) (S2.draws (A := X.A.in1) (I.ok.hd hc) (n + 1) (Nat.ne_of_lt (Nat.lt_succ_of_lt l2)) its2.toArray) hz hTI hTO ⟨h1, p⟩ ⟨h2, p2⟩
      (by simp; omega) (by simp; omega) (by simp; omega) fun h' tk hk => ⟨rfl, I.turnedL (ch := [n + 4, n + 2, n + 3, n, n + 1]) (fun c o hb q =>
      hk c o (fun q' => hb (by simp [q'])) (fun q' => hb (by simp [q'])) (fun q' => hb (by simp [q'])) (fun q' => hb (by simp [q'])) q) hf⟩
  self := fun A i s Q E st h => wpAny_pyIter_zip st.1 h
def iZipS (K : PySem.W.Frag) (ta : TA) : TI := fun σ H R => ta σ H fun vs H1 => ∃ S1 S2 xs ys, vs = [.ref (Src.ad S1), .ref (Src.ad S2)] ∧ S1.has K H1 xs ∧ S2.has K H1 ys ∧ R (ItzS K S1 S2) H1
theorem pi_zipS {X : Cx} {e e2 : Expr} {ta : TA} {p pos tpos : Pos} {elts : List Expr} {kk : Nat} (hg : Gl X "zip") (hm : X.mg "zip" = none) (ha : PA X [e, e2] ta) (hs : noStar [e, e2] = true) :
    PI X (.Tuple elts kk tpos) (.Call (.Name "zip" p) [e, e2] [] pos) (iZipS X.K ta) := by
  refine ⟨fun pins s σ H R I h => ?_⟩
  refine Call_ (ld_blt I hg hm PyProof.Rows.boot_zip (PyProof.Rows.callWith_type1 (thn (ha.run pos pins s σ H _ I h) fun us s1 ⟨vs, H1, I1, r1, q1⟩ => ?_) (star_of hs) (plain_of (noStar_tail hs))))
  obtain ⟨S1, S2, xs, ys, ex, hqx, hqy, q⟩ := q1
  subst ex
  cases r1 with
  | cons r rr =>
    cases rr with
    | cons r' rr =>
      cases rr
      cases r
      cases r'
      obtain ⟨its, rv, p1, _⟩ := src_is I1 hqx
      obtain ⟨its2, rv2, p2, _⟩ := src_is I1 hqy
      have la := Src.is_lt p1
      have lb := Src.is_lt p2
      refine call_zipS S1 S2 p1 p2 fun h' hz hTI hTO h1 h2 hsz hk => wpAny_pyIter_zip hz ?_
      have I2 : Inv X pins σ H1 { s1 with heap := h' } := I1.kept (t' := s1.toks) hk
      refine ⟨s1.heap.objs.size + 4, [s1.heap.objs.size + 4, s1.heap.objs.size + 2, s1.heap.objs.size + 3, s1.heap.objs.size, s1.heap.objs.size + 1], _, _, H1, rfl, I2, turn_zipS S1 S2 la lb, ⟨hz, hTI, ⟨_, _, hTO⟩, h1, h2⟩, fun c hcm => ?_, q⟩
      have e' : c = s1.heap.objs.size + 4 ∨ c = s1.heap.objs.size + 2 ∨ c = s1.heap.objs.size + 3 ∨ c = s1.heap.objs.size ∨ c = s1.heap.objs.size + 1 := by simpa using hcm
      have hle : s1.heap.objs.size ≤ c := by
        rcases e' with z | z | z | z | z
        · rw [z]; exact Nat.le_add_right _ _
        · rw [z]; exact Nat.le_add_right _ _
        · rw [z]; exact Nat.le_add_right _ _
        · rw [z]; exact Nat.le_refl _
        · rw [z]; exact Nat.le_add_right _ _
      exact I1.fpOk hle (I1.hok.fresh hle)
/-! ### as walks -/
theorem walk_enumS {K : PySem.W.Frag} {S : Src} {xs : List V} : Walk (IteS K S) xs.length (fun H => S.has K H xs) (YPair (fun i => some (.int (i : Nat))) (fun i => xs[i]?)) := by
  refine ⟨fun i _ hi q => ⟨xs, xs[i], q, by simp [hi]⟩, fun _ q => ⟨xs, q, rfl⟩, fun i H v H' _ q y => ?_⟩
  obtain ⟨T, x, h1, h2, h3, h4⟩ := y
  exact ⟨T, .int (i : Nat), x, h1, h2, h3, rfl, h4 xs q⟩
theorem walk_zipS {K : PySem.W.Frag} {S1 S2 : Src} {xs ys : List V} {n : Nat} (hn : n = min xs.length ys.length) : Walk (ItzS K S1 S2) n (fun H => S1.has K H xs ∧ S2.has K H ys) (YPair (fun i => xs[i]?) (fun i => ys[i]?)) := by
  subst hn
  refine ⟨fun i _ hi q => ?_, fun _ q => ⟨xs, ys, q.1, q.2, by omega, by omega, by omega⟩, fun i H v H' _ q y => ?_⟩
  · have h1 : i < xs.length := by omega
    have h2 : i < ys.length := by omega
    exact ⟨xs, ys, xs[i], ys[i], q.1, q.2, by simp [h1], by simp [h2]⟩
  · obtain ⟨T, x, z, h1, h2, h3, h4, h5⟩ := y
    exact ⟨T, x, z, h1, h2, h3, h4 xs q.1, h5 ys q.2⟩
end Cw

end
section
/-! CwL: places, slices, targets, walks, comprehensions. -/
namespace Cw
open PySem L2 PyProof.Rows PySem.W
section
variable {F : Fx} {W : XW} {ck : Nat → List D → RH → Res D} {X : Cx} {a b : Expr} {xa xb : Ex} {pos : Pos}
theorem snd_idx (hK : F.K = X.K) (hs : plainI b = true) (ha : PE X a (tB F W ck xa)) (hb : PE X b (tB F W ck xb)) : PE X (.Subscript a b pos) (tS F W ck (.idx xa xb)) :=
  PE.by (pe_ix ix_seq ha hb (plainIx hs)) fun σV H Q ⟨A, ρ, al, σ, R, r, p⟩ => ⟨A, ρ, al, σ, R, r, Post.bind (Q1 := fun v H1 => tB F W ck xb σV H1 fun u H2 => rIx X.K v u H2 Q) (show Post F A al W σ σV ρ H ((ev ck xa σ R).bind fun x R => (ev ck xb σ R).bind fun y R => .of (idxD R x y) R) (RM F A al) Q from p)
    fun d R1 v H1 ρ1 r1 e1 q1 p1 => ⟨A, ρ1, al, σ, R1, r1, p1.bind fun d2 R2 u H2 ρ2 r2 e2 q2 p2 => by
      obtain ⟨d3, e3, p3⟩ := p2.of
      replace q1 := RT.ext q1 e2
      rw [← hK]
      unfold idxD at e3
      split at e3
      · obtain ⟨c, vs, rfl, h, t⟩ := q1.lst
        obtain ⟨w, e4, q4⟩ := RDs.atI t e3
        exact .inl ⟨c, vs, _, w, rfl, q2.int, .of h, e4, p3.here r2 q4⟩
      · obtain ⟨c, vs, rfl, h, t⟩ := q1.frz
        obtain ⟨w, e4, q4⟩ := RDs.atI t e3
        exact .inl ⟨c, vs, _, w, rfl, q2.int, h, e4, p3.here r2 q4⟩
      · obtain ⟨c, vs, rfl, h, t⟩ := q1.tup
        obtain ⟨w, e4, q4⟩ := RDs.atI t e3
        exact .inr (.inl ⟨c, vs, _, w, rfl, q2.int, h, e4, p3.here r2 q4⟩)
      · rename_i z i
        split at e3
        · rename_i hz
          cases e5 : atI z.cps.toList i with
          | none => rw [e5] at e3; cases e3
          | some c =>
            rw [e5] at e3
            cases e3
            exact .inr (.inr ⟨z, i, c, q1.str, q2.int, hz, e5, p3.here r2 (RD.str _)⟩)
        · cases e3
      · rename_i i j
        obtain ⟨c, rfl, h⟩ := q1.ref
        split at e3
        · rename_i xs e5
          obtain ⟨vs, h1, t⟩ := r2.rf _ _ _ h e5
          obtain ⟨w, e4, q4⟩ := RDs.atI t e3
          exact .inl ⟨c, vs, _, w, rfl, q2.int, .of h1, e4, p3.here r2 q4⟩
        · cases e3
      · cases e3⟩⟩
/-! slices -/
def tO (F : Fx) (W : XW) (ck : Nat → List D → RH → Res D) (x : Exo) : TO := fun σV H Q => ∃ A ρ al σ R, Rel F A ρ al σ R σV H ∧ Post F A al W σ σV ρ H (evo ck x σ R) (fun _ _ (v : Option Int) d => v = d) Q
theorem snd_noPart : PO X none (tO F W ck .no) := ⟨fun pins s σV H Q I ⟨A, ρ, al, σ, R, r, p⟩ => po_none.run pins s σV H Q I (p none H ρ r Ext.refl rfl)⟩
def intK : D → RH → Res (Option Int) := fun x R => match x with
    | .int i => .ok (some i) R
    | _ => .bad
theorem snd_part (ha : PE X a (tB F W ck xa)) : PO X (some a) (tO F W ck (.so xa)) := ⟨fun pins s σV H Q I ⟨A, ρ, al, σ, R, r, p⟩ => (po_some ha).run pins s σV H Q I ⟨A, ρ, al, σ, R, r, Post.bind (show Post F A al W σ σV ρ H ((ev ck xa σ R).bind intK) _ Q from p) fun d R1 v H1 ρ1 r1 e1 q1 p1 => by
  cases d <;> first | exact p1.elim | skip
  exact ⟨_, q1.int, p1 _ H1 ρ1 r1 Ext.refl rfl⟩⟩⟩
theorem cut_whole {α : Type} {xs : List α} {lo hi : Option Int} (h : HT.sIx xs.length 0 lo = 0 ∧ HT.sIx xs.length xs.length hi = xs.length) : cut xs lo hi = xs := by
  unfold cut
  rw [h.1, h.2]
  simp
theorem snd_slc (hK : F.K = X.K) {lo hi : Option Expr} {xl xh : Exo} {p2 : Pos} (ha : PE X a (tB F W ck xa)) (hl : PO X lo (tO F W ck xl)) (hh : PO X hi (tO F W ck xh)) : PE X (.Subscript a (.Slice lo hi none p2) pos) (tS F W ck (.slc xa xl xh)) :=
  PE.by (pe_slice (sl_list.or (sl_tupA.or sl_str)) ha hl hh) fun σV H Q ⟨A, ρ, al, σ, R, r, p⟩ => ⟨A, ρ, al, σ, R, r, Post.bind (show Post F A al W σ σV ρ H ((ev ck xa σ R).bind fun x R => (evo ck xl σ R).bind fun l R => (evo ck xh σ R).bind fun h R => .of (slcD x l h) R) (RM F A al) Q from p)
    fun d R1 v H1 ρ1 r1 e1 q1 p1 => ⟨A, ρ1, al, σ, R1, r1, p1.bind fun l R2 l' H2 ρ2 r2 e2 q2 p2 => ⟨A, ρ2, al, σ, R2, r2, p2.bind fun h R3 h' H3 ρ3 r3 e3 q3 p3 => by
      obtain ⟨d3, e4, p4⟩ := p3.of
      replace q1 := RT.ext (RT.ext q1 e2) e3
      subst q2 q3
      rw [← hK]
      unfold slcD at e4
      split at e4
      · cases e4
        obtain ⟨c, vs, rfl, h, t⟩ := q1.lst
        exact .inl ⟨c, vs, rfl, .of h, fun s hs => p4.new r3 hs (RM.lst r3 hs (RDs.cut _ _ t))⟩
      · cases e4
        obtain ⟨c, vs, rfl, h, t⟩ := q1.frz
        exact .inl ⟨c, vs, rfl, h, fun s hs => p4.new r3 hs (RM.lst r3 hs (RDs.cut _ _ t))⟩
      · cases e4
        obtain ⟨c, vs, rfl, h, t⟩ := q1.tup
        refine .inr (.inl ⟨c, vs, rfl, h, fun w => ?_, fun _ s hs => p4.new r3 hs (RM.tup r3 hs (RDs.cut _ _ t))⟩)
        rw [RMs.length t] at w
        rw [cut_whole w] at p4
        exact p4.here r3 q1.tupM
      · rename_i z
        split at e4
        · rename_i hz
          cases e4
          exact .inr (.inr ⟨z, q1.str, hz, p4.here r3 (RD.str _)⟩)
        · cases e4
      · cases e4⟩⟩⟩
theorem snd_rev (hK : F.K = X.K) {k : Nat} {p1 p2 p3 : Pos} (ha : PE X a (tB F W ck xa)) : PE X (.Subscript a (.Slice none none (some (.UnaryOp .USub (.Constant (.int 1) k p1) p2)) p3) pos) (tS F W ck (.rev xa)) :=
  PE.by (pe_revL ha) fun σV H Q ⟨A, ρ, al, σ, R, r, p⟩ => ⟨A, ρ, al, σ, R, r, Post.bind (show Post F A al W σ σV ρ H ((ev ck xa σ R).bind fun x R => .of (revD x) R) (RM F A al) Q from p) fun d R1 v H1 ρ1 r1 e1 q1 p1 => by
    obtain ⟨d3, e3, p3⟩ := p1.of
    rw [← hK]
    unfold revD at e3
    split at e3
    · cases e3
      obtain ⟨c, vs, rfl, h, t⟩ := q1.lst
      exact ⟨c, vs, rfl, .of h, fun s hs => p3.new r1 hs (RM.lst r1 hs (RDs.reverse t))⟩
    · cases e3⟩
end

/-! ### targets -/
theorem owns_set_mem {al : List (Option Addr)} {i : Nat} {a : Addr} (h : a ∈ owns (al.set i none)) : a ∈ owns al := by
  obtain ⟨j, hj⟩ := mem_owns.mp h
  refine mem_owns.mpr ⟨j, ?_⟩
  rw [List.getElem?_set] at hj
  split at hj
  · split at hj <;> cases hj
  · exact hj
theorem owns_set_sub : ∀ (al : List (Option Addr)) (i : Nat), (owns (al.set i none)).Sublist (owns al)
  | [], i => by simp [owns]
  | o :: l, 0 => by
    cases o with
    | none => exact List.Sublist.refl _
    | some a => exact List.sublist_cons_self _ _
  | o :: l, i + 1 => by
    have := owns_set_sub l i
    cases o with
    | none => exact this
    | some a => exact this.cons₂ a
theorem set_none_of {al : List (Option Addr)} {i : Nat} (h : al.getD i none = none) : al.set i none = al := by
  refine List.ext_getElem? fun j => ?_
  rw [List.getElem?_set]
  split
  · rename_i e
    subst e
    split
    · rename_i h2
      rw [List.getD_eq_getElem?_getD] at h
      rw [List.getElem?_eq_getElem h2] at h ⊢
      simp at h
      rw [h]
    · rename_i h2
      rw [List.getElem?_eq_none (Nat.le_of_not_lt h2)]
  · rfl
section
variable {F : Fx} {A : Act} {W : XW} {ρ : List Addr} {al al' : List (Option Addr)} {σ : List Sl} {R : RH} {σV : L2.St} {H : Hp}
theorem mask_less (h : ∀ a ∈ owns al', a ∈ owns al) : ∀ a o, mask H (OO A ρ al) a = some o → mask H (OO A ρ al') a = some o := fun a o q => by
  obtain ⟨q1, q2⟩ := mask_some q
  rw [mask_out]
  · exact q1
  · intro m
    rcases mem_OO.mp m with m | m | m
    · exact q2 (mem_OO.mpr (.inl m))
    · exact q2 (mem_OO.mpr (.inr (.inl m)))
    · exact q2 (mem_OO.mpr (.inr (.inr (h a m))))
theorem getD_set {α : Type} (l : List α) (i j : Nat) (x d : α) : (l.set i x).getD j d = if j = i ∧ i < l.length then x else l.getD j d := by
  rw [List.getD_eq_getElem?_getD, List.getD_eq_getElem?_getD, List.getElem?_set]
  by_cases h : i = j
  · subst h
    by_cases h2 : i < l.length
    · simp [h2]
    · simp [h2]
  · rw [if_neg h, if_neg (fun q => h q.1.symm)]
/-- a shared value comes to a slot -/
theorem Rel.setSh (r : Rel F A ρ al σ R σV H) {i : Nat} {v : V} {d : D} (hi : i < σV.length) (q : RM F A al ρ H v d) : Rel F A ρ (al.set i none) (sS σ i (.sh d)) R (σV.set i (some v)) H where
  ls := by rw [sS_length, List.length_set]; exact r.ls
  la := by rw [List.length_set, List.length_set]; exact r.la
  sl := fun j hj => by
    rw [List.length_set] at hj
    have k := mask_less (A := A) (ρ := ρ) (H := H) (fun a h => owns_set_mem (al := al) (i := i) h)
    rw [gS_set, getD_set, getD_set, r.ls, r.la]
    by_cases e : j = i
    · subst e
      rw [if_pos ⟨rfl, hi⟩, if_pos ⟨rfl, hi⟩, if_pos ⟨rfl, hi⟩]
      exact ⟨rfl, v, rfl, RD.mono ⟨[], by simp⟩ k q⟩
    · rw [if_neg fun z => e z.1, if_neg fun z => e z.1, if_neg fun z => e z.1]
      have z := r.sl j hj
      cases w : gS σ j with
      | no => rw [w] at z; exact z
      | sh d' =>
        rw [w] at z
        obtain ⟨z1, x, z2, z3⟩ := z
        exact ⟨z1, x, z2, z3.mono ⟨[], by simp⟩ k⟩
      | ow d' =>
        rw [w] at z
        obtain ⟨a, z1, z2, z3⟩ := z
        refine ⟨a, z1, z2, ?_⟩
        cases d' <;> first | exact False.elim z3 | (obtain ⟨vs, z4, z5⟩ := z3; exact ⟨vs, z4, z5.mono ⟨[], by simp⟩ k⟩)
  rl := r.rl
  rf := fun j a ds h1 h2 => by
    obtain ⟨vs, h3, h4⟩ := r.rf j a ds h1 h2
    exact ⟨vs, h3, h4.mono ⟨[], by simp⟩ (mask_less fun a h => owns_set_mem h)⟩
  nd := (List.Sublist.append_left (owns_set_sub al i) ρ).nodup r.nd
  pre := r.pre
  newO := fun a h => r.newO a (owns_set_mem h)
  newR := r.newR
  fr := r.fr
  o0 := fun a h => ⟨(r.o0 a h).1, (r.o0 a h).2.1, fun m => (r.o0 a h).2.2 (owns_set_mem m)⟩
/-- a target's reading: what the slots are then -/
def gT (F : Fx) (tg : Tg) : TG := fun v σV H Q => ∃ A ρ al σ R d σ', Rel F A ρ al σ R σV H ∧ RM F A al ρ H v d ∧ setT tg d σ = some σ' ∧
  ∀ σV' al', Rel F A ρ al' σ' R σV' H → (∀ a ∈ owns al', a ∈ owns al) → ((∀ i ∈ tgs tg, al.getD i none = none) → al' = al) → σV'.length = σV.length → (∀ j, j ∉ tgs tg → σV'[j]? = σV[j]?) → Q σV' H
def gTs (F : Fx) (ts : Tgs) : TGs := fun vs σV H Q => ∃ A ρ al σ R ds σ', Rel F A ρ al σ R σV H ∧ RMs F A al ρ H vs ds ∧ setTs ts ds σ = some σ' ∧
  ∀ σV' al', Rel F A ρ al' σ' R σV' H → (∀ a ∈ owns al', a ∈ owns al) → ((∀ i ∈ tgss ts, al.getD i none = none) → al' = al) → σV'.length = σV.length → (∀ j, j ∉ tgss ts → σV'[j]? = σV[j]?) → Q σV' H
end
theorem PG.by {X : Cx} {e : Expr} {t t' : TG} (h : PG X e t) (i : ∀ v σ H Q, t' v σ H Q → t v σ H Q) : PG X e t' := ⟨fun pins s σ H v u Q I r q => h.run pins s σ H v u Q I r (i v σ H Q q)⟩
theorem PGs.by {X : Cx} {e : List Expr} {t t' : TGs} (h : PGs X e t) (i : ∀ v σ H Q, t' v σ H Q → t v σ H Q) : PGs X e t' := ⟨fun pins s σ H v u Q I r q => h.run pins s σ H v u Q I r (i v σ H Q q)⟩
section
variable {F : Fx} {X : Cx} {e : Expr} {es : List Expr} {pos : Pos}
theorem asg_cons {env : Env} {e : Expr} {es : List Expr} (h : isStar e = false) : assignEach (e :: es) env = (false, assign e env) :: assignEach es env := by
  cases e <;> first | rfl | cases h
theorem asg_of {env : Env} : ∀ {es : List Expr}, noStar es = true → (assignEach es env).length = es.length ∧ (assignEach es env).findIdx? (·.1) = none
  | [], _ => ⟨rfl, rfl⟩
  | e :: es, h => by
    simp only [noStar, List.all_cons, Bool.and_eq_true, Bool.not_eq_true'] at h
    obtain ⟨h1, h2⟩ := asg_of (env := env) (es := es) (by simpa [noStar] using h.2)
    rw [asg_cons h.1]
    refine ⟨congrArg (· + 1) h1, ?_⟩
    rw [List.findIdx?_cons]
    simp [h2]
theorem snd_nm {i : Nat} {x : Str} (hN : X.N.Nodup) (hi : X.N[i]? = some x) (hx : Loc X.env.scope x) (hf : X.fn x = true ∨ X.env.scope.names.lookup x = some .local) : PG X (.Name x pos) (gT F (.nm i)) :=
  ⟨fun pins s σV H v u Q I rv ⟨A, ρ, al, σ, R, d, σ', r, q, e, k⟩ => (pg_name (i := i) hN hi hx hf).run pins s σV H v u Q I rv (by
    simp only [setT] at e
    cases e
    have hl : i < σV.length := by rw [I.len]; exact (List.getElem?_eq_some_iff.mp hi).1
    refine k _ _ (r.setSh hl q) (fun a h => owns_set_mem h) (fun h => set_none_of (h i (by simp [tgs]))) (List.length_set ..) fun j hj => ?_
    rw [List.getElem?_set_ne]
    intro z
    exact hj (by simp [tgs, z]))⟩
theorem snd_tgNil : PGs X [] (gTs F .nil) := PGs.by pgs_nil fun vs σV H Q ⟨A, ρ, al, σ, R, ds, σ', r, q, e, k⟩ => by
  cases ds with
  | nil =>
    cases q
    simp only [setTs] at e
    cases e
    exact ⟨rfl, k σV al r (fun _ h => h) (fun _ => rfl) rfl fun _ _ => rfl⟩
  | cons d ds => simp [setTs] at e
theorem snd_tgCons {t : Tg} {ts : Tgs} (hs : isStar e = false) (h1 : PG X e (gT F t)) (h2 : PGs X es (gTs F ts)) : PGs X (e :: es) (gTs F (.cons t ts)) :=
  PGs.by (pgs_cons h1 h2 (by rw [asg_cons hs]; rfl)) fun vs σV H Q ⟨A, ρ, al, σ, R, ds, σ', r, q, e, k⟩ => by
    cases ds with
    | nil => simp [setTs] at e
    | cons d ds =>
      cases q with
      | cons q qs =>
        simp only [setTs] at e
        cases z : setT t d σ with
        | none => rw [z] at e; cases e
        | some σ1 =>
          rw [z] at e
          refine ⟨_, _, rfl, A, ρ, al, σ, R, d, σ1, r, q, z, fun σV1 al1 r1 m1 n1 l1 o1 => ⟨A, ρ, al1, σ1, R, ds, σ', r1, RDs.mono ⟨[], by simp⟩ (mask_less m1) qs, e, fun σV2 al2 r2 m2 n2 l2 o2 => ?_⟩⟩
          refine k σV2 al2 r2 (fun a h => m1 a (m2 a h)) (fun h => ?_) (l2.trans l1) fun j hj => ?_
          · have e1 : al1 = al := n1 fun i hi => h i (by simp only [tgss, List.mem_append]; exact .inl hi)
            rw [← e1]
            exact n2 fun i hi => by rw [e1]; exact h i (by simp only [tgss, List.mem_append]; exact .inr hi)
          · simp only [tgss, List.mem_append, not_or] at hj
            rw [o2 j hj.2, o1 j hj.1]
theorem snd_tp {ts : Tgs} {k : Nat} (hK : F.K = X.K) (hc : X.calm = true) (hs : noStar es = true) (hl : ∀ ds σ σ', setTs ts ds σ = some σ' → ds.length = es.length) (h : PGs X es (gTs F ts)) : PG X (.Tuple es k pos) (gT F (.tp ts)) :=
  PG.by (pg_tup hc h (asg_of hs).1 (asg_of hs).2) fun v σV H Q ⟨A, ρ, al, σ, R, d, σ', r, q, e, k⟩ => by
    cases d <;> first | (simp [setT] at e; done) | skip
    rename_i ds
    simp only [setT] at e
    obtain ⟨a, vs, rfl, h1, t⟩ := RT.tup (RM.rt q)
    exact ⟨a, vs, rfl, SqT.toK hK h1, by rw [RMs.length t]; exact hl _ _ _ e, A, ρ, al, σ, R, ds, σ', r, t, e, k⟩
end
end Cw

end
section
/-! CwM: walks, comprehensions. -/
namespace Cw
open PySem L2 PyProof.Rows PySem.W
/-- what a walk gives at a turn: a value, or a new pair -/
inductive Item where | one (v : V) | two (v u : V)
inductive ItR (F : Fx) (A : Act) (al : List (Option Addr)) (ρ : List Addr) (H : Hp) : Item → D → Prop
  | one {v : V} {d : D} : RM F A al ρ H v d → ItR F A al ρ H (.one v) d
  | two {v u : V} {d e : D} : RM F A al ρ H v d → RM F A al ρ H u e → ItR F A al ρ H (.two v u) (.tup [d, e])
def YI (its : List Item) : Nat → Hp → V → Hp → Prop := fun i H x H' => match its[i]? with
  | some (.one v) => H' = H ∧ x = v
  | some (.two v u) => ∃ T, x = .ref T ∧ H T = none ∧ H' = upd H T (.tup [v, u])
  | none => False
/-- a source stands: kept, or (st false) an own list that nobody changes meanwhile -/
def SrcOk (F : Fx) (A : Act) (al : List (Option Addr)) (st : Bool) (ρ : List Addr) (H : Hp) (S : Src) (vs : List V) : Prop := S.has F.K (mask H (OO A ρ al)) vs ∨ (st = false ∧ ∃ a, S = .L a ∧ a ∉ ρ ∧ H a = some (.lst vs))
def GS (K : PySem.W.Frag) (gs : List (Src × List V)) : Hp → Prop := fun H' => ∀ p ∈ gs, Src.has K H' p.1 p.2
def WD (F : Fx) (A : Act) (al : List (Option Addr)) (st : Bool) : List Addr → Hp → It → List D → Prop := fun ρ H J ds => ∃ its gs, All2 (ItR F A al ρ H) its ds ∧ (∀ p ∈ gs, SrcOk F A al st ρ H p.1 p.2) ∧ its.length ≤ sizeLine ∧
  Walk J its.length (GS F.K gs) (YI its)
theorem All2.length {α β : Type} {P : α → β → Prop} : ∀ {l : List α} {m : List β}, All2 P l m → l.length = m.length
  | _, _, .nil => rfl
  | _, _, .cons _ t => congrArg (· + 1) (All2.length t)
theorem All2.get {α β : Type} {P : α → β → Prop} : ∀ {l : List α} {m : List β} {i : Nat} {a : α}, All2 P l m → l[i]? = some a → ∃ b, m[i]? = some b ∧ P a b
  | _, _, _, _, .nil, h => by simp at h
  | _, _, 0, _, .cons p t, h => by simp at h; subst h; exact ⟨_, rfl, p⟩
  | _, _, i + 1, _, .cons p t, h => by
    obtain ⟨a, h1, h2⟩ := All2.get (i := i) t (by simpa using h)
    exact ⟨a, by simpa using h1, h2⟩
section
variable (ck : Nat → List D → RH → Res D)
def evX (st : Bool) (x : Ex) (σ : List Sl) (R : RH) : Res D := if st = true then stx x σ (ev ck x σ R) else ev ck x σ R
/-- what is walked; st: it is kept meanwhile -/
def evis (st : Bool) : Itr → List Sl → RH → Res (List D)
  | .ex e, σ, R => (evX ck st e σ R).bind fun x R => .of (itmD x) R
  | .rng a, σ, R => (ev ck a σ R).bind fun x R => .of (rngD x) R
  | .rng2 a b, σ, R => (ev ck a σ R).bind fun x R => (ev ck b σ R).bind fun y R => .of (rngD2 x y) R
  | .enu e, σ, R => (evX ck st e σ R).bind fun x R => .of ((itmD x).map (enuL 0)) R
  | .zip a b, σ, R => (evX ck st a σ R).bind fun x R => (evX ck st b σ R).bind fun y R => match itmD x, itmD y with
    | some l, some m => .ok (zipL l m) R
    | _, _ => .bad
theorem evis_false (it : Itr) (σ : List Sl) (R : RH) : evis ck false it σ R = evi ck it σ R := by cases it <;> rfl
end
def RX (st : Bool) (F : Fx) (A : Act) (al : List (Option Addr)) : List Addr → Hp → V → D → Prop := fun ρ H v d => if st = true then RM F A al ρ H v d else RT F A al ρ H v d
def tX (F : Fx) (W : XW) (ck : Nat → List D → RH → Res D) (st : Bool) (x : Ex) : TE := fun σV H Q => ∃ A ρ al σ R, Rel F A ρ al σ R σV H ∧ Post F A al W σ σV ρ H (evX ck st x σ R) (RX st F A al) Q
def tI (F : Fx) (W : XW) (ck : Nat → List D → RH → Res D) (st : Bool) (it : Itr) : TI := fun σV H Rr => ∃ A ρ al σ R, Rel F A ρ al σ R σV H ∧ Post F A al W σ σV ρ H (evis ck st it σ R) (WD F A al st) Rr
theorem PI.by {X : Cx} {tg e : Expr} {t t' : TI} (h : PI X tg e t) (i : ∀ σ H Q, t' σ H Q → t σ H Q) : PI X tg e t' := ⟨fun pins s σ H R I q => h.run pins s σ H R I (i σ H R q)⟩
theorem PI.or {X : Cx} {tg e : Expr} {t t' : TI} (h : PI X tg e t) (h' : PI X tg e t') : PI X tg e (fun σ H R => t σ H R ∨ t' σ H R) := ⟨fun pins s σ H R I q => q.elim (h.run pins s σ H R I) (h'.run pins s σ H R I)⟩
/-- what every state says of lengths -/
def Sz (K : PySem.W.Frag) (H : Hp) : Prop := ∀ (S : Src) (xs : List V), S.has K H xs → xs.length ≤ sizeLine
theorem Inv.sz' {X : Cx} {pins : List (Addr × Obj)} {σ : L2.St} {H : Hp} {s : Shared} (I : L2.Inv X pins σ H s) : Sz X.K H := fun S xs h => let ⟨_, _, _, z⟩ := src_is I h; z
theorem PE.sz {X : Cx} {e : Expr} {t : TE} (h : PE X e t) : PE X e (fun σ H Q => t σ H fun v H' => Sz X.K H' → Q v H') := ⟨fun pins s σ H Q I q => thn (h.run pins s σ H _ I q) fun u s1 ⟨v, H', I', r, z⟩ => ⟨v, H', I', r, z (Inv.sz' I')⟩⟩
theorem PA.sz {X : Cx} {e : List Expr} {t : TA} (h : PA X e t) : PA X e (fun σ H Q => t σ H fun v H' => Sz X.K H' → Q v H') := ⟨fun pos pins s σ H Q I q => thn (h.run pos pins s σ H _ I q) fun u s1 ⟨v, H', I', r, z⟩ => ⟨v, H', I', r, z (Inv.sz' I')⟩⟩
section
variable {F : Fx} {A : Act} {al : List (Option Addr)} {W : XW} {σ : List Sl} {σV : L2.St} {ρ ρ1 : List Addr} {H H1 : Hp} {R : RH} {st : Bool}
theorem RX.ext {v : V} {d : D} (h : RX st F A al ρ H v d) (e : Ext ρ H ρ1 H1) : RX st F A al ρ1 H1 v d := by
  unfold RX at h ⊢
  cases st with
  | true => rw [if_pos rfl] at h ⊢; exact RM.ext h e
  | false => rw [if_neg Bool.false_ne_true] at h ⊢; exact RT.ext h e
theorem all_one {vs : List V} {ds : List D} (h : RMs F A al ρ H vs ds) : All2 (ItR F A al ρ H) (vs.map Item.one) ds := by
  have : ∀ {vs : List V} {ds : List D}, RDs F ρ (mask H (OO A ρ al)) vs ds → All2 (ItR F A al ρ H) (vs.map Item.one) ds := by
    intro vs ds h
    induction ds generalizing vs with
    | nil => cases h; exact .nil
    | cons d ds ih =>
      cases h with
      | cons a t => exact .cons (.one a) (ih t)
  exact this h
theorem all_enu : ∀ {vs : List V} {ds : List D} (k : Nat), RDs F ρ (mask H (OO A ρ al)) vs ds → All2 (ItR F A al ρ H) ((List.range' k vs.length).zipWith (fun i v => Item.two (.int (i : Nat)) v) vs) (enuL k ds)
  | _, _, k, .nil => .nil
  | _, _, k, .cons (vs := vs) h t => by
    rw [List.length_cons, List.range'_succ, List.zipWith_cons_cons]
    exact .cons (.two (RD.int _) h) (all_enu (k + 1) t)
theorem all_zip : ∀ {vs us : List V} {ds es : List D}, RDs F ρ (mask H (OO A ρ al)) vs ds → RDs F ρ (mask H (OO A ρ al)) us es → All2 (ItR F A al ρ H) (vs.zipWith Item.two us) (zipL ds es)
  | _, _, _, _, .nil, _ => .nil
  | _, _, _, _, .cons _ _, .nil => .nil
  | _, _, _, _, .cons a t, .cons b u => .cons (.two a b) (all_zip t u)
theorem walk_one {J : It} {G : Hp → Prop} {vs : List V} (w : Walk J vs.length G (YAt vs)) : Walk J (vs.map Item.one).length G (YI (vs.map Item.one)) := by
  rw [List.length_map]
  refine ⟨w.goes, w.stops, fun i H x H' hi g y => ?_⟩
  obtain ⟨e, z⟩ := w.yields i H x H' hi g y
  unfold YI
  rw [List.getElem?_map, z]
  exact ⟨e, rfl⟩
theorem walk_two {J : It} {n : Nat} {G : Hp → Prop} {f g : Nat → Option V} {its : List Item} (w : Walk J n G (YPair f g)) (hn : its.length = n) (h : ∀ i x y, f i = some x → g i = some y → i < n → its[i]? = some (.two x y)) : Walk J its.length G (YI its) := by
  rw [hn]
  refine ⟨w.goes, w.stops, fun i H x H' hi gg y => ?_⟩
  obtain ⟨T, a, b, h1, h2, h3, h4, h5⟩ := w.yields i H x H' hi gg y
  unfold YI
  rw [h i a b h4 h5 hi]
  exact ⟨T, h1, h2, h3⟩
theorem SrcOk.has {S : Src} {vs : List V} (h : SrcOk F A al st ρ H S vs) : S.has F.K H vs := by
  rcases h with h | ⟨_, a, rfl, _, h⟩
  · cases S with
    | L a => exact sqL_of h
    | T a => exact sqT_of h
  · exact .of h
theorem SrcOk.ext {S : Src} {vs : List V} (h : SrcOk F A al st ρ H S vs) (e : Ext ρ H ρ1 H1) : SrcOk F A al st ρ1 H1 S vs := by
  rcases h with h | ⟨z, a, rfl, n, h⟩
  · refine .inl ?_
    cases S with
    | L a => exact sqL_mono e.mask h
    | T a => exact sqT_mono e.mask h
  · exact .inr ⟨z, a, rfl, fun m => (by have q := e.new a m n; rw [h] at q; exact absurd q (by simp)), e.keep a _ h n⟩
/-- the source's own reading -/
theorem RX.src {v : V} {d : D} {ds : List D} (q : RX st F A al ρ H v d) (e : itmD d = some ds) : ∃ S vs, v = .ref (Src.ad S) ∧ SrcOk F A al st ρ H S vs ∧ RMs F A al ρ H vs ds := by
  unfold RX at q
  cases st with
  | true =>
    rw [if_pos rfl] at q
    cases d <;> first | (cases e; done) | skip
    · cases e
      cases q with
      | tup h t => exact ⟨.T _, _, rfl, .inl h, t⟩
    · cases e
      cases q with
      | lst h t => exact ⟨.L _, _, rfl, .inl (.of h), t⟩
    · cases e
      cases q with
      | frz h t => exact ⟨.L _, _, rfl, .inl h, t⟩
  | false =>
    rw [if_neg Bool.false_ne_true] at q
    cases d <;> first | (cases e; done) | skip
    · cases e
      have q := q.tupM
      cases q with
      | tup h t => exact ⟨.T _, _, rfl, .inl h, t⟩
    · cases e
      rcases q with q | ⟨a, rfl, n, vs, h, t⟩
      · cases q with
        | lst h t => exact ⟨.L _, _, rfl, .inl (.of h), t⟩
      · exact ⟨.L a, vs, rfl, .inr ⟨rfl, a, rfl, n, h⟩, t⟩
    · cases e
      rcases q with q | ⟨a, rfl, n, h⟩
      · cases q with
        | frz h t => exact ⟨.L _, _, rfl, .inl h, t⟩
      · exact h.elim
end

/-! ### an iterated value -/
section
variable {F : Fx} {W : XW} {ck : Nat → List D → RH → Res D} {X : Cx} {tg a b : Expr} {xa xb : Ex} {p pos : Pos} {st : Bool}
theorem tX_of (hB : PE X a (tB F W ck xa)) (hS : PE X a (tS F W ck xa)) : PE X a (tX F W ck st xa) := by
  cases st with
  | true => exact PE.by hS fun σV H Q h => h
  | false => exact PE.by hB fun σV H Q h => h
def iSrc (K : PySem.W.Frag) (tl : TE) : TI := fun σ H R => tl σ H fun x H1 => ∃ S xs, x = .ref (Src.ad S) ∧ S.has K H1 xs ∧ R (match S with | .L a => Itl K a | .T a => Itt K a) H1
theorem pi_src {l : Expr} {tl : TE} (hl : PE X l tl) : PI X tg l (iSrc X.K tl) := by
  refine ⟨fun pins s σ H R I h => ?_⟩
  refine thn (hl.run pins s σ H _ I h) fun v s1 ⟨x, H1, I1, r1, S, xs, e, hS, q⟩ => ?_
  subst e
  cases S with
  | L a =>
    cases r1
    obtain ⟨its, rv, p, hz⟩ := I1.list hS
    refine wpAny_pyIter_list p.isList ?_
    refine ⟨s1.heap.objs.size, [s1.heap.objs.size], _, _, H1, rfl, I1.kept (t' := s1.toks) fun b o e => Heap.get?_push_of_some _ e, turn_list a _, ⟨_, Heap.get?_push_size _ rfl, rfl, rfl⟩, fun b hb => ?_, q⟩
    have e : b = s1.heap.objs.size := by simpa using hb
    subst e
    exact I1.fpOk (Nat.le_refl _) (I1.hok.fresh (Nat.le_refl _))
  | T a =>
    cases r1
    obtain ⟨its, rv, p, hz⟩ := I1.tuple hS
    refine wpAny_pyIter_tuple (show s1.heap.IsTuple a its.toArray from p) ?_
    refine ⟨s1.heap.objs.size, [s1.heap.objs.size], _, _, H1, rfl, I1.kept (t' := s1.toks) fun b o e => Heap.get?_push_of_some _ e, turn_tuple a _, ⟨_, Heap.get?_push_size _ rfl, rfl, rfl⟩, fun b hb => ?_, q⟩
    have e : b = s1.heap.objs.size := by simpa using hb
    subst e
    exact I1.fpOk (Nat.le_refl _) (I1.hok.fresh (Nat.le_refl _))
theorem gs_one {K : PySem.W.Frag} {S : Src} {vs : List V} {H : Hp} : GS K [(S, vs)] H ↔ S.has K H vs := ⟨fun h => h _ (List.mem_singleton.mpr rfl), fun h p hp => by rw [List.mem_singleton.mp hp]; exact h⟩
theorem walk_src {K : PySem.W.Frag} {S : Src} {vs : List V} : Walk (match S with | .L a => Itl K a | .T a => Itt K a) vs.length (GS K [(S, vs)]) (YAt vs) := by
  cases S with
  | L a => exact walk_list.mono (fun H h => gs_one.mp h) fun _ _ _ _ _ _ y => y
  | T a => exact walk_tup.mono (fun H h => gs_one.mp h) fun _ _ _ _ _ _ y => y
theorem snd_itEx (hK : F.K = X.K) (h : PE X a (tX F W ck st xa)) : PI X tg a (tI F W ck st (.ex xa)) :=
  PI.by (pi_src (PE.sz h)) fun σV H Rr ⟨A, ρ, al, σ, R, r, p⟩ => ⟨A, ρ, al, σ, R, r, Post.bind (show Post F A al W σ σV ρ H ((evX ck st xa σ R).bind fun x R => .of (itmD x) R) (WD F A al st) Rr from p) fun d R1 v H1 ρ1 r1 e1 q1 p1 sz => by
    obtain ⟨ds, e2, p2⟩ := p1.of
    obtain ⟨S, vs, rfl, s1, t1⟩ := RX.src q1 e2
    have hs := s1.has
    rw [hK] at hs
    refine ⟨S, vs, rfl, hs, p2.here r1 ⟨vs.map Item.one, [(S, vs)], all_one t1, fun p hp => ?_, ?_, ?_⟩⟩
    · rw [List.mem_singleton.mp hp]; exact s1
    · rw [List.length_map]; exact sz S vs hs
    · rw [hK]; exact walk_one walk_src⟩
theorem all_rng (a : Int) (n : Nat) {A : Act} {al : List (Option Addr)} {ρ : List Addr} {H : Hp} : All2 (ItR F A al ρ H) ((List.range n).map fun i => Item.one (.int (a + (i : Nat)))) (rngI a n) := by
  rw [rngI_eq]
  generalize List.range n = l
  induction l with
  | nil => exact .nil
  | cons i l ih => exact .cons (.one (RD.int _)) ih
theorem walk_rng {a : Int} {n : Nat} {K : PySem.W.Frag} : Walk (L2.Itr a n) ((List.range n).map fun i => Item.one (.int (a + (i : Nat)))).length (GS K []) (YI ((List.range n).map fun i => Item.one (.int (a + (i : Nat))))) := by
  rw [List.length_map, List.length_range]
  refine ⟨fun _ _ hi _ => hi, fun _ _ => Nat.le_refl _, fun i H x H' hi _ y => ?_⟩
  unfold YI
  rw [List.getElem?_map, List.getElem?_range hi]
  exact y
theorem snd_itRng1 (hg : Gl X "range") (hm : X.mg "range" = none) (hs : isStar a = false) (h : PE X a (tB F W ck xa)) : PI X tg (.Call (.Name "range" p) [a] [] pos) (tI F W ck st (.rng xa)) :=
  PI.by (pi_range1 hg hm (pa_cons h pa_nil (star_cons hs)) (star_cons hs)) fun σV H Rr ⟨A, ρ, al, σ, R, r, p⟩ => ⟨A, ρ, al, σ, R, r, Post.bind (show Post F A al W σ σV ρ H ((ev ck xa σ R).bind fun x R => .of (rngD x) R) (WD F A al st) Rr from p) fun d R1 v H1 ρ1 r1 e1 q1 p1 => by
    obtain ⟨l, e2, p2⟩ := p1.of
    have hz : (sizeLine : Int) = 16777216 := by decide
    cases d <;> (try (simp [rngD] at e2; done))
    rename_i n
    simp only [rngD] at e2
    split at e2
    · rename_i h
      simp only [Bool.and_eq_true, decide_eq_true_eq] at h
      cases e2
      refine ⟨n, by rw [q1.int], h.1, by omega, p2.here r1 ⟨_, [], all_rng 0 n.toNat, fun p hp => (nomatch hp), ?_, walk_rng⟩⟩
      rw [List.length_map, List.length_range]
      omega
    · cases e2⟩
theorem snd_itRng2 (hg : Gl X "range") (hm : X.mg "range" = none) (hs : noStar [a, b] = true) (ha : PE X a (tB F W ck xa)) (hb : PE X b (tB F W ck xb)) : PI X tg (.Call (.Name "range" p) [a, b] [] pos) (tI F W ck st (.rng2 xa xb)) :=
  PI.by (pi_range2 hg hm (pa_cons ha (pa_cons hb pa_nil (star_of (noStar_tail hs))) (star_of hs)) ((star_of hs).trans (by rw [star_of (noStar_tail hs)]; rfl)) (star_of (noStar_tail hs))) fun σV H Rr ⟨A, ρ, al, σ, R, r, p⟩ => ⟨A, ρ, al, σ, R, r, Post.bind (show Post F A al W σ σV ρ H ((ev ck xa σ R).bind fun x R => (ev ck xb σ R).bind fun y R => .of (rngD2 x y) R) (WD F A al st) Rr from p) fun d R1 v H1 ρ1 r1 e1 q1 p1 => ⟨A, ρ1, al, σ, R1, r1, p1.bind fun d' R2 v2 H2 ρ2 r2 e2' q2 p2 => by
    obtain ⟨l, e2, p3⟩ := p2.of
    have hz : (sizeLine : Int) = 16777216 := by decide
    cases d <;> (try (simp [rngD2] at e2; done))
    cases d' <;> (try (simp [rngD2] at e2; done))
    rename_i n m
    simp only [rngD2] at e2
    split at e2
    · rename_i h
      simp only [Bool.and_eq_true, decide_eq_true_eq] at h
      cases e2
      refine ⟨n, m, by rw [q1.int, q2.int], ⟨by omega, by omega, by omega, by omega⟩, p3.here r2 ⟨_, [], all_rng n (m - n).toNat, fun p hp => (nomatch hp), ?_, walk_rng⟩⟩
      rw [List.length_map, List.length_range]
      omega
    · cases e2⟩⟩
theorem snd_itEnu {elts : List Expr} {kk : Nat} {tpos : Pos} (hK : F.K = X.K) (hg : Gl X "enumerate") (hm : X.mg "enumerate" = none) (hs : isStar a = false) (h : PE X a (tX F W ck st xa)) :
    PI X (.Tuple elts kk tpos) (.Call (.Name "enumerate" p) [a] [] pos) (tI F W ck st (.enu xa)) :=
  PI.by (pi_enumS hg hm (PA.sz (pa_cons h pa_nil (star_cons hs))) hs) fun σV H Rr ⟨A, ρ, al, σ, R, r, p⟩ => ⟨A, ρ, al, σ, R, r, Post.bind (show Post F A al W σ σV ρ H ((evX ck st xa σ R).bind fun x R => .of ((itmD x).map (enuL 0)) R) (WD F A al st) Rr from p) fun d R1 v H1 ρ1 r1 e1 q1 p1 sz => by
    obtain ⟨l, e2, p2⟩ := p1.of
    cases e3 : itmD d with
    | none => rw [e3] at e2; cases e2
    | some ds =>
      rw [e3] at e2
      cases e2
      obtain ⟨S, vs, rfl, s1, t1⟩ := RX.src q1 e3
      have hs := s1.has
      rw [hK] at hs
      have hl : ((List.range' 0 vs.length).zipWith (fun i v => Item.two (.int (i : Nat)) v) vs).length = vs.length := by rw [List.length_zipWith, List.length_range', Nat.min_self]
      refine ⟨S, vs, rfl, hs, p2.here r1 ⟨_, [(S, vs)], all_enu 0 t1, fun p hp => ?_, ?_, ?_⟩⟩
      · rw [List.mem_singleton.mp hp]; exact s1
      · rw [hl]; exact sz S vs hs
      · rw [hK]
        refine walk_two (walk_enumS.mono (fun H h => gs_one.mp h) fun _ _ _ _ _ _ y => y) hl fun i x y h1 h2 hi => ?_
        cases h1
        rw [List.getElem?_zipWith, List.getElem?_range' hi, h2]
        simp⟩
theorem snd_itZip {elts : List Expr} {kk : Nat} {tpos : Pos} (hK : F.K = X.K) (hg : Gl X "zip") (hm : X.mg "zip" = none) (hs : noStar [a, b] = true) (ha : PE X a (tX F W ck st xa)) (hb : PE X b (tX F W ck st xb)) :
    PI X (.Tuple elts kk tpos) (.Call (.Name "zip" p) [a, b] [] pos) (tI F W ck st (.zip xa xb)) :=
  PI.by (pi_zipS hg hm (PA.sz (pa_cons ha (pa_cons hb pa_nil (star_of (noStar_tail hs))) (star_of hs))) hs) fun σV H Rr ⟨A, ρ, al, σ, R, r, p⟩ => ⟨A, ρ, al, σ, R, r, Post.bind (show Post F A al W σ σV ρ H ((evX ck st xa σ R).bind fun x R => (evX ck st xb σ R).bind fun y R => match itmD x, itmD y with
    | some l, some m => .ok (zipL l m) R
    | _, _ => .bad) (WD F A al st) Rr from p) fun d R1 v H1 ρ1 r1 e1 q1 p1 => ⟨A, ρ1, al, σ, R1, r1, p1.bind fun d' R2 v2 H2 ρ2 r2 e2 q2 p2 sz => by
    cases e3 : itmD d with
    | none => simp only [e3] at p2; exact p2.elim
    | some ds =>
      cases e4 : itmD d' with
      | none => simp only [e3, e4] at p2; exact p2.elim
      | some es =>
        simp only [e3, e4] at p2
        obtain ⟨S, vs, rfl, s1, t1⟩ := RX.src (RX.ext q1 e2) e3
        obtain ⟨S2, us, rfl, s2, t2⟩ := RX.src q2 e4
        have h1 := s1.has
        have h2 := s2.has
        rw [hK] at h1 h2
        have hl : (vs.zipWith Item.two us).length = min vs.length us.length := List.length_zipWith
        refine ⟨S, S2, vs, us, rfl, h1, h2, p2.here r2 ⟨_, [(S, vs), (S2, us)], all_zip t1 t2, fun p hp => ?_, ?_, ?_⟩⟩
        · rcases List.mem_cons.mp hp with e | hp
          · rw [e]; exact s1
          · rw [List.mem_singleton.mp hp]; exact s2
        · rw [hl]; exact Nat.le_trans (Nat.min_le_left _ _) (sz S vs h1)
        · rw [hK]
          refine walk_two ((walk_zipS rfl).mono (fun H h => ⟨h (S, vs) (by simp), h (S2, us) (by simp)⟩) fun _ _ _ _ _ _ y => y) hl fun i x y h1 h2 hi => ?_
          rw [List.getElem?_zipWith, h1, h2]⟩⟩
end
end Cw

end
section
/-! CwN: comprehensions. -/
namespace Cw
open PySem L2 PyProof.Rows PySem.W
def Act.add (A : Act) (p : Addr) : Act := { A with O0 := p :: A.O0 }
theorem ok_bind {α β : Type} {m : Res α} {f : α → RH → Res β} {b : β} {R : RH} (h : m.bind f = .ok b R) : ∃ a R1, m = .ok a R1 ∧ f a R1 = .ok b R := by
  cases m with
  | ok a R1 => exact ⟨a, R1, rfl, h⟩
  | exc c R1 => cases h
  | bad => cases h
theorem mem_add {A : Act} {ρ : List Addr} {al : List (Option Addr)} {a p : Addr} : a ∈ OO (A.add p) ρ al ↔ a = p ∨ a ∈ OO A ρ al := by
  rw [mem_OO, mem_OO]
  show a ∈ p :: A.O0 ∨ _ ↔ _
  rw [List.mem_cons, or_assoc]
section
variable {F : Fx} {A : Act} {W : XW} {ck : Nat → List D → RH → Res D} {ρ ρ' : List Addr} {al : List (Option Addr)} {σ : List Sl} {R R' : RH} {σV : L2.St} {H H' : Hp} {p : Addr} {o : HO}
theorem Rel.he (r : Rel F A ρ al σ R σV H) (hp : H p = none) : A.He p = none := by
  cases z : A.He p with
  | none => rfl
  | some o =>
    by_cases q : p ∈ A.re
    · obtain ⟨e, he⟩ := r.pre
      obtain ⟨vs, e⟩ := r.ltR (a := p) (by rw [he]; exact List.mem_append_left _ q)
      rw [hp] at e
      cases e
    · have := r.fr p o z q
      rw [hp] at this
      cases this
theorem mask_add (hp : H p = none) : ∀ a u, mask H (OO A ρ al) a = some u → mask (upd H p o) (OO (A.add p) ρ al) a = some u := fun a u h => by
  obtain ⟨h1, h2⟩ := mask_some h
  have ne := ne_of_none h1 hp
  rw [mask_out fun m => (mem_add.mp m).elim ne h2, upd_ne ne]
  exact h1
/-- a new object that is masked -/
theorem Rel.addO (r : Rel F A ρ al σ R σV H) (hp : H p = none) : Rel F (A.add p) ρ al σ R σV (upd H p o) := by
  have g := r.grow (upd_keep (o := o) hp)
  have mk : ∀ a u, mask H (OO A ρ al) a = some u → mask (upd H p o) (OO (A.add p) ρ al) a = some u := mask_add hp
  have nil : ∃ e : List Addr, ρ = ρ ++ e := ⟨[], by simp⟩
  refine ⟨r.ls, r.la, fun i hi => ?_, r.rl, fun i a ds h1 h2 => ?_, r.nd, r.pre, r.newO, r.newR, g.fr, fun a h => ?_⟩
  · have q := r.sl i hi
    cases z : gS σ i with
    | no => rw [z] at q; exact q
    | sh d =>
      rw [z] at q
      obtain ⟨q1, x, q2, q3⟩ := q
      exact ⟨q1, x, q2, q3.mono nil mk⟩
    | ow d =>
      rw [z] at q
      obtain ⟨a, q1, q2, q3⟩ := q
      refine ⟨a, q1, q2, ?_⟩
      cases d <;> first | exact False.elim q3 | (obtain ⟨vs, q4, q5⟩ := q3; exact ⟨vs, upd_keep hp _ _ q4, q5.mono nil mk⟩)
  · obtain ⟨vs, q1, q2⟩ := r.rf i a ds h1 h2
    exact ⟨vs, upd_keep hp _ _ q1, q2.mono nil mk⟩
  · rcases List.mem_cons.mp h with rfl | h
    · refine ⟨by rw [upd_same]; simp, fun m => ?_, fun m => r.ltO m hp⟩
      obtain ⟨vs, e⟩ := r.ltR m
      rw [hp] at e
      cases e
    · exact g.o0 a h
theorem Rel.dropO (r : Rel F (A.add p) ρ al σ R σV H) : Rel F A ρ al σ R σV H := by
  have nil : ∃ e : List Addr, ρ = ρ ++ e := ⟨[], by simp⟩
  have mk : ∀ a u, mask H (OO (A.add p) ρ al) a = some u → mask H (OO A ρ al) a = some u := fun a u h => by
    obtain ⟨h1, h2⟩ := mask_some h
    rw [mask_out fun m => h2 (mem_add.mpr (.inr m))]
    exact h1
  refine ⟨r.ls, r.la, fun i hi => ?_, r.rl, fun i a ds h1 h2 => ?_, r.nd, r.pre, r.newO, r.newR, r.fr, fun a h => r.o0 a (List.mem_cons_of_mem _ h)⟩
  · have q := r.sl i hi
    cases z : gS σ i with
    | no => rw [z] at q; exact q
    | sh d =>
      rw [z] at q
      obtain ⟨q1, x, q2, q3⟩ := q
      exact ⟨q1, x, q2, q3.mono nil mk⟩
    | ow d =>
      rw [z] at q
      obtain ⟨a, q1, q2, q3⟩ := q
      refine ⟨a, q1, q2, ?_⟩
      cases d <;> first | exact False.elim q3 | (obtain ⟨vs, q4, q5⟩ := q3; exact ⟨vs, q4, q5.mono nil mk⟩)
  · obtain ⟨vs, q1, q2⟩ := r.rf i a ds h1 h2
    exact ⟨vs, q1, q2.mono nil mk⟩
/-- a masked object is changed -/
theorem mask_upd (h : p ∈ OO A ρ al) : mask (upd H p o) (OO A ρ al) = mask H (OO A ρ al) := by
  funext a
  unfold mask
  by_cases q : a ∈ OO A ρ al
  · rw [if_pos q, if_pos q]
  · rw [if_neg q, if_neg q, upd_ne]
    intro e
    subst e
    exact q h
theorem Rel.updO (r : Rel F A ρ al σ R σV H) (h : p ∈ A.O0) (he : A.He p = none) : Rel F A ρ al σ R σV (upd H p o) := by
  have hm : mask (upd H p o) (OO A ρ al) = mask H (OO A ρ al) := mask_upd (mem_OO.mpr (.inl h))
  obtain ⟨h1, h2, h3⟩ := r.o0 p h
  refine ⟨r.ls, r.la, fun i hi => ?_, r.rl, fun i a ds e1 e2 => ?_, r.nd, r.pre, r.newO, r.newR, fun a u e n => ?_, fun a ha => ?_⟩
  · rw [hm]
    have q := r.sl i hi
    cases z : gS σ i with
    | no => rw [z] at q; exact q
    | sh d => rw [z] at q; exact q
    | ow d =>
      rw [z] at q
      obtain ⟨a, q1, q2, q3⟩ := q
      have ha : a ∈ owns al := mem_owns.mpr ⟨i, by
        rw [List.getD_eq_getElem?_getD] at q1
        cases y : al[i]? with
        | none => rw [y] at q1; cases q1
        | some o => rw [y] at q1; exact congrArg some q1⟩
      have ne : a ≠ p := fun e => h3 (e ▸ ha)
      refine ⟨a, q1, q2, ?_⟩
      cases d <;> first | exact False.elim q3 | (obtain ⟨vs, q4, q5⟩ := q3; exact ⟨vs, by rw [upd_ne ne]; exact q4, q5⟩)
  · rw [hm]
    obtain ⟨vs, q1, q2⟩ := r.rf i a ds e1 e2
    exact ⟨vs, by rw [upd_ne fun e => h2 (by rw [← e]; exact List.mem_of_getElem? e1)]; exact q1, q2⟩
  · rw [upd_ne fun z => by subst z; rw [he] at e; cases e]
    exact r.fr a u e n
  · obtain ⟨g1, g2, g3⟩ := r.o0 a ha
    refine ⟨?_, g2, g3⟩
    by_cases e : a = p
    · subst e; rw [upd_same]; simp
    · rw [upd_ne e]; exact g1
/-- slots forgotten -/
theorem Rel.kill1 (r : Rel F A ρ al σ R σV H) {i : Nat} (h : al.getD i none = none) : Rel F A ρ al (sS σ i .no) R (σV.set i none) H := by
  refine ⟨by rw [sS_length, List.length_set]; exact r.ls, by rw [List.length_set]; exact r.la, fun j hj => ?_, r.rl, r.rf, r.nd, r.pre, r.newO, r.newR, r.fr, r.o0⟩
  rw [List.length_set] at hj
  rw [gS_set, getD_set]
  by_cases e : j = i ∧ i < σ.length
  · rw [if_pos e, e.1]
    exact h
  · rw [if_neg e]
    have z := r.sl j hj
    by_cases e2 : j = i ∧ i < σV.length
    · exact absurd ⟨e2.1, by rw [r.ls]; exact e2.2⟩ e
    · rw [if_neg e2]
      exact z
theorem Rel.kills (r : Rel F A ρ al σ R σV H) : ∀ vs : List Nat, (∀ i ∈ vs, al.getD i none = none) → Rel F A ρ al (killS vs σ) R (wipe σV vs) H
  | [], _ => r
  | i :: vs, h => (Rel.kills r vs fun j hj => h j (List.mem_cons_of_mem _ hj)).kill1 (h i List.mem_cons_self)
theorem Rel.notOw (r : Rel F A ρ al σ R σV H) {i : Nat} (h : isOw (gS σ i) = false) : al.getD i none = none := by
  by_cases hi : i < σV.length
  · have q := r.sl i hi
    cases z : gS σ i with
    | no => rw [z] at q; exact q
    | sh d => rw [z] at q; exact q.1
    | ow d => rw [z] at h; cases h
  · rw [List.getD_eq_getElem?_getD, List.getElem?_eq_none (by rw [r.la]; omega)]
    rfl
theorem wipe_get : ∀ (σ : L2.St) (vs : List Nat) (j : Nat), (wipe σ vs)[j]? = if j ∈ vs ∧ j < σ.length then some none else σ[j]?
  | σ, [], j => by simp [wipe]
  | σ, v :: vs, j => by
    unfold wipe
    rw [List.getElem?_set, wipe_get σ vs j, wipe_length]
    by_cases h : v = j
    · subst h
      by_cases h2 : v < σ.length
      · simp [h2]
      · simp [h2]
    · rw [if_neg h]
      have : j ∈ v :: vs ↔ j ∈ vs := by simp [Ne.symm h]
      by_cases e : j ∈ vs ∧ j < σ.length
      · rw [if_pos e, if_pos ⟨this.mpr e.1, e.2⟩]
      · rw [if_neg e, if_neg fun z => e ⟨this.mp z.1, z.2⟩]
theorem wipe_eq {σ σ2 : L2.St} {vs : List Nat} (hl : σ2.length = (wipe σ vs).length) (h : ∀ j, j ∉ vs → σ2[j]? = (wipe σ vs)[j]?) : wipe σ2 vs = wipe σ vs := by
  refine List.ext_getElem? fun j => ?_
  rw [wipe_length] at hl
  rw [wipe_get, hl, wipe_get]
  by_cases e : j ∈ vs
  · by_cases e2 : j < σ.length
    · rw [if_pos ⟨e, e2⟩, if_pos ⟨e, e2⟩]
    · rw [if_neg fun z => e2 z.2, if_neg fun z => e2 z.2]
      rw [List.getElem?_eq_none (by omega), List.getElem?_eq_none (by omega)]
  · rw [if_neg fun z => e z.1, if_neg fun z => e z.1, h j e, wipe_get, if_neg fun z => e z.1]
end
end Cw

end
section
/-! CwO: new lists; comprehensions. -/
namespace Cw
open PySem L2 PyProof.Rows PySem.W
def ownable : D → Bool
  | .lst _ | .dK _ | .dT _ => true
  | _ => false
/-- what a new list, dict leaves -/
def PostF (F : Fx) (A : Act) (al : List (Option Addr)) (W : XW) (σ : List Sl) (σV : L2.St) (ρ : List Addr) (H : Hp) (r : Res D) (Q : VK) : Prop := match r with
  | .ok d R' => ownable d = true ∧ ∀ p H' ρ', Rel F (A.add p) ρ' al σ R' σV H' → Ext ρ H ρ' H' → H p = none → OwR F ρ' (mask H' (OO (A.add p) ρ' al)) H' p d → Q (.ref p) H'
  | .exc c R' => ∀ H' ρ', Rel F A ρ' al σ R' σV H' → Ext ρ H ρ' H' → W c σV H'
  | .bad => False
def tF (F : Fx) (W : XW) (ck : Nat → List D → RH → Res D) (x : Ex) : TE := fun σV H Q => ∃ A ρ al σ R, Rel F A ρ al σ R σV H ∧ PostF F A al W σ σV ρ H (ev ck x σ R) Q
section
variable {F : Fx} {A : Act} {W : XW} {ck : Nat → List D → RH → Res D} {X : Cx} {e : Expr} {x : Ex} {ρ ρ1 ρ' : List Addr} {al : List (Option Addr)} {σ : List Sl} {R R' : RH} {σV : L2.St} {H H1 H' : Hp} {p : Addr} {o : HO}
theorem RDp.mono' (k : ∀ b o, H b = some o → H' b = some o) {v : List (Key × V)} {d : List (Key × D)} (h : RDp F ρ H v d) : RDp F ρ H' v d := RDp.mono ⟨[], by simp⟩ k h
theorem mask_drop : ∀ a u, mask H (OO (A.add p) ρ al) a = some u → mask H (OO A ρ al) a = some u := fun a u h => by
  obtain ⟨h1, h2⟩ := mask_some h
  rw [mask_out fun m => h2 (mem_add.mpr (.inr m))]
  exact h1
theorem Rel.notIn (r : Rel F (A.add p) ρ al σ R σV H) (hn : p ∉ A.O0) : p ∉ OO A ρ al := fun m => by
  obtain ⟨_, h2, h3⟩ := r.o0 p List.mem_cons_self
  rcases mem_OO.mp m with m | m | m
  · exact hn m
  · exact h2 m
  · exact h3 m
theorem OwR.rm {d : D} (r : Rel F (A.add p) ρ al σ R σV H) (hn : p ∉ A.O0) (h : OwR F ρ (mask H (OO (A.add p) ρ al)) H p d) : RM F A al ρ H (.ref p) d := by
  have nil : ∃ e : List Addr, ρ = ρ ++ e := ⟨[], by simp⟩
  have k := r.notIn hn
  cases d <;> first | exact False.elim h | skip
  · obtain ⟨vs, h1, h2⟩ := h
    exact RD.lst (by rw [mask_out k]; exact h1) (h2.mono nil mask_drop)
  · obtain ⟨vs, h1, h2⟩ := h
    exact RD.dK (by rw [mask_out k]; exact h1) (h2.mono nil mask_drop)
  · obtain ⟨vs, h1, h2⟩ := h
    exact RD.dT (by rw [mask_out k]; exact h1) (h2.mono nil mask_drop)
theorem Rel.notO0 (r : Rel F A ρ al σ R σV H) (h : H p = none) : p ∉ A.O0 := fun m => (r.o0 p m).1 h
/-- a new one is kept -/
theorem tS_ofF (hv : isVar x = false) (hx : ∀ (σ : List Sl) (R R' : RH) (d : D), ev ck x σ R = .ok d R' → ownable d = true) (h : PE X e (tF F W ck x)) : PE X e (tS F W ck x) := PE.by h fun σV H Q ⟨A, ρ, al, σ, R, r, p⟩ => ⟨A, ρ, al, σ, R, r, by
  rw [stx_not hv] at p
  cases q : ev ck x σ R with
  | ok d R' =>
    rw [q] at p
    exact ⟨hx _ _ _ _ q, fun a H' ρ' r' e' hp ow => p _ H' ρ' r'.dropO e' (ow.rm r' (r.notO0 hp))⟩
  | exc c R' => rw [q] at p; exact p
  | bad => rw [q] at p; exact p⟩
theorem Ext.updN (e : Ext ρ H ρ1 H1) (hp : H p = none) : Ext ρ H ρ1 (upd H1 p o) := ⟨e.pre, e.new, fun a u h n => by rw [upd_ne (ne_of_none h hp)]; exact e.keep a u h n⟩
theorem mask_ext_add (e : Ext ρ H ρ1 H1) (hp : H p = none) : ∀ a u, mask H (OO A ρ al) a = some u → mask H1 (OO (A.add p) ρ1 al) a = some u := fun a u h => by
  obtain ⟨h1, h2⟩ := mask_some (e.mask a u h)
  obtain ⟨h3, _⟩ := mask_some h
  rw [mask_out fun m => (mem_add.mp m).elim (ne_of_none h3 hp) h2]
  exact h1
theorem Ext.none (e : Ext ρ H ρ1 H1) (r : Rel F A ρ1 al σ R σV H1) (hp : H1 p = none) : H p = none := by
  cases z : H p with
  | none => rfl
  | some u =>
    by_cases q : p ∈ ρ
    · obtain ⟨x, hx⟩ := e.pre
      obtain ⟨vs, h⟩ := r.ltR (a := p) (by rw [hx]; exact List.mem_append_left _ q)
      rw [hp] at h
      cases h
    · have := e.keep p u z q
      rw [hp] at this
      cases this

/-! ### comprehensions -/
def noXW : XW := fun _ _ _ => False
def tC (F : Fx) (ck : Nat → List D → RH → Res D) : Exo → TT
  | .no => tYes
  | .so c => tQ (tS F noXW ck c)
def lcF (ck : Nat → List D → RH → Res D) (elt : Ex) (tg : Tg) (cd : Exo) (σ : List Sl) : D → RH → Res (Option D) := fun d R => match setC tg d σ with
  | none => .bad
  | some σ1 => (evc ck cd σ1 R).bind fun b R => if b = true then (stx elt σ1 (ev ck elt σ1 R)).bind fun x R => .ok (some x) R else .ok none R
theorem ev_lc (elt : Ex) (tg : Tg) (it : Itr) (cd : Exo) (σ : List Sl) (R : RH) : ev ck (.lc elt tg it cd) σ R = (evi ck it σ R).bind fun ds R => (lcL (lcF ck elt tg cd σ) ds R).bind fun ds R => .ok (.lst ds) R := rfl
theorem lcL_cons {f : D → RH → Res (Option D)} {d : D} {ds : List D} {R R2 : RH} {l : List D} (h : lcL f (d :: ds) R = .ok l R2) : ∃ o R1 l', f d R = .ok o R1 ∧ lcL f ds R1 = .ok l' R2 ∧ l = (match o with | some x => x :: l' | none => l') := by
  simp only [lcL] at h
  cases q : f d R with
  | ok o R1 =>
    rw [q] at h
    cases q2 : lcL f ds R1 with
    | ok l' R3 =>
      simp only [q2] at h
      cases h
      exact ⟨o, R1, l', rfl, q2, rfl⟩
    | exc c R3 => simp only [q2] at h; cases h
    | bad => simp only [q2] at h; cases h
  | exc c R3 => rw [q] at h; cases h
  | bad => rw [q] at h; cases h
theorem lcF_ok {elt : Ex} {tg : Tg} {cd : Exo} {d : D} {o : Option D} {R R1 : RH} (h : lcF ck elt tg cd σ d R = .ok o R1) : (∀ i ∈ tgs tg, isOw (gS σ i) = false) ∧ ∃ σ1, setT tg d (killS (tgs tg) σ) = some σ1 ∧
    ∃ b R2, evc ck cd σ1 R = .ok b R2 ∧ ((b = true ∧ ∃ x, stx elt σ1 (ev ck elt σ1 R2) = .ok x R1 ∧ o = some x) ∨ (b = false ∧ o = Option.none ∧ R2 = R1)) := by
  unfold lcF at h
  cases q : setC tg d σ with
  | none => rw [q] at h; cases h
  | some σ1 =>
    rw [q] at h
    unfold setC at q
    split at q
    · cases q
    · rename_i z
      refine ⟨fun i hi => ?_, σ1, q, ?_⟩
      · cases y : isOw (gS σ i) with
        | false => rfl
        | true => exact absurd (List.any_eq_true.mpr ⟨i, hi, y⟩) z
      · obtain ⟨b, R2, h1, h2⟩ := ok_bind h
        refine ⟨b, R2, h1, ?_⟩
        cases b with
        | true =>
          rw [if_pos rfl] at h2
          obtain ⟨x, R3, h3, h4⟩ := ok_bind h2
          cases h4
          exact .inl ⟨rfl, x, h3, rfl⟩
        | false =>
          rw [if_neg Bool.false_ne_true] at h2
          cases h2
          exact .inr ⟨rfl, rfl, rfl⟩
/-- a turn's item, in the state of the turn -/
theorem item_in {it : Item} {d : D} {Dd : Addr} {Hc Hx : Hp} {ρc : List Addr} {Rc : RH} {v : V} {its : List Item} {i : Nat} (h : ItR F A al ρ1 H1 it d) (hi : its[i]? = some it) (y : YI its i Hc v Hx) (e : Ext ρ1 H1 ρc Hc) (hD : H1 Dd = none) (r : Rel F (A.add Dd) ρc al σ Rc σV Hc) :
    Rel F (A.add Dd) ρc al σ Rc σV Hx ∧ (∀ a u, Hc a = some u → Hx a = some u) ∧ RM F (A.add Dd) al ρc Hx v d := by
  unfold YI at y
  rw [hi] at y
  have mk := mask_ext_add (A := A) (al := al) e hD
  cases h with
  | one q =>
    obtain ⟨rfl, rfl⟩ := y
    exact ⟨r, fun _ _ h => h, RD.mono e.pre mk q⟩
  | two q1 q2 =>
    obtain ⟨T, rfl, hT, rfl⟩ := y
    exact ⟨r.grow (upd_keep hT), upd_keep hT, RM.tup r hT (.cons (RD.mono e.pre mk q1) (.cons (RD.mono e.pre mk q2) .nil))⟩
theorem Post.okI {α β : Type} {d : α} {Rl : List Addr → Hp → β → α → Prop} {Q : β → Hp → Prop} (h : ∀ v H' ρ', Rel F A ρ' al σ R' σV H' → Ext ρ H ρ' H' → Rl ρ' H' v d → Q v H') : Post F A al W σ σV ρ H (.ok d R') Rl Q := h
theorem stx_bl {b : Bool} (r : Rel F A ρ al σ R σV H) (h : ev ck x σ R = .ok (.bl b) R') : stx x σ (ev ck x σ R) = .ok (.bl b) R' := by
  rw [h]
  cases x <;> first | rfl | skip
  rename_i i
  show (if isOw (gS σ i) = true then _ else _) = _
  cases q : gS σ i with
  | no => rfl
  | sh d => rfl
  | ow d =>
    simp only [ev, q, Sl.val, Res.of] at h
    cases h
    obtain ⟨a, _, _, _, _, z⟩ := r.ow q
    exact z.elim
theorem lcK {elt : Ex} {tg : Tg} {it : Itr} {cd : Exo} {Q : VK} (r : Rel F A ρ al σ R σV H) (p : PostF F A al W σ σV ρ H (ev ck (.lc elt tg it cd) σ R) Q) :
    tLc (tI F W ck false it) (gT F tg) (tC F ck cd) (tS F noXW ck elt) (tgs tg) σV H Q := by
  refine ⟨A, ρ, al, σ, R, r, ?_⟩
  rw [evis_false]
  rw [ev_lc] at p
  cases q1 : evi ck it σ R with
  | exc c R1 => rw [q1] at p; exact p
  | bad => rw [q1] at p; exact p
  | ok ds R1 =>
    rw [q1] at p
    refine Post.okI fun J H1 ρ1 r1 e1 w1 Dd hD => ?_
    simp only [Res.bind] at p
    cases q2 : lcL (lcF ck elt tg cd σ) ds R1 with
    | exc c R2 => rw [q2] at p; cases ds <;> simp only [lcL] at q2 <;> (repeat' split at q2) <;> cases q2
    | bad => rw [q2] at p; exact p.elim
    | ok L R2 =>
    rw [q2] at p
    simp only [Res.bind] at p
    have hHD : H Dd = none := e1.none r1 hD
    have hDe : A.He Dd = none := r1.he hD
    obtain ⟨its, gs, al2, src, hlen, walk⟩ := w1
    refine lc_it walk (fun i Hc => ∃ ρc Rc accV acc, Rel F (A.add Dd) ρc al σ Rc σV Hc ∧ Ext ρ1 H1 ρc Hc ∧ Hc Dd = some (.lst accV) ∧ RDs F ρc (mask Hc (OO (A.add Dd) ρc al)) accV acc ∧ acc.length ≤ i ∧ ∃ l, lcL (lcF ck elt tg cd σ) (ds.drop i) Rc = .ok l R2 ∧ acc ++ l = L)
      ⟨ρ1, R1, [], [], r1.addO hD, ext_grow (upd_keep hD), upd_same, .nil, Nat.le_refl _, L, q2, rfl⟩
      (fun i Hc _ ⟨ρc, Rc, accV, acc, rc, ec, _⟩ p hp => ((src p hp).ext ec).has) ?_ ?_
    · intro i x Hc Hx hi ⟨ρc, Rc, accV, acc, rc, ec, hc, ha, hl, l, hL, hE⟩ y
      obtain ⟨d, hd, hit⟩ := al2.get (List.getElem?_eq_getElem hi)
      obtain ⟨rx, kx, mx⟩ := item_in hit (List.getElem?_eq_getElem hi) y ec hD rc
      have hdrop : ds.drop i = d :: ds.drop (i + 1) := by
        obtain ⟨h1, h2⟩ := List.getElem?_eq_some_iff.mp hd
        rw [List.drop_eq_getElem_cons h1, h2]
      rw [hdrop] at hL
      obtain ⟨o, R3, l', h3, h4, h5⟩ := lcL_cons hL
      obtain ⟨hno, σ1, hs, b, R4, hcb, hrest⟩ := lcF_ok h3
      have hal : ∀ j ∈ tgs tg, al.getD j none = none := fun j hj => rx.notOw (hno j hj)
      have ex : Ext ρ1 H1 ρc Hx := ec.trans (ext_grow kx)
      have hx : Hx Dd = some (.lst accV) := kx _ _ hc
      have hax : RDs F ρc (mask Hx (OO (A.add Dd) ρc al)) accV acc := ha.mono ⟨[], by simp⟩ (ext_grow (ρ := ρc) kx).mask
      refine ⟨A.add Dd, ρc, al, killS (tgs tg) σ, Rc, d, σ1, rx.kills _ hal, mx, hs, fun σ2 al' r2 _ hal' hlen2 hj2 => ?_⟩
      have ea : al' = al := hal' hal
      subst ea
      refine ⟨wipe_eq hlen2 hj2, ?_⟩
      -- behind the test
      have after : ∀ (H3 : Hp) (ρ3 : List Addr), Rel F (A.add Dd) ρ3 al' σ1 R4 σ2 H3 → Ext ρc Hx ρ3 H3 → (if b = true then tS F noXW ck elt σ2 H3 fun y H4 => ∃ acc, H4 Dd = some (.lst acc) ∧ acc.length < sizeLine ∧
          ∃ ρc Rc accV acc_1, Rel F (A.add Dd) ρc al' σ Rc σV (upd H4 Dd (.lst (acc ++ [y]))) ∧ Ext ρ1 H1 ρc (upd H4 Dd (.lst (acc ++ [y]))) ∧ (upd H4 Dd (.lst (acc ++ [y]))) Dd = some (.lst accV) ∧ RDs F ρc (mask (upd H4 Dd (.lst (acc ++ [y]))) (OO (A.add Dd) ρc al')) accV acc_1 ∧ acc_1.length ≤ i + 1 ∧ ∃ l, lcL (lcF ck elt tg cd σ) (ds.drop (i + 1)) Rc = .ok l R2 ∧ acc_1 ++ l = L
        else ∃ ρc Rc accV acc, Rel F (A.add Dd) ρc al' σ Rc σV H3 ∧ Ext ρ1 H1 ρc H3 ∧ H3 Dd = some (.lst accV) ∧ RDs F ρc (mask H3 (OO (A.add Dd) ρc al')) accV acc ∧ acc.length ≤ i + 1 ∧ ∃ l, lcL (lcF ck elt tg cd σ) (ds.drop (i + 1)) Rc = .ok l R2 ∧ acc ++ l = L) := by
        intro H3 ρ3 r3 e3
        obtain ⟨_, nDc, nDo⟩ := rx.o0 Dd List.mem_cons_self
        have n3 : Dd ∈ OO (A.add Dd) ρ3 al' := mem_add.mpr (.inl rfl)
        rcases hrest with ⟨rfl, z, hz, ho⟩ | ⟨rfl, ho, hR⟩
        · rw [if_pos rfl]
          subst ho
          refine ⟨A.add Dd, ρ3, al', σ1, R4, r3, ?_⟩
          rw [hz]
          refine Post.okI fun y H4 ρ4 r4 e4 q4 => ?_
          have e34 := e3.trans e4
          have h4D : H4 Dd = some (.lst accV) := e34.keep _ _ hx nDc
          refine ⟨accV, h4D, by rw [hax.length]; omega, ρ4, R3, accV ++ [y], acc ++ [z], ?_, (ex.trans e34).updN hD, upd_same, ?_, ?_, l', h4, ?_⟩
          · exact (rx.step e34 (List.nodup_append.mp r4.nd).1 r4.rl r4.rf).updO List.mem_cons_self hDe
          · rw [mask_upd (mem_add.mpr (.inl rfl))]
            exact (hax.mono e34.pre e34.mask).append (.cons q4 .nil)
          · rw [List.length_append]; exact Nat.succ_le_succ hl
          · rw [← hE, h5]; simp
        · rw [if_neg Bool.false_ne_true]
          subst ho
          subst hR
          refine ⟨ρ3, R4, accV, acc, rx.step e3 (List.nodup_append.mp r3.nd).1 r3.rl r3.rf, ex.trans e3, e3.keep _ _ hx nDc, hax.mono e3.pre e3.mask, Nat.le_succ_of_le hl, l', h4, ?_⟩
          rw [← hE, h5]
      cases cd with
      | no =>
        simp only [evc] at hcb
        cases hcb
        exact after Hx ρc r2 Ext.refl
      | so c =>
        simp only [evc] at hcb
        refine ⟨A.add Dd, ρc, al', σ1, Rc, r2, ?_⟩
        obtain ⟨dv, R5, hc1, hc2⟩ := ok_bind hcb
        cases dv <;> first | (cases hc2; done) | skip
        cases hc2
        rw [stx_bl r2 hc1]
        refine Post.okI fun v H3 ρ3 r3 e3 q3 => ?_
        cases q3
        exact ⟨_, rfl, after H3 ρ3 r3 e3⟩
    · intro Hc ⟨ρc, Rc, accV, acc, rc, ec, hc, ha, hl, l, hL, hE⟩
      have hn : ds.length = its.length := al2.length.symm
      rw [List.drop_eq_nil_of_le (Nat.le_of_eq hn)] at hL
      simp only [lcL] at hL
      cases hL
      rw [List.append_nil] at hE
      subst hE
      exact p.2 Dd Hc ρc rc (e1.trans ec) hHD ⟨accV, hc, ha⟩
end
theorem snd_lcF {F : Fx} {W : XW} {ck : Nat → List D → RH → Res D} {X : Cx} {elt tg iter : Expr} {ifs : List Expr} {scope : Scope} {own : List (Str × Nat)} {pos : Pos} {xe : Ex} {xt : Tg} {it : Itr} {cd : Exo}
    (hc : X.calm = true) (hN : X.N.Nodup) (hi : PI X tg iter (tI F W ck false it)) (ok : BlkOk X.N X.env.scope scope own) (hv : own.map (·.2) = tgs xt)
    (hg : ∀ (s : Shared) (H : Hp) (C : Addr) (cl : List (Str × Addr)) (fp : List Addr), PG (X.blk s H scope (compEnvC scope cl C X.env) fp) tg (gT F xt)) (ht : ∀ (s : Shared) (H : Hp) (C : Addr) (cl : List (Str × Addr)) (fp : List Addr), PTs (X.blk s H scope (compEnvC scope cl C X.env) fp) ifs (tC F ck cd))
    (he : ∀ (s : Shared) (H : Hp) (C : Addr) (cl : List (Str × Addr)) (fp : List Addr), PE (X.blk s H scope (compEnvC scope cl C X.env) fp) elt (tS F noXW ck xe)) (hs : ∀ x, foldedSetIterable iter X.env x = pure x) :
    PE X (.ListComp elt [⟨tg, iter, ifs, 0⟩] scope pos) (tF F W ck (.lc xe xt it cd)) :=
  PE.by (pe_lc hc hN hi ok hg ht he hs) fun σV H Q ⟨A, ρ, al, σ, R, r, p⟩ => by rw [hv]; exact lcK r p
/-- name = [..] on one line -/
theorem snd_setLc {F : Fx} {W : XW} {ck : Nat → List D → RH → Res D} {X : Cx} {elt tg iter : Expr} {ifs : List Expr} {scope : Scope} {own : List (Str × Nat)} {pos : Pos} {xe : Ex} {xt : Tg} {it : Itr} {cd : Exo} {i : Nat} {y : Str} {py spos : Pos}
    (hc : X.calm = true) (hN : X.N.Nodup) (hy : X.N[i]? = some y) (hyl : X.env.scope.names.lookup y = some .local)
    (hsw : swapsWith (.ListComp elt [⟨tg, iter, ifs, 0⟩] scope pos) (some (.Name y py)) spos.line X.env = pure true) (hi : PI X tg iter (tI F W ck false it)) (ok : BlkOk X.N X.env.scope scope own) (hv : own.map (·.2) = tgs xt)
    (hg : ∀ (s : Shared) (H : Hp) (C : Addr) (cl : List (Str × Addr)) (fp : List Addr), PG (X.blk s H scope (compEnvC scope cl C X.env) fp) tg (gT F xt)) (ht : ∀ (s : Shared) (H : Hp) (C : Addr) (cl : List (Str × Addr)) (fp : List Addr), PTs (X.blk s H scope (compEnvC scope cl C X.env) fp) ifs (tC F ck cd))
    (he : ∀ (s : Shared) (H : Hp) (C : Addr) (cl : List (Str × Addr)) (fp : List Addr), PE (X.blk s H scope (compEnvC scope cl C X.env) fp) elt (tS F noXW ck xe)) (hs : ∀ x, foldedSetIterable iter X.env x = pure x) :
    PS X (.Assign [.Name y py] (.ListComp elt [⟨tg, iter, ifs, 0⟩] scope pos) spos) (tAsg (tF F W ck (.lc xe xt it cd)) (gName i)) :=
  let h := ps_setLc (py := py) hc hN hy hyl hsw hi ok hg ht he hs
  ⟨fun pins s σV H Dn I q => h.run pins s σV H Dn I (by
    rw [hv]
    obtain ⟨A, ρ, al, σ, R, r, p⟩ := q
    exact lcK r p)⟩
end Cw

end
section
/-! CwP: own slots. -/
namespace Cw
open PySem L2 PyProof.Rows PySem.W
section
variable {F : Fx} {A : Act} {ρ : List Addr} {al : List (Option Addr)} {σ : List Sl} {R : RH} {σV : L2.St} {H : Hp} {p : Addr} {o : HO}
theorem owns_set_some {al : List (Option Addr)} {i : Nat} {p a : Addr} (h : a ∈ owns (al.set i (some p))) : a = p ∨ a ∈ owns al := by
  obtain ⟨j, hj⟩ := mem_owns.mp h
  rw [List.getElem?_set] at hj
  by_cases e : i = j
  · rw [if_pos e] at hj
    split at hj
    · cases hj; exact .inl rfl
    · cases hj
  · rw [if_neg e] at hj
    exact .inr (mem_owns.mpr ⟨j, hj⟩)
theorem owns_set_at : ∀ {al : List (Option Addr)} {i : Nat} {p : Addr}, (owns al).Nodup → p ∉ owns al → (owns (al.set i (some p))).Nodup
  | [], _, _, _, _ => by simp [owns]
  | o :: al, 0, p, nd, np => by
    have e : owns (o :: al) = (match o with | some a => [a] | none => []) ++ owns al := by cases o <;> rfl
    rw [e] at nd np
    show (p :: owns al).Nodup
    exact List.nodup_cons.mpr ⟨fun m => np (List.mem_append_right _ m), (List.nodup_append.mp nd).2.1⟩
  | o :: al, i + 1, p, nd, np => by
    have ih := fun nd np => owns_set_at (al := al) (i := i) (p := p) nd np
    cases o with
    | none => exact ih nd np
    | some a =>
      have nd : (a :: owns al).Nodup := nd
      have np : p ∉ a :: owns al := np
      obtain ⟨n1, n2⟩ := List.nodup_cons.mp nd
      show (a :: owns (al.set i (some p))).Nodup
      refine List.nodup_cons.mpr ⟨fun m => ?_, ih n2 fun m => np (List.mem_cons_of_mem _ m)⟩
      rcases owns_set_some m with e | m
      · exact np (e ▸ List.mem_cons_self)
      · exact n1 m
theorem getDA {al : List (Option Addr)} {i : Nat} {a : Addr} (h : al.getD i none = some a) : al[i]? = some (some a) := by
  rw [List.getD_eq_getElem?_getD] at h
  cases y : al[i]? with
  | none => rw [y] at h; cases h
  | some o => rw [y] at h; exact congrArg some h
theorem owns_inj : ∀ {al : List (Option Addr)} {i j : Nat} {a : Addr}, (owns al).Nodup → al.getD i none = some a → al.getD j none = some a → i = j
  | [], i, j, a, _, h, _ => by simp at h
  | o :: al, 0, 0, a, _, _, _ => rfl
  | o :: al, 0, j + 1, a, nd, h1, h2 => by
    have h1 : o = some a := by simpa using h1
    subst h1
    have h2 : al.getD j none = some a := by simpa using h2
    exact absurd (mem_owns.mpr ⟨j, getDA h2⟩) (List.nodup_cons.mp (show (a :: owns al).Nodup from nd)).1
  | o :: al, i + 1, 0, a, nd, h1, h2 => by
    have h1 : al.getD i none = some a := by simpa using h1
    have h2 : o = some a := by simpa using h2
    subst h2
    exact absurd (mem_owns.mpr ⟨i, getDA h1⟩) (List.nodup_cons.mp (show (a :: owns al).Nodup from nd)).1
  | o :: al, i + 1, j + 1, a, nd, h1, h2 => by
    have nd' : (owns al).Nodup := by
      cases o with
      | none => exact nd
      | some b => exact (List.nodup_cons.mp (show (b :: owns al).Nodup from nd)).2
    exact congrArg (· + 1) (owns_inj nd' (by simpa using h1) (by simpa using h2))
theorem OwR.mono {Hm Hm' : Hp} {d : D} {a : Addr} (k : ∀ b o, Hm b = some o → Hm' b = some o) (h : OwR F ρ Hm H a d) : OwR F ρ Hm' H a d := by
  have nil : ∃ e : List Addr, ρ = ρ ++ e := ⟨[], by simp⟩
  cases d <;> first | exact False.elim h | (obtain ⟨vs, q4, q5⟩ := h; exact ⟨vs, q4, q5.mono nil k⟩)
/-- a new one comes to a slot -/
theorem Rel.setOw (r : Rel F (A.add p) ρ al σ R σV H) {i : Nat} {d : D} (hi : i < σV.length) (he : A.He p = none) (hn : p ∉ A.O0) (q : OwR F ρ (mask H (OO (A.add p) ρ al)) H p d) :
    Rel F A ρ (al.set i (some p)) (sS σ i (.ow d)) R (σV.set i (some (.ref p))) H := by
  obtain ⟨p1, p2, p3⟩ := r.o0 p List.mem_cons_self
  have hin : p ∈ owns (al.set i (some p)) := mem_owns.mpr ⟨i, by rw [List.getElem?_set_self (by rw [r.la]; exact hi)]⟩
  have k : ∀ b o, mask H (OO (A.add p) ρ al) b = some o → mask H (OO A ρ (al.set i (some p))) b = some o := fun b o h => by
    obtain ⟨h1, h2⟩ := mask_some h
    rw [mask_out fun m => h2 ?_]
    · exact h1
    · rcases mem_OO.mp m with m | m | m
      · exact mem_add.mpr (.inr (mem_OO.mpr (.inl m)))
      · exact mem_add.mpr (.inr (mem_OO.mpr (.inr (.inl m))))
      · rcases owns_set_some m with m | m
        · exact mem_add.mpr (.inl m)
        · exact mem_add.mpr (.inr (mem_OO.mpr (.inr (.inr m))))
  have nil : ∃ e : List Addr, ρ = ρ ++ e := ⟨[], by simp⟩
  refine ⟨by rw [sS_length, List.length_set]; exact r.ls, by rw [List.length_set, List.length_set]; exact r.la, fun j hj => ?_, r.rl, fun j a ds h1 h2 => ?_, ?_, r.pre, fun a h => ?_, r.newR, r.fr, fun a h => ?_⟩
  · rw [List.length_set] at hj
    rw [gS_set, getD_set, getD_set, r.ls, r.la]
    by_cases e : j = i
    · subst e
      rw [if_pos ⟨rfl, hi⟩, if_pos ⟨rfl, hi⟩, if_pos ⟨rfl, hi⟩]
      exact ⟨p, rfl, rfl, q.mono k⟩
    · rw [if_neg fun z => e z.1, if_neg fun z => e z.1, if_neg fun z => e z.1]
      have z := r.sl j hj
      cases w : gS σ j with
      | no => rw [w] at z; exact z
      | sh d' =>
        rw [w] at z
        obtain ⟨z1, x, z2, z3⟩ := z
        exact ⟨z1, x, z2, z3.mono nil k⟩
      | ow d' =>
        rw [w] at z
        obtain ⟨a, z1, z2, z3⟩ := z
        exact ⟨a, z1, z2, z3.mono k⟩
  · obtain ⟨vs, h3, h4⟩ := r.rf j a ds h1 h2
    exact ⟨vs, h3, h4.mono nil k⟩
  · obtain ⟨n1, n2, n3⟩ := List.nodup_append.mp r.nd
    refine List.nodup_append.mpr ⟨n1, owns_set_at n2 p3, fun a h b hb e => ?_⟩
    subst e
    rcases owns_set_some hb with e | hb
    · subst e; exact p2 h
    · exact n3 a h a hb rfl
  · rcases owns_set_some h with e | h
    · subst e; exact he
    · exact r.newO a h
  · obtain ⟨h1, h2, h3⟩ := r.o0 a (List.mem_cons_of_mem _ h)
    refine ⟨h1, h2, fun m => ?_⟩
    rcases owns_set_some m with e | m
    · subst e
      exact hn h
    · exact h3 m
/-- an own list is changed -/
theorem Rel.updOw (r : Rel F A ρ al σ R σV H) {i : Nat} {d d' : D} {a : Addr} (g : gS σ i = .ow d) (ha : al.getD i none = some a) (q : OwR F ρ (mask H (OO A ρ al)) (upd H a o) a d') :
    Rel F A ρ al (sS σ i (.ow d')) R σV (upd H a o) := by
  have hi := slot_at g (by simp)
  have am : a ∈ owns al := mem_owns.mpr ⟨i, by
    rw [List.getD_eq_getElem?_getD] at ha
    cases y : al[i]? with
    | none => rw [y] at ha; cases ha
    | some o => rw [y] at ha; exact congrArg some ha⟩
  have hm : mask (upd H a o) (OO A ρ al) = mask H (OO A ρ al) := mask_upd (mem_OO.mpr (.inr (.inr am)))
  refine ⟨by rw [sS_length]; exact r.ls, r.la, fun j hj => ?_, r.rl, fun j b ds e1 e2 => ?_, r.nd, r.pre, r.newO, r.newR, fun b u e n => ?_, fun b hb => ?_⟩
  · rw [hm, gS_set]
    have z := r.sl j hj
    by_cases e : j = i ∧ i < σ.length
    · rw [if_pos e]
      obtain ⟨rfl, _⟩ := e
      rw [g] at z
      obtain ⟨b, z1, z2, z3⟩ := z
      rw [ha] at z1
      cases z1
      exact ⟨a, ha, z2, q⟩
    · rw [if_neg e]
      cases w : gS σ j with
      | no => rw [w] at z; exact z
      | sh d => rw [w] at z; exact z
      | ow d =>
        rw [w] at z
        obtain ⟨b, q1, q2, q3⟩ := z
        have ne : b ≠ a := by
          intro e3
          subst e3
          have : j = i := owns_inj (List.nodup_append.mp r.nd).2.1 q1 ha
          exact e ⟨this, hi⟩
        refine ⟨b, q1, q2, ?_⟩
        cases d <;> first | exact False.elim q3 | (obtain ⟨vs, q4, q5⟩ := q3; exact ⟨vs, by rw [upd_ne ne]; exact q4, q5⟩)
  · rw [hm]
    obtain ⟨vs, q1, q2⟩ := r.rf j b ds e1 e2
    refine ⟨vs, ?_, q2⟩
    rw [upd_ne]
    · exact q1
    · intro e
      subst e
      exact (List.nodup_append.mp r.nd).2.2 b (List.mem_of_getElem? e1) b am rfl
  · rw [upd_ne fun z => by subst z; rw [r.newO b am] at e; cases e]
    exact r.fr b u e n
  · obtain ⟨g1, g2, g3⟩ := r.o0 b hb
    refine ⟨?_, g2, g3⟩
    by_cases e : b = a
    · subst e; exact absurd am g3
    · rw [upd_ne e]; exact g1
/-- an own list is shared from now on -/
theorem Rel.esc (r : Rel F A ρ al σ R σV H) {i : Nat} {d : D} (g : gS σ i = .ow d) : Rel F A ρ (al.set i none) (sS σ i (.sh d)) R σV H := by
  have hi := slot_at g (by simp)
  have hiV : i < σV.length := by rw [← r.ls]; exact hi
  have z := r.sl i hiV
  rw [g] at z
  obtain ⟨a, z1, z2, z3⟩ := z
  have am : a ∈ owns al := mem_owns.mpr ⟨i, getDA z1⟩
  have an : a ∉ OO A ρ (al.set i none) := fun m => by
    rcases mem_OO.mp m with m | m | m
    · exact (r.o0 a m).2.2 am
    · exact (List.nodup_append.mp r.nd).2.2 a m a am rfl
    · obtain ⟨j, hj⟩ := mem_owns.mp m
      rw [List.getElem?_set] at hj
      split at hj
      · split at hj <;> cases hj
      · rename_i ne
        exact ne (owns_inj (List.nodup_append.mp r.nd).2.1 z1 (by rw [List.getD_eq_getElem?_getD, hj]; rfl))
  have k : ∀ b o, mask H (OO A ρ al) b = some o → mask H (OO A ρ (al.set i none)) b = some o := mask_less fun a h => owns_set_mem h
  have q : RM F A (al.set i none) ρ H (.ref a) d := by
    cases d <;> first | exact False.elim z3 | skip
    · obtain ⟨vs, h1, h2⟩ := z3
      exact RD.lst (by rw [mask_out an]; exact h1) (h2.mono ⟨[], by simp⟩ k)
    · obtain ⟨vs, h1, h2⟩ := z3
      exact RD.dK (by rw [mask_out an]; exact h1) (h2.mono ⟨[], by simp⟩ k)
    · obtain ⟨vs, h1, h2⟩ := z3
      exact RD.dT (by rw [mask_out an]; exact h1) (h2.mono ⟨[], by simp⟩ k)
  refine ⟨by rw [sS_length]; exact r.ls, by rw [List.length_set]; exact r.la, fun j hj => ?_, r.rl, fun j b ds h1 h2 => ?_, (List.Sublist.append_left (owns_set_sub al i) ρ).nodup r.nd, r.pre, fun b h => r.newO b (owns_set_mem h), r.newR, r.fr,
    fun b h => ⟨(r.o0 b h).1, (r.o0 b h).2.1, fun m => (r.o0 b h).2.2 (owns_set_mem m)⟩⟩
  · rw [gS_set, getD_set, r.ls, r.la]
    by_cases e : j = i
    · subst e
      rw [if_pos ⟨rfl, hj⟩, if_pos ⟨rfl, hj⟩]
      exact ⟨rfl, _, z2, q⟩
    · rw [if_neg fun z => e z.1, if_neg fun z => e z.1]
      have z := r.sl j hj
      cases w : gS σ j with
      | no => rw [w] at z; exact z
      | sh d' =>
        rw [w] at z
        obtain ⟨z1, x, z2, z3⟩ := z
        exact ⟨z1, x, z2, z3.mono ⟨[], by simp⟩ k⟩
      | ow d' =>
        rw [w] at z
        obtain ⟨b, z1, z2, z3⟩ := z
        exact ⟨b, z1, z2, z3.mono k⟩
  · obtain ⟨vs, h3, h4⟩ := r.rf j b ds h1 h2
    exact ⟨vs, h3, h4.mono ⟨[], by simp⟩ k⟩
/-- a list with identity is changed -/
theorem Rel.updRf (r : Rel F A ρ al σ R σV H) {i : Nat} {a : Addr} {vs : List V} {ds : List D} (ha : ρ[i]? = some a) (q : RDs F ρ (mask H (OO A ρ al)) vs ds) :
    Rel F A ρ al σ (R.set i ds) σV (upd H a (.lst vs)) := by
  have am : a ∈ ρ := List.mem_of_getElem? ha
  have hm : mask (upd H a (.lst vs)) (OO A ρ al) = mask H (OO A ρ al) := mask_upd (mem_OO.mpr (.inr (.inl am)))
  have nr := (List.nodup_append.mp r.nd).1
  refine ⟨r.ls, r.la, fun j hj => ?_, by rw [List.length_set]; exact r.rl, fun j b es e1 e2 => ?_, r.nd, r.pre, r.newO, r.newR, fun b u e n => ?_, fun b hb => ?_⟩
  · rw [hm]
    have z := r.sl j hj
    cases w : gS σ j with
    | no => rw [w] at z; exact z
    | sh d => rw [w] at z; exact z
    | ow d =>
      rw [w] at z
      obtain ⟨b, q1, q2, q3⟩ := z
      have ne : b ≠ a := by
        intro e3
        subst e3
        exact (List.nodup_append.mp r.nd).2.2 b am b (mem_owns.mpr ⟨j, getDA q1⟩) rfl
      refine ⟨b, q1, q2, ?_⟩
      cases d <;> first | exact False.elim q3 | (obtain ⟨vs, q4, q5⟩ := q3; exact ⟨vs, by rw [upd_ne ne]; exact q4, q5⟩)
  · rw [hm]
    by_cases e : b = a
    · subst e
      have : i = j := by
        obtain ⟨h1, h2⟩ := List.getElem?_eq_some_iff.mp ha
        obtain ⟨h3, h4⟩ := List.getElem?_eq_some_iff.mp e1
        exact (List.getElem_inj nr).mp (h2.trans h4.symm)
      subst this
      rw [List.getElem?_set_self (by rw [← r.rl]; exact (List.getElem?_eq_some_iff.mp ha).1)] at e2
      cases e2
      exact ⟨vs, upd_same, q⟩
    · have ne : i ≠ j := by
        intro z
        subst z
        rw [ha] at e1
        cases e1
        exact e rfl
      rw [List.getElem?_set_ne ne] at e2
      obtain ⟨us, q1, q2⟩ := r.rf j b es e1 e2
      exact ⟨us, by rw [upd_ne e]; exact q1, q2⟩
  · by_cases z : b = a
    · subst z
      have := r.newR b am n
      rw [e] at this
      cases this
    · rw [upd_ne z]
      exact r.fr b u e n
  · obtain ⟨g1, g2, g3⟩ := r.o0 b hb
    refine ⟨?_, g2, g3⟩
    by_cases e : b = a
    · subst e; exact absurd am g2
    · rw [upd_ne e]; exact g1
/-- a new list with identity -/
theorem Rel.newRf (r : Rel F (A.add p) ρ al σ R σV H) (he : A.He p = none) (hn : p ∉ A.O0) {vs : List V} {ds : List D} (hp : H p = some (.lst vs)) (q : RDs F ρ (mask H (OO (A.add p) ρ al)) vs ds) :
    Rel F A (ρ ++ [p]) al σ (R ++ [ds]) σV H := by
  obtain ⟨p1, p2, p3⟩ := r.o0 p List.mem_cons_self
  have k : ∀ b o, mask H (OO (A.add p) ρ al) b = some o → mask H (OO A (ρ ++ [p]) al) b = some o := fun b o h => by
    obtain ⟨h1, h2⟩ := mask_some h
    rw [mask_out fun m => h2 ?_]
    · exact h1
    · rcases mem_OO.mp m with m | m | m
      · exact mem_add.mpr (.inr (mem_OO.mpr (.inl m)))
      · rcases List.mem_append.mp m with m | m
        · exact mem_add.mpr (.inr (mem_OO.mpr (.inr (.inl m))))
        · exact mem_add.mpr (.inl (List.mem_singleton.mp m))
      · exact mem_add.mpr (.inr (mem_OO.mpr (.inr (.inr m))))
  have pre : ∃ e : List Addr, ρ ++ [p] = ρ ++ e := ⟨[p], rfl⟩
  obtain ⟨n1, n2, n3⟩ := List.nodup_append.mp r.nd
  refine ⟨r.ls, r.la, fun j hj => ?_, by rw [List.length_append, List.length_append, r.rl]; rfl, fun j a es h1 h2 => ?_, ?_, ?_, r.newO, fun a h n => ?_, r.fr, fun a h => ?_⟩
  · have z := r.sl j hj
    cases w : gS σ j with
    | no => rw [w] at z; exact z
    | sh d' =>
      rw [w] at z
      obtain ⟨z1, x, z2, z3⟩ := z
      exact ⟨z1, x, z2, z3.mono pre k⟩
    | ow d' =>
      rw [w] at z
      obtain ⟨a, z1, z2, z3⟩ := z
      refine ⟨a, z1, z2, ?_⟩
      cases d' <;> first | exact False.elim z3 | (obtain ⟨vs, q4, q5⟩ := z3; exact ⟨vs, q4, q5.mono pre k⟩)
  · by_cases hj : j < ρ.length
    · rw [List.getElem?_append_left hj] at h1
      rw [List.getElem?_append_left (by rw [← r.rl]; exact hj)] at h2
      obtain ⟨us, h3, h4⟩ := r.rf j a es h1 h2
      exact ⟨us, h3, h4.mono pre k⟩
    · have : j = ρ.length := by
        have := (List.getElem?_eq_some_iff.mp h1).1
        rw [List.length_append] at this
        simp at this
        omega
      subst this
      rw [List.getElem?_append_right (Nat.le_refl _), Nat.sub_self] at h1
      rw [r.rl, List.getElem?_append_right (Nat.le_refl _), Nat.sub_self] at h2
      cases h1
      cases h2
      exact ⟨vs, hp, q.mono pre k⟩
  · rw [List.append_assoc]
    refine List.nodup_append.mpr ⟨n1, List.nodup_cons.mpr ⟨p3, n2⟩, fun a h b hb e => ?_⟩
    subst e
    rcases List.mem_cons.mp hb with e | hb
    · subst e; exact p2 h
    · exact n3 a h a hb rfl
  · obtain ⟨x, hx⟩ := r.pre
    have hx : ρ = A.re ++ x := hx
    exact ⟨x ++ [p], by rw [hx, List.append_assoc]⟩
  · rcases List.mem_append.mp h with h | h
    · exact r.newR a h n
    · rw [List.mem_singleton.mp h]; exact he
  · obtain ⟨h1, h2, h3⟩ := r.o0 a (List.mem_cons_of_mem _ h)
    refine ⟨h1, fun m => ?_, h3⟩
    rcases List.mem_append.mp m with m | m
    · exact h2 m
    · rw [List.mem_singleton.mp m] at h; exact hn h
end
end Cw

end
section
/-! CwQ: statements. -/
namespace Cw
open PySem L2 PyProof.Rows PySem.W
def forL (f : D → List Sl → RH → Res (Fl × List Sl)) : List D → List Sl → RH → Res (Fl × List Sl)
  | [], σ, R => .ok (.nx, σ) R
  | d :: ds, σ, R => match f d σ R with
    | .ok (.nx, σ1) R1 => forL f ds σ1 R1
    | .ok (.ct, σ1) R1 => forL f ds σ1 R1
    | .ok (.bk, σ1) R1 => .ok (.nx, σ1) R1
    | .ok (.rt v, σ1) R1 => .ok (.rt v, σ1) R1
    | .exc c R1 => .exc c R1
    | .bad => .bad
def whlL (c : List Sl → RH → Res D) (b : List Sl → RH → Res (Fl × List Sl)) : Nat → List Sl → RH → Res (Fl × List Sl)
  | 0, _, _ => .bad
  | n + 1, σ, R => match c σ R with
    | .ok (.bl true) R1 => match b σ R1 with
      | .ok (.nx, σ1) R2 => whlL c b n σ1 R2
      | .ok (.ct, σ1) R2 => whlL c b n σ1 R2
      | .ok (.bk, σ1) R2 => .ok (.nx, σ1) R2
      | .ok (.rt v, σ1) R2 => .ok (.rt v, σ1) R2
      | .exc c R2 => .exc c R2
      | .bad => .bad
    | .ok (.bl false) R1 => .ok (.nx, σ) R1
    | .exc c R1 => .exc c R1
    | _ => .bad
def sqK (g : List Sl → RH → Res (Fl × List Sl)) : Res (Fl × List Sl) → Res (Fl × List Sl)
  | .ok (.nx, σ) R => g σ R
  | r => r
section
variable (ck : Nat → List D → RH → Res D)
def popD (σ : List Sl) (i : Nat) (k : Option Int) (R : RH) : Res (D × List Sl) := match gS σ i with
  | .ow (.lst ds) => match k with
    | none => match ds[ds.length - 1]? with
      | some d => .ok (d, sS σ i (.ow (.lst ds.dropLast))) R
      | none => .bad
    | some k => match ixN ds.length k with
      | some j => match ds[j]? with
        | some d => .ok (d, sS σ i (.ow (.lst (ds.eraseIdx j)))) R
        | none => .bad
      | none => .bad
  | _ => .bad
def evSE : SE → List Sl → RH → Res (D × List Sl)
  | .ex e, σ, R => (stx e σ (ev ck e σ R)).bind fun d R => .ok (d, σ) R
  | .pop i, σ, R => popD σ i none R
  | .popAt i e, σ, R => match gS σ i with
    | .ow (.lst _) => (ev ck e σ R).bind fun x R => match x with
      | .int k => popD σ i (some k) R
      | _ => .bad
    | _ => .bad
  | .nref e, σ, R => (ev ck e σ R).bind fun d R => match d with
    | .lst ds => .ok (.ref R.length, σ) (R ++ [ds])
    | _ => .bad
def evP : List (Nat × Bool) → Exs → List Sl → RH → Res (List D)
  | [], .nil, _, R => .ok [] R
  | (_, b) :: is, .cons e es, σ, R => (if b = true then ev ck e σ R else stx e σ (ev ck e σ R)).bind fun d R => if b = true ∧ ownable d = false then .bad else (evP is es σ R).bind fun ds R => .ok (d :: ds) R
  | _, _, _, _ => .bad
def setP : List (Nat × Bool) → List D → List Sl → List Sl
  | (i, b) :: is, d :: ds, σ => setP is ds (sS σ i (if b = true then .ow d else .sh d))
  | _, _, σ => σ
/-- x[k] = d, of an own list or dict -/
def putD : D → D → D → Option D
  | .lst ds, .int k, d => match ixN ds.length k with
    | some j => some (.lst (ds.set j d))
    | none => none
  | _, _, _ => none
def augD : Bop → D → D → Option D
  | .add, .int i, .int j => some (.int (i + j))
  | .sub, .int i, .int j => some (.int (i - j))
  | _, _, _ => none
def extD : D → D → Option D
  | .lst xs, .lst ys => if xs.length + ys.length ≤ sizeLine then some (.lst (xs ++ ys)) else none
  | _, _ => none
def ofS (o : Option D) (i : Nat) (σ : List Sl) (R : RH) : Res (Fl × List Sl) := match o with
  | some d => .ok (.nx, sS σ i (.ow d)) R
  | none => .bad
mutual
def exec (fu : Nat) : Sm → List Sl → RH → Res (Fl × List Sl)
  | .set i e, σ, R => (evSE ck e σ R).bind fun p R => .ok (.nx, sS p.2 i (.sh p.1)) R
  | .own i e, σ, R => (ev ck e σ R).bind fun d R => if ownable d = true then .ok (.nx, sS σ i (.ow d)) R else .bad
  | .unp ts e, σ, R => (evSE ck e σ R).bind fun p R => match setT (.tp ts) p.1 p.2 with
    | some σ1 => .ok (.nx, σ1) R
    | none => .bad
  | .par is es, σ, R => (evP ck is es σ R).bind fun ds R => .ok (.nx, setP is ds σ) R
  | .xpr e, σ, R => (evSE ck e σ R).bind fun p R => .ok (.nx, p.2) R
  | .app i e, σ, R => match gS σ i with
    | .ow (.lst _) => (evSE ck e σ R).bind fun p R => match gS p.2 i with
      | .ow (.lst ds) => if ds.length < sizeLine then .ok (.nx, sS p.2 i (.ow (.lst (ds ++ [p.1])))) R else .bad
      | _ => .bad
    | _ => .bad
  | .ext i e, σ, R => match gS σ i with
    | .ow (.lst ds) => (ev ck e σ R).bind fun y R => ofS (extD (.lst ds) y) i σ R
    | _ => .bad
  | .sub i k e, σ, R => (stx e σ (ev ck e σ R)).bind fun d R => match gS σ i with
    | .ow o => (ev ck k σ R).bind fun y R => ofS (putD o y d) i σ R
    | _ => .bad
  | .su2 i k j l a b, σ, R => (stx a σ (ev ck a σ R)).bind fun d R => (stx b σ (ev ck b σ R)).bind fun d' R => match gS σ i with
    | .ow o => (ev ck k σ R).bind fun y R => match putD o y d with
      | some o' => match gS (sS σ i (.ow o')) j with
        | .ow o2 => (ev ck l (sS σ i (.ow o')) R).bind fun y' R => ofS (putD o2 y' d') j (sS σ i (.ow o')) R
        | _ => .bad
      | none => .bad
    | _ => .bad
  | .aug i o e, σ, R => match gS σ i with
    | .sh d => (ev ck e σ R).bind fun y R => match augD o d y with
      | some z => .ok (.nx, sS σ i (.sh z)) R
      | none => .bad
    | _ => .bad
  | .asb i k o e, σ, R => match gS σ i with
    | .ow l => (ev ck k σ R).bind fun y R => match idxD R l y with
      | some x => (ev ck e σ R).bind fun w R => match augD o x w with
        | some z => ofS (putD l y z) i σ R
        | none => .bad
      | none => .bad
    | _ => .bad
  | .rsb r k e, σ, R => (stx e σ (ev ck e σ R)).bind fun d R => (ev ck r σ R).bind fun q R => (ev ck k σ R).bind fun y R => match q, y with
    | .ref n, .int k => match R[n]? with
      | some ds => match ixN ds.length k with
        | some j => .ok (.nx, σ) (R.set n (ds.set j d))
        | none => .bad
      | none => .bad
    | _, _ => .bad
  | .rpp r k, σ, R => (ev ck r σ R).bind fun q R => match q with
    | .ref n => (ev ck k σ R).bind fun y R => match y with
      | .int k => match R[n]? with
        | some ds => match ixN ds.length k with
          | some j => .ok (.nx, σ) (R.set n (ds.eraseIdx j))
          | none => .bad
        | none => .bad
      | _ => .bad
    | _ => .bad
  | .ite c a b, σ, R => (ev ck c σ R).bind fun x R => match x with
    | .bl true => execs fu a σ R
    | .bl false => execs fu b σ R
    | _ => .bad
  | .for_ tg it body, σ, R => (evis ck true it σ R).bind fun ds R => forL (fun d σ R => match setT tg d σ with
    | none => .bad
    | some σ1 => execs fu body σ1 R) ds σ R
  | .whl c body, σ, R => whlL (fun σ R => ev ck c σ R) (fun σ R => execs fu body σ R) fu σ R
  | .ret (.ex e), σ, R => (ev ck e σ R).bind fun d R => .ok (.rt d, σ) R
  | .ret e, σ, R => (evSE ck e σ R).bind fun p R => .ok (.rt p.1, p.2) R
  | .retN, σ, R => .ok (.rt .non, σ) R
  | .raise c, _, R => .exc c R
  | .pas, σ, R => .ok (.nx, σ) R
  | .brk, σ, R => .ok (.bk, σ) R
  | .cnt, σ, R => .ok (.ct, σ) R
  | .esc is, σ, R => .ok (.nx, escS is σ) R
  | .kil _, _, _ => .bad
def execs (fu : Nat) : Sms → List Sl → RH → Res (Fl × List Sl)
  | .nil, σ, R => .ok (.nx, σ) R
  | .cons s ss, σ, R => sqK (fun σ R => execs fu ss σ R) (exec fu s σ R)
end
end
def PostS (F : Fx) (A : Act) (W : XW) (r : Res (Fl × List Sl)) (Dn : Ends) : Prop := match r with
  | .ok (.nx, σ') R' => ∀ ρ' al' σV' H', Rel F A ρ' al' σ' R' σV' H' → Dn.nx σV' H'
  | .ok (.bk, σ') R' => ∀ ρ' al' σV' H', Rel F A ρ' al' σ' R' σV' H' → Dn.bk σV' H'
  | .ok (.ct, σ') R' => ∀ ρ' al' σV' H', Rel F A ρ' al' σ' R' σV' H' → Dn.ct σV' H'
  | .ok (.rt d, _) R' => ∀ v ρ' al' σ'' σV' H', Rel F A ρ' al' σ'' R' σV' H' → RM F A al' ρ' H' v d → Dn.rt v H'
  | .exc c R' => ∀ ρ' al' σ'' σV' H', Rel F A ρ' al' σ'' R' σV' H' → W c σV' H'
  | .bad => False
section
variable (F : Fx) (W : XW) (ck : Nat → List D → RH → Res D) (fu : Nat)
def tSt (s : Sm) : TS := fun Dn σV H => ∃ A ρ al σ R, Rel F A ρ al σ R σV H ∧ PostS F A W (exec ck fu s σ R) Dn
def tSts (s : Sms) : TS := fun Dn σV H => ∃ A ρ al σ R, Rel F A ρ al σ R σV H ∧ PostS F A W (execs ck fu s σ R) Dn
end
theorem PS.by {X : Cx} {s : Stmt} {t t' : TS} (h : PS X s t) (i : ∀ D σ H, t' D σ H → t D σ H) : PS X s t' := ⟨fun pins s σ H D I q => h.run pins s σ H D I (i D σ H q)⟩
theorem PSs.by {X : Cx} {s : List Stmt} {t t' : TS} (h : PSs X s t) (i : ∀ D σ H, t' D σ H → t D σ H) : PSs X s t' := ⟨fun pins s σ H D I q => h.run pins s σ H D I (i D σ H q)⟩
section
variable {F : Fx} {A : Act} {W : XW} {ck : Nat → List D → RH → Res D} {fu : Nat} {X : Cx} {e : Expr} {st : Stmt} {sts : List Stmt} {x : Ex} {ρ ρ1 ρ' : List Addr} {al : List (Option Addr)} {σ : List Sl} {R R' : RH} {σV : L2.St} {H H1 H' : Hp} {p : Addr} {o : HO} {Dn : Ends} {pos : Pos}
/-- an expression at the head of a statement -/
theorem PostS.bind {α β : Type} {r : Res α} {f : α → RH → Res (Fl × List Sl)} {Rl : List Addr → Hp → β → α → Prop} {Q1 : β → Hp → Prop} (p : PostS F A W (r.bind f) Dn)
    (h : ∀ d R1 v H1 ρ1, Rel F A ρ1 al σ R1 σV H1 → Ext ρ H ρ1 H1 → Rl ρ1 H1 v d → PostS F A W (f d R1) Dn → Q1 v H1) : Post F A al W σ σV ρ H r Rl Q1 := by
  cases r with
  | ok d R' => exact fun v H' ρ' a b c => h d R' v H' ρ' a b c p
  | exc c R' => exact fun H' ρ' a b => p ρ' al σ σV H' a
  | bad => exact p
theorem PostS.bindF {r : Res D} {f : D → RH → Res (Fl × List Sl)} {Q1 : VK} (p : PostS F A W (r.bind f) Dn) (ho : ∀ d R1, PostS F A W (f d R1) Dn → ownable d = true)
    (h : ∀ d R1 a H1 ρ1, Rel F (A.add a) ρ1 al σ R1 σV H1 → Ext ρ H ρ1 H1 → H a = none → OwR F ρ1 (mask H1 (OO (A.add a) ρ1 al)) H1 a d → PostS F A W (f d R1) Dn → Q1 (.ref a) H1) : PostF F A al W σ σV ρ H r Q1 := by
  cases r with
  | ok d R' => exact ⟨ho d R' p, fun a H' ρ' r' b c q => h d R' a H' ρ' r' b c q p⟩
  | exc c R' => exact fun H' ρ' a b => p ρ' al σ σV H' a
  | bad => exact p
theorem snd_nilSts : PSs X [] (tSts F W ck fu .nil) := PSs.by pss_nil fun Dn σV H ⟨A, ρ, al, σ, R, r, p⟩ => p ρ al σV H r
theorem snd_consSts {s : Sm} {ss : Sms} (h1 : PS X st (tSt F W ck fu s)) (h2 : PSs X sts (tSts F W ck fu ss)) : PSs X (st :: sts) (tSts F W ck fu (.cons s ss)) :=
  PSs.by (pss_cons h1 h2) fun Dn σV H ⟨A, ρ, al, σ, R, r, p⟩ => ⟨A, ρ, al, σ, R, r, by
    have p : PostS F A W (sqK (fun σ R => execs ck fu ss σ R) (exec ck fu s σ R)) Dn := p
    cases q : exec ck fu s σ R with
    | ok a R' =>
      obtain ⟨f, σ'⟩ := a
      rw [q] at p
      cases f with
      | nx => exact fun ρ' al' σV' H' r' => ⟨A, ρ', al', σ', R', r', p⟩
      | bk => exact p
      | ct => exact p
      | rt d => exact p
    | exc c R' => rw [q] at p; exact p
    | bad => rw [q] at p; exact p⟩
/-- a ghost ahead of a statement -/
theorem snd_esc {is : List Nat} {ss : Sms} (h : PSs X sts (tSts F W ck fu ss)) : PSs X sts (tSts F W ck fu (.cons (.esc is) ss)) :=
  PSs.by h fun Dn σV H ⟨A, ρ, al, σ, R, r, p⟩ => by
    have p : PostS F A W (execs ck fu ss (escS is σ) R) Dn := p
    have : ∀ (is : List Nat) (σ : List Sl) (al : List (Option Addr)), Rel F A ρ al σ R σV H → ∃ al', Rel F A ρ al' (escS is σ) R σV H := by
      intro is
      induction is with
      | nil => exact fun σ al r => ⟨al, r⟩
      | cons i is ih =>
        intro σ al r
        show ∃ al', Rel F A ρ al' (escS is (match gS σ i with | .ow d => sS σ i (.sh d) | _ => σ)) R σV H
        cases g : gS σ i with
        | no => exact ih σ al r
        | sh d => exact ih σ al r
        | ow d => exact ih _ _ (r.esc g)
    obtain ⟨al', r'⟩ := this is σ al r
    exact ⟨A, ρ, al', escS is σ, R, r', p⟩
theorem snd_pas : PS X (.Pass pos) (tSt F W ck fu .pas) := PS.by ps_pass fun Dn σV H ⟨A, ρ, al, σ, R, r, p⟩ => p ρ al σV H r
theorem snd_brk : PS X (.Break pos) (tSt F W ck fu .brk) := PS.by ps_break fun Dn σV H ⟨A, ρ, al, σ, R, r, p⟩ => p ρ al σV H r
theorem snd_cnt : PS X (.Continue pos) (tSt F W ck fu .cnt) := PS.by ps_continue fun Dn σV H ⟨A, ρ, al, σ, R, r, p⟩ => p ρ al σV H r
theorem snd_retN : PS X (.Return none pos) (tSt F W ck fu .retN) := PS.by ps_retN fun Dn σV H ⟨A, ρ, al, σ, R, r, p⟩ => p .non ρ al σ σV H r RD.non
theorem snd_retS (hv : isVar x = false) (h : PE X e (tS F W ck x)) : PS X (.Return (some e) pos) (tSt F W ck fu (.ret (.ex x))) :=
  PS.by (ps_ret h) fun Dn σV H ⟨A, ρ, al, σ, R, r, p⟩ => ⟨A, ρ, al, σ, R, r, by
    rw [stx_not hv]
    exact PostS.bind (show PostS F A W ((ev ck x σ R).bind fun d R => .ok (.rt d, σ) R) Dn from p) fun d R1 v H1 ρ1 r1 e1 q1 p1 => p1 v ρ1 al σ σV H1 r1 q1⟩
theorem snd_retV {i : Nat} (h : PE X e (tVar i)) : PS X (.Return (some e) pos) (tSt F W ck fu (.ret (.ex (.var i)))) :=
  PS.by (ps_ret h) fun Dn σV H ⟨A, ρ, al, σ, R, r, p⟩ => by
    have p : PostS F A W ((Res.of (gS σ i).val R).bind fun d R => .ok (.rt d, σ) R) Dn := p
    cases q : gS σ i with
    | no => rw [q] at p; exact p.elim
    | sh d =>
      rw [q] at p
      obtain ⟨v, h1, h2⟩ := r.sh q
      exact ⟨v, h1, p v ρ al σ σV H r h2⟩
    | ow d =>
      rw [q] at p
      have r2 := r.esc q
      obtain ⟨a, h1, _⟩ := r.ow q
      obtain ⟨v, h3, h4⟩ := r2.sh (i := i) (d := d) (by rw [gS_set, if_pos ⟨rfl, slot_at q (by simp)⟩])
      exact ⟨v, h3, p v ρ _ _ σV H r2 h4⟩
/-! ### values of statements -/
def PostE (F : Fx) (A : Act) (al : List (Option Addr)) (W : XW) (σV : L2.St) (r : Res (D × List Sl)) (Q : VK) : Prop := match r with
  | .ok (d, σ') R' => ∀ v H' ρ', Rel F A ρ' al σ' R' σV H' → RM F A al ρ' H' v d → Q v H'
  | .exc c R' => ∀ H' ρ' σ', Rel F A ρ' al σ' R' σV H' → W c σV H'
  | .bad => False
def tSE (F : Fx) (W : XW) (ck : Nat → List D → RH → Res D) (s : SE) : TE := fun σV H Q => ∃ A ρ al σ R, Rel F A ρ al σ R σV H ∧ PostE F A al W σV (evSE ck s σ R) Q
theorem PostE.bind {α β : Type} {r : Res α} {f : α → RH → Res (D × List Sl)} {Rl : List Addr → Hp → β → α → Prop} {Q : VK} {Q1 : β → Hp → Prop} (p : PostE F A al W σV (r.bind f) Q)
    (h : ∀ d R1 v H1 ρ1, Rel F A ρ1 al σ R1 σV H1 → Ext ρ H ρ1 H1 → Rl ρ1 H1 v d → PostE F A al W σV (f d R1) Q → Q1 v H1) : Post F A al W σ σV ρ H r Rl Q1 := by
  cases r with
  | ok d R' => exact fun v H' ρ' a b c => h d R' v H' ρ' a b c p
  | exc c R' => exact fun H' ρ' a b => p H' ρ' σ a
  | bad => exact p
theorem seEx (h : PE X e (tS F W ck x)) : PE X e (tSE F W ck (.ex x)) := PE.by h fun σV H Q ⟨A, ρ, al, σ, R, r, p⟩ => ⟨A, ρ, al, σ, R, r,
  PostE.bind (show PostE F A al W σV ((stx x σ (ev ck x σ R)).bind fun d R => .ok (d, σ) R) Q from p) fun d R1 v H1 ρ1 r1 e1 q1 p1 => p1 v H1 ρ1 r1 q1⟩
theorem seNref (h : PE X e (tF F W ck x)) : PE X e (tSE F W ck (.nref x)) := PE.by h fun σV H Q ⟨A, ρ, al, σ, R, r, p⟩ => ⟨A, ρ, al, σ, R, r, by
  have p : PostE F A al W σV ((ev ck x σ R).bind fun d R => match d with
    | .lst ds => .ok (.ref R.length, σ) (R ++ [ds])
    | _ => .bad) Q := p
  cases q : ev ck x σ R with
  | ok d R' =>
    rw [q] at p
    cases d <;> first | exact p.elim | skip
    refine ⟨rfl, fun a H' ρ' r' e' hp ow => ?_⟩
    obtain ⟨vs, h1, h2⟩ := ow
    have r2 := r'.newRf (r.he hp) (r.notO0 hp) h1 h2
    refine p _ H' _ r2 (RD.ref ?_)
    rw [← r'.rl, List.getElem?_append_right (Nat.le_refl _), Nat.sub_self]
    rfl
  | exc c R' => rw [q] at p; exact fun H' ρ' a b => p H' ρ' σ a
  | bad => rw [q] at p; exact p⟩
/-- name = value -/
theorem snd_set {s : SE} {i : Nat} {y : Str} {py : Pos} (hN : X.N.Nodup) (hi : X.N[i]? = some y) (hx : Loc X.env.scope y) (hf : X.fn y = true ∨ X.env.scope.names.lookup y = some .local) (h : PE X e (tSE F W ck s)) (hs : swapsWith e (some (.Name y py)) pos.line X.env = pure false) :
    PS X (.Assign [.Name y py] e pos) (tSt F W ck fu (.set i s)) :=
  ⟨fun pins sh σV H Dn I ⟨A, ρ, al, σ, R, r, p⟩ => (ps_set hN hi hx h hs hf).run pins sh σV H Dn I ⟨A, ρ, al, σ, R, r, by
    have hl : i < σV.length := by rw [I.len]; exact (List.getElem?_eq_some_iff.mp hi).1
    have p : PostS F A W ((evSE ck s σ R).bind fun p R => .ok (.nx, sS p.2 i (.sh p.1)) R) Dn := p
    cases q : evSE ck s σ R with
    | ok a R' =>
      obtain ⟨d, σ'⟩ := a
      rw [q] at p
      exact fun v H' ρ' r' q' => p _ _ _ _ (r'.setSh hl q')
    | exc c R' => rw [q] at p; exact fun H' ρ' σ' a => p ρ' al σ' σV H' a
    | bad => rw [q] at p; exact p⟩⟩
theorem tF_own {i : Nat} {σV : L2.St} {H : Hp} {Dn : Ends} (hl : i < σV.length) (h : tSt F W ck fu (.own i x) Dn σV H) : tF F W ck x σV H fun v H1 => Dn.nx (σV.set i (some v)) H1 := by
  obtain ⟨A, ρ, al, σ, R, r, p⟩ := h
  have p : PostS F A W ((ev ck x σ R).bind fun d R => if ownable d = true then .ok (.nx, sS σ i (.ow d)) R else .bad) Dn := p
  refine ⟨A, ρ, al, σ, R, r, ?_⟩
  refine PostS.bindF p (fun d R1 p1 => ?_) fun d R1 a H1 ρ1 r1 e1 hp ow p1 => ?_
  · split at p1
    · assumption
    · exact p1.elim
  · split at p1
    · exact p1 _ _ _ _ (r1.setOw hl (r.he hp) (r.notO0 hp) ow)
    · exact p1.elim
/-- name = a new list -/
theorem snd_own {i : Nat} {y : Str} {py : Pos} (hN : X.N.Nodup) (hi : X.N[i]? = some y) (hx : Loc X.env.scope y) (hf : X.fn y = true ∨ X.env.scope.names.lookup y = some .local) (h : PE X e (tF F W ck x)) (hs : swapsWith e (some (.Name y py)) pos.line X.env = pure false) :
    PS X (.Assign [.Name y py] e pos) (tSt F W ck fu (.own i x)) :=
  ⟨fun pins sh σV H Dn I q => (ps_set hN hi hx h hs hf).run pins sh σV H Dn I (tF_own (by rw [I.len]; exact (List.getElem?_eq_some_iff.mp hi).1) q)⟩
/-- by a comprehension on one line -/
theorem snd_ownLc {i : Nat} {t : TS} (hi : i < X.N.length) (h : PS X st (tAsg (tF F W ck x) (gName i))) : PS X st (tSt F W ck fu (.own i x)) :=
  ⟨fun pins sh σV H Dn I q => h.run pins sh σV H Dn I (tF_own (by rw [I.len]; exact hi) q)⟩
theorem snd_setLcS {i : Nat} (hv : isVar x = false) (hx : ∀ (σ : List Sl) (R R' : RH) (d : D), ev ck x σ R = .ok d R' → ownable d = true) (hi : i < X.N.length) (h : PS X st (tAsg (tF F W ck x) (gName i))) : PS X st (tSt F W ck fu (.set i (.ex x))) :=
  ⟨fun pins sh σV H Dn I ⟨A, ρ, al, σ, R, r, p⟩ => h.run pins sh σV H Dn I ⟨A, ρ, al, σ, R, r, by
    have hl : i < σV.length := by rw [I.len]; exact hi
    have p : PostS F A W (((stx x σ (ev ck x σ R)).bind fun d R => .ok (d, σ) R).bind fun p R => .ok (.nx, sS p.2 i (.sh p.1)) R) Dn := p
    rw [stx_not hv] at p
    cases q : ev ck x σ R with
    | ok d R' =>
      rw [q] at p
      exact ⟨hx _ _ _ _ q, fun a H' ρ' r' e' hp ow => p _ _ _ _ (r'.dropO.setSh hl (ow.rm r' (r.notO0 hp)))⟩
    | exc c R' => rw [q] at p; exact fun H' ρ' a _ => p ρ' al σ σV H' a
    | bad => rw [q] at p; exact p⟩⟩
theorem snd_setLcN {i : Nat} (hi : i < X.N.length) (h : PS X st (tAsg (tF F W ck x) (gName i))) : PS X st (tSt F W ck fu (.set i (.nref x))) :=
  ⟨fun pins sh σV H Dn I ⟨A, ρ, al, σ, R, r, p⟩ => h.run pins sh σV H Dn I ⟨A, ρ, al, σ, R, r, by
    have hl : i < σV.length := by rw [I.len]; exact hi
    have p : PostS F A W (((ev ck x σ R).bind fun d R => match d with
      | .lst ds => .ok (.ref R.length, σ) (R ++ [ds])
      | _ => .bad).bind fun p R => .ok (.nx, sS p.2 i (.sh p.1)) R) Dn := p
    cases q : ev ck x σ R with
    | ok d R' =>
      rw [q] at p
      cases d <;> first | exact p.elim | skip
      refine ⟨rfl, fun a H' ρ' r' e' hp ow => ?_⟩
      obtain ⟨vs, h1, h2⟩ := ow
      have r2 := r'.newRf (r.he hp) (r.notO0 hp) h1 h2
      refine p _ _ _ _ (r2.setSh hl (RD.ref ?_))
      rw [← r'.rl, List.getElem?_append_right (Nat.le_refl _), Nat.sub_self]
      rfl
    | exc c R' => rw [q] at p; exact fun H' ρ' a _ => p ρ' al σ σV H' a
    | bad => rw [q] at p; exact p⟩⟩
theorem snd_unp {s : SE} {ts : Tgs} {tg : Expr} (h : PE X e (tSE F W ck s)) (hg : PG X tg (gT F (.tp ts))) (hs : swapsWithSole [tg] e pos.line X.env = pure false) (hw : swappedStores [tg] e X.env = pure none) (h1 : (assignEach [tg] X.env).map (·.2) = [assign tg X.env]) :
    PS X (.Assign [tg] e pos) (tSt F W ck fu (.unp ts s)) :=
  PS.by (ps_asg h hg hs hw h1) fun Dn σV H ⟨A, ρ, al, σ, R, r, p⟩ => ⟨A, ρ, al, σ, R, r, by
    have p : PostS F A W ((evSE ck s σ R).bind fun p R => match setT (.tp ts) p.1 p.2 with
      | some σ1 => .ok (.nx, σ1) R
      | none => .bad) Dn := p
    cases q : evSE ck s σ R with
    | ok a R' =>
      obtain ⟨d, σ'⟩ := a
      rw [q] at p
      simp only [Res.bind] at p
      cases z : setT (.tp ts) d σ' with
      | none => rw [z] at p; exact p.elim
      | some σ1 =>
        rw [z] at p
        exact fun v H' ρ' r' q' => ⟨A, ρ', al, σ', R', d, σ1, r', q', z, fun σV' al' r2 _ _ _ _ => p _ _ _ _ r2⟩
    | exc c R' => rw [q] at p; exact fun H' ρ' σ' a => p ρ' al σ' σV H' a
    | bad => rw [q] at p; exact p⟩
theorem snd_xpr {s : SE} (h : PE X e (tSE F W ck s)) (hs : swapsWith e none pos.line X.env = pure false) : PS X (.Expr e pos) (tSt F W ck fu (.xpr s)) :=
  PS.by (ps_expr h hs) fun Dn σV H ⟨A, ρ, al, σ, R, r, p⟩ => ⟨A, ρ, al, σ, R, r, by
    have p : PostS F A W ((evSE ck s σ R).bind fun p R => .ok (.nx, p.2) R) Dn := p
    cases q : evSE ck s σ R with
    | ok a R' =>
      obtain ⟨d, σ'⟩ := a
      rw [q] at p
      exact fun v H' ρ' r' q' => p _ _ _ _ r'
    | exc c R' => rw [q] at p; exact fun H' ρ' σ' a => p ρ' al σ' σV H' a
    | bad => rw [q] at p; exact p⟩
theorem snd_if {c : Expr} {a b : List Stmt} {xc : Ex} {xa xb : Sms} (hc : PT X c (tQ (tS F W ck xc))) (ha : PSs X a (tSts F W ck fu xa)) (hb : PSs X b (tSts F W ck fu xb)) : PS X (.If c a b pos) (tSt F W ck fu (.ite xc xa xb)) :=
  PS.by (ps_if hc ha hb) fun Dn σV H ⟨A, ρ, al, σ, R, r, p⟩ => ⟨A, ρ, al, σ, R, r, by
    have p : PostS F A W ((ev ck xc σ R).bind fun x R => match x with
      | .bl true => execs ck fu xa σ R
      | .bl false => execs ck fu xb σ R
      | _ => .bad) Dn := p
    cases q : ev ck xc σ R with
    | exc c R' =>
      rw [q] at p
      have : stx xc σ (Res.exc c R' : Res D) = .exc c R' := by
        cases xc <;> first | rfl | skip
        simp only [ev] at q
        cases z : (gS σ _).val with
        | none => rw [z] at q; cases q
        | some d => rw [z] at q; cases q
      rw [this]
      exact fun H' ρ' a _ => p ρ' al σ σV H' a
    | bad => rw [q] at p; exact p.elim
    | ok d R' =>
      rw [q] at p
      cases d <;> first | exact p.elim | skip
      rename_i b
      have := stx_bl r q
      rw [q] at this
      rw [this]
      intro v H' ρ' r' e' q'
      cases q'
      refine ⟨b, rfl, ?_⟩
      cases b with
      | true => exact ⟨A, ρ', al, σ, R', r', p⟩
      | false => exact ⟨A, ρ', al, σ, R', r', p⟩⟩
end
end Cw

end
section
/-! CwR: statements that change lists. -/
namespace Cw
open PySem L2 PyProof.Rows PySem.W
theorem dl_eq {α : Type} : ∀ l : List α, l.dropLast = l.eraseIdx (l.length - 1)
  | [] => rfl
  | [a] => rfl
  | a :: b :: l => congrArg (a :: ·) (dl_eq (b :: l))
theorem few_one {env : Env} {e : Expr} {cpos : Pos} (hs : isStar e = false) : ((backTo cpos (starEach [e] env)).all (fun x => !x.1) && (backToKw cpos (keywordEach [] env)).all (fun x => x.1.isSome)
      && decide (([e] : List Expr).length + ([] : List Keyword).length + (if ([] : List Keyword).isEmpty then 0 else 1) < 30)) = true := by
  rw [star_cons hs]; rfl
section
variable {F : Fx} {A : Act} {W : XW} {ck : Nat → List D → RH → Res D} {fu : Nat} {X : Cx} {e o : Expr} {st : Stmt} {sts : List Stmt} {x : Ex} {ρ ρ1 ρ' : List Addr} {al : List (Option Addr)} {σ : List Sl} {R R' : RH} {σV : L2.St} {H H1 H' : Hp} {a p : Addr} {Dn : Ends} {pos apos cpos : Pos} {i : Nat} {y : Str}
theorem Rel.owL (r : Rel F A ρ al σ R σV H) {i : Nat} {ds : List D} (h : gS σ i = .ow (.lst ds)) : ∃ a vs, σV[i]? = some (some (.ref a)) ∧ al.getD i none = some a ∧ H a = some (.lst vs) ∧ RDs F ρ (mask H (OO A ρ al)) vs ds ∧ a ∈ owns al ∧ a ∉ ρ := by
  obtain ⟨a, h1, h2, h3, h4, vs, h5, h6⟩ := r.ow h
  exact ⟨a, vs, h1, h2, h5, h6, h3, h4⟩
theorem Rel.ownM (r : Rel F A ρ al σ R σV H) (o : HO) (h : a ∈ owns al) : mask (upd H a o) (OO A ρ al) = mask H (OO A ρ al) := mask_upd (mem_OO.mpr (.inr (.inr h)))
/-- a list that is changed where it lies -/
theorem Rel.updL (r : Rel F A ρ al σ R σV H) {i : Nat} {d : D} {vs : List V} {ds : List D} (g : gS σ i = .ow d) (ha : al.getD i none = some a) (q : RDs F ρ (mask H (OO A ρ al)) vs ds) :
    Rel F A ρ al (sS σ i (.ow (.lst ds))) R σV (upd H a (.lst vs)) := r.updOw g ha ⟨vs, upd_same, q⟩
theorem sq_lst {K : PySem.W.Frag} {vs : List V} (h : H a = some (.lst vs)) : SqL K H a vs := .of h
theorem ty_lst {K : PySem.W.Frag} {vs : List V} (h : H a = some (.lst vs)) : tyV K "list" (.ref a) H := .inl ⟨rfl, vs, .of h⟩
/-! pop -/
theorem popD_ok {σ : List Sl} {i : Nat} {k : Option Int} {R : RH} {Q : VK} (p : PostE F A al W σV (popD σ i k R) Q) : ∃ ds j d, gS σ i = .ow (.lst ds) ∧ ds[j]? = some d ∧ (match k with | none => j = ds.length - 1 | some k => ixN ds.length k = some j) ∧ popD σ i k R = .ok (d, sS σ i (.ow (.lst (ds.eraseIdx j)))) R := by
  unfold popD at p ⊢
  cases q : gS σ i with
  | no => rw [q] at p; exact p.elim
  | sh d => rw [q] at p; exact p.elim
  | ow d =>
    rw [q] at p
    cases d <;> first | exact p.elim | skip
    rename_i ds
    cases k with
    | none =>
      simp only at p ⊢
      cases z : ds[ds.length - 1]? with
      | none => rw [z] at p; exact p.elim
      | some d =>
        refine ⟨ds, ds.length - 1, d, rfl, z, rfl, ?_⟩
        simp only
        rw [dl_eq]
    | some k =>
      simp only at p ⊢
      cases z : ixN ds.length k with
      | none => rw [z] at p; exact p.elim
      | some j =>
        rw [z] at p
        simp only at p ⊢
        cases z2 : ds[j]? with
        | none => rw [z2] at p; exact p.elim
        | some d => exact ⟨ds, j, d, rfl, z2, z, by simp only⟩
theorem sePop (hv : PE X o (tVar i)) (hbase : attributeBase o "pop" X.env (eval o X.env) = eval o X.env) (hline : (apos.endLine == cpos.line) = true) : PE X (.Call (.Attribute o "pop" apos) [] [] cpos) (tSE F W ck (.pop i)) :=
  PE.by (pe_bm0 PySem.F.plainAttrs_list PySem.F.slot_list_pop PySem.F.type_list_pop mt_pop hv hbase hline) fun σV H Q ⟨A, ρ, al, σ, R, r, p⟩ => by
    have p : PostE F A al W σV (popD σ i none R) Q := p
    obtain ⟨ds, j, d, g, hd, hj, hp⟩ := popD_ok p
    rw [hp] at p
    obtain ⟨a, vs, h1, h2, h3, h4, h5, h6⟩ := r.owL g
    obtain ⟨v, hv, hr⟩ := h4.get hd
    refine ⟨.ref a, h1, ty_lst h3, a, vs, v, rfl, rfl, h3, by rw [h4.length]; simp only at hj; rw [← hj]; exact hv, ?_⟩
    have e : vs.dropLast = vs.eraseIdx j := by
      simp only at hj
      rw [dl_eq, hj, h4.length]
    rw [e]
    exact p v _ ρ (r.updL g h2 (h4.eraseIdx j)) (by
      show RD F ρ _ v d
      rw [r.ownM _ h5]
      exact hr)
theorem line63 {n : Nat} {k : Int} {j : Nat} (h : ixN n k = some j) (hz : n ≤ sizeLine) : -(2 ^ 63) ≤ k ∧ k < 2 ^ 63 ∧ seqIndex? k n = some j := by
  obtain ⟨h1, h2, h3, h4⟩ := ixN_seq h
  have hz : (n : Int) ≤ 16777216 := by
    have : sizeLine = 16777216 := by decide
    omega
  exact ⟨by omega, by omega, h1⟩
theorem sePopAt (hK : F.K = X.K) (hv : PE X o (tVar i)) (hs : isStar e = false) (hbase : attributeBase o "pop" X.env (eval o X.env) = eval o X.env) (hline : (apos.endLine == cpos.line) = true) (h : PE X e (tB F W ck x)) : PE X (.Call (.Attribute o "pop" apos) [e] [] cpos) (tSE F W ck (.popAt i x)) :=
  PE.by (pe_bm PySem.F.plainAttrs_list PySem.F.slot_list_pop PySem.F.type_list_pop mt_popAt hv (pa_cons (PE.sz h) pa_nil (star_cons hs)) hbase (few_one hs) hline (star_cons hs) rfl) fun σV H Q ⟨A, ρ, al, σ, R, r, p⟩ => by
    have p : PostE F A al W σV (match gS σ i with
      | .ow (.lst _) => (ev ck x σ R).bind fun x R => match x with
        | .int k => popD σ i (some k) R
        | _ => .bad
      | _ => .bad) Q := p
    cases g0 : gS σ i with
    | no => rw [g0] at p; exact p.elim
    | sh d => rw [g0] at p; exact p.elim
    | ow d =>
    rw [g0] at p
    cases d <;> first | exact p.elim | skip
    rename_i ds0
    obtain ⟨a, vs, h1, h2, h3, h4, h5, h6⟩ := r.owL g0
    refine ⟨.ref a, h1, ty_lst h3, A, ρ, al, σ, R, r, PostE.bind p fun d1 R1 v1 H1 ρ1 r1 e1 q1 p1 sz => ?_⟩
    cases d1 <;> first | exact p1.elim | skip
    rename_i k
    obtain ⟨ds, j, d, g, hd, hj, hp⟩ := popD_ok p1
    simp only [hp] at p1
    obtain ⟨a', vs', h1', h2', h3', h4', h5', h6'⟩ := r1.owL g
    rw [h2] at h2'
    cases h2'
    obtain ⟨v, hv, hr⟩ := h4'.get hd
    simp only at hj
    rw [← h4'.length] at hj
    obtain ⟨k1, k2, k3⟩ := line63 hj (sz (.L a) vs' (sq_lst h3'))
    refine ⟨a, vs', k, j, v, rfl, by rw [q1.int], h3', k1, k2, k3, hv, ?_⟩
    exact p1 v _ ρ1 (r1.updL g h2 (h4'.eraseIdx j)) (by
      show RD F ρ1 _ v d
      rw [r1.ownM _ h5']
      exact hr)
/-! append, extend -/
theorem snd_app {s : SE} (hv : PE X o (tVar i)) (hs : isStar e = false) (hbase : attributeBase o "append" X.env (eval o X.env) = eval o X.env) (hline : (apos.endLine == cpos.line) = true) (h : PE X e (tSE F W ck s)) :
    PS X (.Expr (.Call (.Attribute o "append" apos) [e] [] cpos) pos) (tSt F W ck fu (.app i s)) :=
  PS.by (ps_expr (pe_bm PySem.F.plainAttrs_list PySem.F.slot_list_append PySem.F.type_list_append mt_append hv (pa_cons h pa_nil (star_cons hs)) hbase (few_one hs) hline (star_cons hs) rfl) rfl) fun Dn σV H ⟨A, ρ, al, σ, R, r, p⟩ => by
    have p : PostS F A W (match gS σ i with
      | .ow (.lst _) => (evSE ck s σ R).bind fun p R => match gS p.2 i with
        | .ow (.lst ds) => if ds.length < sizeLine then .ok (.nx, sS p.2 i (.ow (.lst (ds ++ [p.1])))) R else .bad
        | _ => .bad
      | _ => .bad) Dn := p
    cases g0 : gS σ i with
    | no => rw [g0] at p; exact p.elim
    | sh d => rw [g0] at p; exact p.elim
    | ow d =>
    rw [g0] at p
    cases d <;> first | exact p.elim | skip
    rename_i ds0
    obtain ⟨a, vs, h1, h2, h3, h4, h5, h6⟩ := r.owL g0
    refine ⟨.ref a, h1, ty_lst h3, A, ρ, al, σ, R, r, ?_⟩
    simp only at p
    cases q : evSE ck s σ R with
    | exc c R' => rw [q] at p; exact fun H' ρ' σ' a => p ρ' al σ' σV H' a
    | bad => rw [q] at p; exact p
    | ok z R' =>
      obtain ⟨d, σ'⟩ := z
      rw [q] at p
      intro v H' ρ' r' q'
      simp only [Res.bind] at p
      cases g : gS σ' i with
      | no => rw [g] at p; exact p.elim
      | sh d => rw [g] at p; exact p.elim
      | ow d2 =>
        rw [g] at p
        cases d2 <;> first | exact p.elim | skip
        rename_i ds
        simp only at p
        split at p
        · rename_i hz
          obtain ⟨a', vs', h1', h2', h3', h4', h5', h6'⟩ := r'.owL g
          rw [h2] at h2'
          cases h2'
          exact ⟨a, vs', v, rfl, rfl, h3', by rw [h4'.length]; exact hz, p _ _ _ _ (r'.updL g h2 (h4'.append (.cons q' .nil)))⟩
        · exact p.elim
theorem snd_ext (hv : PE X o (tVar i)) (hs : isStar e = false) (hbase : attributeBase o "extend" X.env (eval o X.env) = eval o X.env) (hline : (apos.endLine == cpos.line) = true) (h : PE X e (tB F W ck x)) :
    PS X (.Expr (.Call (.Attribute o "extend" apos) [e] [] cpos) pos) (tSt F W ck fu (.ext i x)) :=
  PS.by (ps_expr (pe_bm PySem.F.plainAttrs_list PySem.F.slot_list_extend PySem.F.type_list_extend mt_extend hv (pa_cons h pa_nil (star_cons hs)) hbase (few_one hs) hline (star_cons hs) rfl) rfl) fun Dn σV H ⟨A, ρ, al, σ, R, r, p⟩ => by
    have p : PostS F A W (match gS σ i with
      | .ow (.lst ds) => (ev ck x σ R).bind fun y R => ofS (extD (.lst ds) y) i σ R
      | _ => .bad) Dn := p
    cases g0 : gS σ i with
    | no => rw [g0] at p; exact p.elim
    | sh d => rw [g0] at p; exact p.elim
    | ow d =>
    rw [g0] at p
    cases d <;> first | exact p.elim | skip
    rename_i ds
    obtain ⟨a, vs, h1, h2, h3, h4, h5, h6⟩ := r.owL g0
    refine ⟨.ref a, h1, ty_lst h3, A, ρ, al, σ, R, r, PostS.bind p fun d1 R1 v1 H1 ρ1 r1 e1 q1 p1 => ?_⟩
    cases d1 <;> first | exact p1.elim | skip
    rename_i es
    simp only [extD] at p1
    split at p1
    · rename_i hz
      obtain ⟨a', vs', h1', h2', h3', h4', h5', h6'⟩ := r1.owL g0
      rw [h2] at h2'
      cases h2'
      obtain ⟨b, us, rfl, hb, hu⟩ := q1.lst
      exact ⟨a, b, vs', us, rfl, rfl, h3', hb, by rw [h4'.length, RMs.length hu]; exact hz, p1 _ _ _ _ (r1.updL g0 h2 (h4'.append hu))⟩
    · exact p1.elim
/-! stores -/
theorem putL {d y v : D} {z : D} (h : putD d y v = some z) : ∃ ds k j, d = .lst ds ∧ y = .int k ∧ ixN ds.length k = some j ∧ z = .lst (ds.set j v) := by
  cases d <;> first | (cases h; done) | skip
  cases y <;> first | (cases h; done) | skip
  rename_i ds k
  simp only [putD] at h
  cases q : ixN ds.length k with
  | none => rw [q] at h; cases h
  | some j => rw [q] at h; cases h; exact ⟨ds, k, j, rfl, rfl, q, rfl⟩
def notSlc (e : Expr) : Bool := match e with | .Slice .. => false | _ => true
theorem subscript_asg {X : Cx} {o i : Expr} {p : Pos} (h : notSlc i = true) : ∀ v, assign (.Subscript o i p) X.env v = (do
      let ov ← holding [v] (eval o X.env)
      let iv ← holding [v, ov] (eval i X.env)
      standAt p
      holding [v, ov, iv] (setItem ov iv v)
      release [v, ov, iv] []) := by
  cases i <;> first | (intro _; rfl) | cases h
/-- the store itself, behind the value -/
theorem gSub_ok {k : Ex} {v : V} {d : D} {Q : L2.St → Hp → Prop} (r : Rel F A ρ al σ R σV H) (q : RM F A al ρ H v d) {o0 : D} (g : gS σ i = .ow o0)
    (hE : ∀ c R', (ev ck k σ R) = .exc c R' → ∀ H' ρ', Rel F A ρ' al σ R' σV H' → W c σV H') (hB : ev ck k σ R ≠ .bad)
    (hO : ∀ y R', ev ck k σ R = .ok y R' → ∃ z, putD o0 y d = some z ∧ ∀ ρ' H', Rel F A ρ' al (sS σ i (.ow z)) R' σV H' → Ext ρ H ρ' H' ∨ True → Q σV H') :
    gSub (tVar i) (tB F W ck k) rSetL v σV H Q := by
  obtain ⟨a, h1, h2, h3, h4, h5⟩ := r.ow g
  refine ⟨.ref a, h1, A, ρ, al, σ, R, r, ?_⟩
  cases z : ev ck k σ R with
  | exc c R' => exact fun H' ρ' a b => hE c R' z H' ρ' a
  | bad => exact hB z
  | ok y R' =>
    intro v1 H1 ρ1 r1 e1 q1
    obtain ⟨w, hw, hQ⟩ := hO y R' z
    obtain ⟨ds, kk, j, rfl, rfl, hj, rfl⟩ := putL hw
    obtain ⟨a', vs', h1', h2', h3', h4', h5', h6'⟩ := r1.owL g
    rw [h2] at h2'
    cases h2'
    refine ⟨a, vs', kk, j, rfl, q1.int, h3', by rw [h4'.length]; exact hj, hQ ρ1 _ (r1.updL g h2 (h4'.set j (RM.ext q e1))) (.inr trivial)⟩
theorem snd_sub {xk : Ex} {ek : Expr} {kp : Pos} (hns : notSlc ek = true) (hv : PE X o (tVar i)) (hk : PE X ek (tB F W ck xk)) (h : PE X e (tS F W ck x)) (hs : swapsWith e (some (.Subscript o ek kp)) pos.line X.env = pure false) (hw : swappedStores [.Subscript o ek kp] e X.env = pure none) :
    PS X (.Assign [.Subscript o ek kp] e pos) (tSt F W ck fu (.sub i xk x)) :=
  PS.by (ps_asg h (pg_sub hv hk set_list (subscript_asg hns)) hs hw rfl) fun Dn σV H ⟨A, ρ, al, σ, R, r, p⟩ => ⟨A, ρ, al, σ, R, r, PostS.bind (show PostS F A W ((stx x σ (ev ck x σ R)).bind fun d R => match gS σ i with
    | .ow o => (ev ck xk σ R).bind fun y R => ofS (putD o y d) i σ R
    | _ => .bad) Dn from p) fun d R1 v H1 ρ1 r1 e1 q1 p1 => by
    cases g : gS σ i with
    | no => rw [g] at p1; exact p1.elim
    | sh d => rw [g] at p1; exact p1.elim
    | ow o0 =>
      rw [g] at p1
      simp only at p1
      refine gSub_ok (k := xk) r1 q1 g (fun c R' z H' ρ' a => ?_) (fun z => ?_) fun y R' z => ?_
      · rw [z] at p1; exact p1 ρ' al σ σV H' a
      · rw [z] at p1; exact p1
      · rw [z] at p1
        simp only [Res.bind, ofS] at p1
        cases w : putD o0 y d with
        | none => rw [w] at p1; exact p1.elim
        | some z => rw [w] at p1; exact ⟨z, rfl, fun ρ' H' r' _ => p1 _ _ _ _ r'⟩⟩
/-! name op= value -/
theorem augA {o : Bop} {d y z : D} (h : augD o d y = some z) : ∃ i j, d = .int i ∧ y = .int j ∧ ((o = .add ∧ z = .int (i + j)) ∨ (o = .sub ∧ z = .int (i - j))) := by
  cases o <;> first | (cases h; done) | skip
  all_goals
    cases d <;> first | (cases h; done) | skip
    cases y <;> first | (cases h; done) | skip
    cases h
  · exact ⟨_, _, rfl, rfl, .inl ⟨rfl, rfl⟩⟩
  · exact ⟨_, _, rfl, rfl, .inr ⟨rfl, rfl⟩⟩
def opA : Bop → Operator
  | .add => .Add
  | _ => .Sub
def ipA : Bop → TIp
  | .add => ipI fun i j => i + j
  | _ => ipI fun i j => i - j
theorem pip (o : Bop) : PIp X (opA o) (ipA o) := by
  cases o <;> first | exact ip_add | exact ip_sub
theorem ipA_ok {o : Bop} {d y z : D} {v u : V} {Q : VK} (h : augD o d y = some z) (hv : RT F A al ρ H v d) (hu : RT F A al ρ H u y) (q : ∀ n, z = .int n → Q (.int n) H) : ipA o v u H Q := by
  obtain ⟨i, j, rfl, rfl, ⟨rfl, rfl⟩ | ⟨rfl, rfl⟩⟩ := augA h
  · exact ⟨i, j, hv.int, hu.int, q _ rfl⟩
  · exact ⟨i, j, hv.int, hu.int, q _ rfl⟩
theorem snd_aug {o : Bop} {py : Pos} (hN : X.N.Nodup) (hi : X.N[i]? = some y) (hx : Loc X.env.scope y) (hf : X.fn y = true ∨ X.env.scope.names.lookup y = some .local) (h : PE X e (tB F W ck x)) :
    PS X (.AugAssign (.Name y py) (opA o) e pos) (tSt F W ck fu (.aug i o x)) :=
  ⟨fun pins sh σV H Dn I ⟨A, ρ, al, σ, R, r, p⟩ => (ps_aug hN hi hx h (pip o) hf).run pins sh σV H Dn I (by
    have hl : i < σV.length := by rw [I.len]; exact (List.getElem?_eq_some_iff.mp hi).1
    have p : PostS F A W (match gS σ i with
      | .sh d => (ev ck x σ R).bind fun y R => match augD o d y with
        | some z => .ok (.nx, sS σ i (.sh z)) R
        | none => .bad
      | _ => .bad) Dn := p
    cases g : gS σ i with
    | no => rw [g] at p; exact p.elim
    | ow d => rw [g] at p; exact p.elim
    | sh d =>
      rw [g] at p
      obtain ⟨v, h1, h2⟩ := r.sh g
      refine ⟨v, h1, A, ρ, al, σ, R, r, PostS.bind p fun y R1 u H1 ρ1 r1 e1 q1 p1 => ?_⟩
      cases z : augD o d y with
      | none => rw [z] at p1; exact p1.elim
      | some w =>
        rw [z] at p1
        exact ipA_ok z (RT.ext (RM.rt h2) e1) q1 fun n e => by
          subst e
          exact p1 _ _ _ _ (r1.setSh hl (RD.int n)))⟩
end
end Cw

end
section
/-! CwS: loops, raise, stores to lists with identity. -/
namespace Cw
open PySem L2 PyProof.Rows PySem.W
section
variable {F : Fx} {A : Act} {W : XW} {ck : Nat → List D → RH → Res D} {fu : Nat} {X : Cx} {e o : Expr} {st : Stmt} {sts : List Stmt} {x : Ex} {ρ ρ1 ρ' : List Addr} {al : List (Option Addr)} {σ : List Sl} {R R' : RH} {σV : L2.St} {H H1 H' : Hp} {a p : Addr} {Dn : Ends} {pos apos cpos : Pos} {i : Nat} {y : Str}
/-! raise X() -/
theorem pmk_own0 {C : Addr} {bmB : List Value} {B newId initId : String} {x : Str} {p pos : Pos} (Fc : ExcBaseFacts B newId initId bmB) (q : PySem.W.excIn X.K C bmB newId = true) (gC : X.mg x = some (.ref C)) (kC : PySem.W.keepIn X.K (.ref C) = true) (r : Raises X (.ref C)) (hg : Gl X x)
    (hdb : (x == ("__debug__" : Str)) = false) : PMk X (.Call (.Name x p) [] [] pos) (fun _ H Q => Q (.ref C) none H) := by
  intro pins s σ H Q I h
  refine wpAny_Call_Name_kw (ld_glob I hg gC ?_ hdb)
  refine PySem.W.callWith_K0 I.kIn kC ?_
  obtain ⟨bm, N, nm, qn, bs, hdct, sn, sub, ab, col, dd, k0, k1, k2, k3, k5, mN, hC, hN, hni, T⟩ := exc_obj I.kIn q
  refine wpAny_call_exc_subT Fc T hC hN hni (fun h' e hm => ?_) (Nat.zero_le _)
  exact mk_of I hm r h (I.hok.gone hm.new)
theorem snd_raise {c : Nat} {C : Addr} (hc : X.calm = true) (tk : Takes X (XW.wx F W)) (he : PMk X e (fun _ H Q => Q (.ref C) none H)) (ca : F.ca c = some C) : PS X (.Raise (some e) none pos) (tSt F W ck fu (.raise c)) :=
  PS.by (ps_raise hc tk he) fun Dn σV H ⟨A, ρ, al, σ, R, r, p⟩ => ⟨c, C, rfl, ca, rfl, p ρ al σ σV H r⟩
/-! while -/
theorem snd_while {c : Expr} {body : List Stmt} {xc : Ex} {xb : Sms} (hp : PassesOwn (model X.prog X.w) X.A X.env X.xe) (hc : PT X c (tQ (tS F W ck xc))) (hb : PSs X body (tSts F W ck fu xb)) : PS X (.While c body [] pos) (tSt F W ck fu (.whl xc xb)) :=
  PS.by (ps_while hp hc hb) fun Dn σV H ⟨A, ρ, al, σ, R, r, p⟩ => by
    refine ⟨fun m σV H => ∃ ρ al σ R, Rel F A ρ al σ R σV H ∧ PostS F A W (whlL (fun σ R => ev ck xc σ R) (fun σ R => execs ck fu xb σ R) m σ R) Dn, ⟨fu, ρ, al, σ, R, r, p⟩, ?_⟩
    rintro m σV H ⟨ρ, al, σ, R, r, p⟩
    cases m with
    | zero => exact p.elim
    | succ m =>
      refine ⟨A, ρ, al, σ, R, r, ?_⟩
      simp only [whlL] at p
      cases q : ev ck xc σ R with
      | exc c R' =>
        rw [q] at p
        have : stx xc σ (Res.exc c R' : Res D) = .exc c R' := by
          cases xc <;> first | rfl | skip
          simp only [ev] at q
          cases z : (gS σ _).val with
          | none => rw [z] at q; cases q
          | some d => rw [z] at q; cases q
        rw [this]
        exact fun H' ρ' a _ => p ρ' al σ σV H' a
      | bad => rw [q] at p; exact p.elim
      | ok d R' =>
        rw [q] at p
        cases d <;> first | exact p.elim | skip
        rename_i b
        have := stx_bl r q
        rw [q] at this
        rw [this]
        intro v H' ρ' r' e' q'
        cases q'
        refine ⟨b, rfl, ?_⟩
        cases b with
        | false => exact p ρ' al σV H' r'
        | true =>
          rw [if_pos rfl]
          refine ⟨fun σV H => ∃ ρ al σ R, Rel F A ρ al σ R σV H ∧ PostS F A W (whlL (fun σ R => ev ck xc σ R) (fun σ R => execs ck fu xb σ R) m σ R) Dn, fun σ' H' h => ⟨m, Nat.lt_succ_self m, h⟩, A, ρ', al, σ, R', r', ?_⟩
          simp only at p
          cases q2 : execs ck fu xb σ R' with
          | exc c R2 => rw [q2] at p; exact p
          | bad => rw [q2] at p; exact p
          | ok z R2 =>
            obtain ⟨f, σ2⟩ := z
            rw [q2] at p
            cases f with
            | nx => exact fun ρ' al' σV' H' r' => ⟨ρ', al', σ2, R2, r', p⟩
            | ct => exact fun ρ' al' σV' H' r' => ⟨ρ', al', σ2, R2, r', p⟩
            | bk => exact p
            | rt d => exact p
/-! for: the walked one is kept -/
def Act.keep (A : Act) (O : List Addr) (ρ : List Addr) (H : Hp) : Act := { A with He := fun a => if a ∈ O then A.He a else H a, re := ρ }
theorem Rel.toKeep (r : Rel F A ρ al σ R σV H) : Rel F (A.keep (OO A ρ al) ρ H) ρ al σ R σV H := by
  refine ⟨r.ls, r.la, r.sl, r.rl, r.rf, r.nd, ⟨[], by simp [Act.keep]⟩, fun a h => ?_, fun a h n => absurd h n, fun a o h n => ?_, r.o0⟩
  · show (if a ∈ OO A ρ al then A.He a else H a) = none
    rw [if_pos (mem_OO.mpr (.inr (.inr h)))]
    exact r.newO a h
  · have h : (if a ∈ OO A ρ al then A.He a else H a) = some o := h
    split at h
    · refine r.fr a o h fun m => n ?_
      obtain ⟨e, he⟩ := r.pre
      show a ∈ ρ
      rw [he]
      exact List.mem_append_left _ m
    · exact h
theorem Rel.ofKeep {ρ0 : List Addr} {al0 : List (Option Addr)} {H0 : Hp} {σ0 : List Sl} {R0 : RH} {σV0 : L2.St} (r0 : Rel F A ρ0 al0 σ0 R0 σV0 H0) (r : Rel F (A.keep (OO A ρ0 al0) ρ0 H0) ρ al σ R σV H) : Rel F A ρ al σ R σV H := by
  have k : ∀ a, (A.keep (OO A ρ0 al0) ρ0 H0).He a = none → A.He a = none := fun a h => by
    have h : (if a ∈ OO A ρ0 al0 then A.He a else H0 a) = none := h
    split at h
    · exact h
    · exact r0.he h
  refine ⟨r.ls, r.la, r.sl, r.rl, r.rf, r.nd, ?_, fun a h => k a (r.newO a h), fun a h n => ?_, fun a o h n => ?_, r.o0⟩
  · obtain ⟨e, he⟩ := r.pre
    obtain ⟨e', he'⟩ := r0.pre
    have he : ρ = ρ0 ++ e := he
    exact ⟨e' ++ e, by rw [he, he', List.append_assoc]⟩
  · by_cases q : a ∈ ρ0
    · exact r0.newR a q n
    · exact k a (r.newR a h q)
  · have n0 : a ∉ ρ0 := fun m => by
      have := r0.newR a m n
      rw [h] at this
      cases this
    refine r.fr a o ?_ n0
    show (if a ∈ OO A ρ0 al0 then A.He a else H0 a) = some o
    split
    · exact h
    · exact r0.fr a o h n
theorem keep_mask {ρ0 : List Addr} {al0 : List (Option Addr)} {H0 : Hp} {σ0 : List Sl} {R0 : RH} {σV0 : L2.St} (r0 : Rel F A ρ0 al0 σ0 R0 σV0 H0) (r : Rel F (A.keep (OO A ρ0 al0) ρ0 H0) ρ al σ R σV H) : ∀ a u, mask H0 (OO A ρ0 al0) a = some u → mask H (OO (A.keep (OO A ρ0 al0) ρ0 H0) ρ al) a = some u := fun a u h => by
  obtain ⟨h1, h2⟩ := mask_some h
  have hh : (A.keep (OO A ρ0 al0) ρ0 H0).He a = some u := by
    show (if a ∈ OO A ρ0 al0 then A.He a else H0 a) = some u
    rw [if_neg h2]
    exact h1
  have nre : a ∉ ρ0 := fun m => h2 (mem_OO.mpr (.inr (.inl m)))
  rw [mask_out]
  · exact r.fr a u hh nre
  · intro m
    rcases mem_OO.mp m with m | m | m
    · exact h2 (mem_OO.mpr (.inl m))
    · have := r.newR a m nre
      rw [hh] at this
      cases this
    · have := r.newO a m
      rw [hh] at this
      cases this
theorem PostS.ofKeep {ρ0 : List Addr} {al0 : List (Option Addr)} {H0 : Hp} {σ0 : List Sl} {R0 : RH} {σV0 : L2.St} {r : Res (Fl × List Sl)} (r0 : Rel F A ρ0 al0 σ0 R0 σV0 H0) (p : PostS F A W r Dn) : PostS F (A.keep (OO A ρ0 al0) ρ0 H0) W r Dn := by
  cases r with
  | ok z R =>
    obtain ⟨f, σ⟩ := z
    cases f with
    | nx => exact fun ρ' al' σV' H' r' => p ρ' al' σV' H' (r0.ofKeep r')
    | bk => exact fun ρ' al' σV' H' r' => p ρ' al' σV' H' (r0.ofKeep r')
    | ct => exact fun ρ' al' σV' H' r' => p ρ' al' σV' H' (r0.ofKeep r')
    | rt d => exact fun v ρ' al' σ'' σV' H' r' q => p v ρ' al' σ'' σV' H' (r0.ofKeep r') q
  | exc c R => exact fun ρ' al' σ'' σV' H' r' => p ρ' al' σ'' σV' H' (r0.ofKeep r')
  | bad => exact p
theorem item_for {A1 : Act} {ρ1 : List Addr} {al1 : List (Option Addr)} {it : Item} {d : D} {Hc Hx : Hp} {v : V} {its : List Item} {i : Nat} (h : ItR F A1 al1 ρ1 H1 it d) (hi : its[i]? = some it) (y : YI its i Hc v Hx) (pre : ∃ e, ρ = ρ1 ++ e) (mk : ∀ a u, mask H1 (OO A1 ρ1 al1) a = some u → mask Hc (OO A ρ al) a = some u) (r : Rel F A ρ al σ R σV Hc) :
    Rel F A ρ al σ R σV Hx ∧ RM F A al ρ Hx v d := by
  unfold YI at y
  rw [hi] at y
  cases h with
  | one q =>
    obtain ⟨rfl, rfl⟩ := y
    exact ⟨r, RD.mono pre mk q⟩
  | two q1 q2 =>
    obtain ⟨T, rfl, hT, rfl⟩ := y
    exact ⟨r.grow (upd_keep hT), RM.tup r hT (.cons (RD.mono pre mk q1) (.cons (RD.mono pre mk q2) .nil))⟩
def forF (ck : Nat → List D → RH → Res D) (fu : Nat) (tg : Tg) (body : Sms) : D → List Sl → RH → Res (Fl × List Sl) := fun d σ R => match setT tg d σ with
  | none => .bad
  | some σ1 => execs ck fu body σ1 R
theorem exec_for (tg : Tg) (it : Itr) (body : Sms) (σ : List Sl) (R : RH) : exec ck fu (.for_ tg it body) σ R = (evis ck true it σ R).bind fun ds R => forL (forF ck fu tg body) ds σ R := rfl
theorem snd_for {tg iter : Expr} {body : List Stmt} {xt : Tg} {it : Itr} {xb : Sms} (hp : PassesOwn (model X.prog X.w) X.A X.env X.xe) (hc : X.calm = true) (hi : PI X tg iter (tI F W ck true it)) (hg : PG X tg (gT F xt)) (hb : PSs X body (tSts F W ck fu xb))
    (hs : ∀ x, foldedSetIterable iter X.env x = pure x) : PS X (.For tg iter body [] pos) (tSt F W ck fu (.for_ xt it xb)) :=
  PS.by (ps_for hp hc hi hg hb hs) fun Dn σV H ⟨A, ρ, al, σ, R, r, p⟩ => ⟨A, ρ, al, σ, R, r, by
    rw [exec_for] at p
    refine PostS.bind p fun ds R1 J H1 ρ1 r1 e1 w1 p1 => ?_
    obtain ⟨its, gs, al2, src, hlen, walk⟩ := w1
    have pre1 : ∀ {ρ : List Addr} {al : List (Option Addr)} {σ : List Sl} {R : RH} {σV : L2.St} {H : Hp}, Rel F (A.keep (OO A ρ1 al) ρ1 H1) ρ al σ R σV H → True := fun _ => trivial
    refine for_it walk (fun i σV H => ∃ ρ' al' σ' R', Rel F (A.keep (OO A ρ1 al) ρ1 H1) ρ' al' σ' R' σV H ∧ (∃ e, ρ' = ρ1 ++ e) ∧ PostS F (A.keep (OO A ρ1 al) ρ1 H1) W (forL (forF ck fu xt xb) (ds.drop i) σ' R') Dn)
      ⟨ρ1, al, σ, R1, r1.toKeep, ⟨[], by simp⟩, p1.ofKeep r1⟩ (fun i σV H _ ⟨ρ', al', σ', R', r', pr, _⟩ q hq => ?_) ?_ ?_
    · rcases src q hq with h | ⟨z, _⟩
      · have mk := keep_mask r1 r'
        obtain ⟨S, vs⟩ := q
        cases S with
        | L a => exact sqL_of (sqL_mono mk h)
        | T a => exact sqT_of (sqT_mono mk h)
      · cases z
    · rintro i x σV' Hc Hx hi ⟨ρ', al', σ', R', r', pr, q⟩ y
      obtain ⟨d, hd, hit⟩ := al2.get (List.getElem?_eq_getElem hi)
      obtain ⟨rx, mx⟩ := item_for hit (List.getElem?_eq_getElem hi) y pr (keep_mask r1 r') r'
      have hdrop : ds.drop i = d :: ds.drop (i + 1) := by
        obtain ⟨h1, h2⟩ := List.getElem?_eq_some_iff.mp hd
        rw [List.drop_eq_getElem_cons h1, h2]
      rw [hdrop] at q
      simp only [forL] at q
      cases z : setT xt d σ' with
      | none => simp only [forF, z] at q; exact q.elim
      | some σ2 =>
        refine ⟨_, ρ', al', σ', R', d, σ2, rx, mx, z, fun σV2 al2 r2 _ _ _ _ => ⟨_, ρ', al2, σ2, R', r2, ?_⟩⟩
        simp only [forF, z] at q
        cases q2 : execs ck fu xb σ2 R' with
        | exc c R2 => rw [q2] at q; exact q
        | bad => rw [q2] at q; exact q
        | ok z R2 =>
          obtain ⟨f, σ3⟩ := z
          rw [q2] at q
          have ext : ∀ {ρ' : List Addr} {al' : List (Option Addr)} {σ' : List Sl} {R' : RH} {σV : L2.St} {H : Hp}, Rel F (A.keep (OO A ρ1 al) ρ1 H1) ρ' al' σ' R' σV H → ∃ e, ρ' = ρ1 ++ e := fun r => r.pre
          cases f with
          | nx => exact fun ρ' al' σV' H' r' => ⟨ρ', al', σ3, R2, r', ext r', q⟩
          | ct => exact fun ρ' al' σV' H' r' => ⟨ρ', al', σ3, R2, r', ext r', q⟩
          | bk => exact q
          | rt d => exact q
    · rintro σV' Hc ⟨ρ', al', σ', R', r', pr, q⟩
      have hn : ds.length = its.length := al2.length.symm
      rw [List.drop_eq_nil_of_le (Nat.le_of_eq hn)] at q
      exact q ρ' al' σV' Hc r'⟩
/-! lists with identity -/
theorem snd_rsb {xr xk : Ex} {ek : Expr} {kp : Pos} (hns : notSlc ek = true) (ho : PE X o (tB F W ck xr)) (hk : PE X ek (tB F W ck xk)) (h : PE X e (tS F W ck x)) (hs : swapsWith e (some (.Subscript o ek kp)) pos.line X.env = pure false) (hw : swappedStores [.Subscript o ek kp] e X.env = pure none) :
    PS X (.Assign [.Subscript o ek kp] e pos) (tSt F W ck fu (.rsb xr xk x)) :=
  PS.by (ps_asg h (pg_sub ho hk set_list (subscript_asg hns)) hs hw rfl) fun Dn σV H ⟨A, ρ, al, σ, R, r, p⟩ => ⟨A, ρ, al, σ, R, r, PostS.bind (show PostS F A W ((stx x σ (ev ck x σ R)).bind fun d R => (ev ck xr σ R).bind fun q R => (ev ck xk σ R).bind fun y R => match q, y with
    | .ref n, .int k => match R[n]? with
      | some ds => match ixN ds.length k with
        | some j => .ok (.nx, σ) (R.set n (ds.set j d))
        | none => .bad
      | none => .bad
    | _, _ => .bad) Dn from p) fun d R1 v H1 ρ1 r1 e1 q1 p1 => ⟨A, ρ1, al, σ, R1, r1, PostS.bind p1 fun q R2 u H2 ρ2 r2 e2 q2 p2 => ⟨A, ρ2, al, σ, R2, r2, PostS.bind p2 fun y R3 w H3 ρ3 r3 e3 q3 p3 => by
    cases q <;> first | exact p3.elim | skip
    cases y <;> first | exact p3.elim | skip
    rename_i n k
    simp only at p3
    cases z : R3[n]? with
    | none => rw [z] at p3; exact p3.elim
    | some ds =>
      rw [z] at p3
      simp only at p3
      cases z2 : ixN ds.length k with
      | none => rw [z2] at p3; exact p3.elim
      | some j =>
        rw [z2] at p3
        obtain ⟨a, rfl, ha⟩ := (RT.ext q2 e3).ref
        obtain ⟨vs, h1, h2⟩ := r3.rf n a ds ha z
        exact ⟨a, vs, k, j, rfl, q3.int, h1, by rw [h2.length]; exact z2, p3 _ _ _ _ (r3.updRf ha (h2.set j (RM.ext (RM.ext q1 e2) e3)))⟩⟩⟩⟩
theorem snd_rpp {xr xk : Ex} (hK : F.K = X.K) (ho : PE X o (tB F W ck xr)) (hs : isStar e = false) (hbase : attributeBase o "pop" X.env (eval o X.env) = eval o X.env) (hline : (apos.endLine == cpos.line) = true) (h : PE X e (tB F W ck xk)) :
    PS X (.Expr (.Call (.Attribute o "pop" apos) [e] [] cpos) pos) (tSt F W ck fu (.rpp xr xk)) :=
  PS.by (ps_expr (pe_bm PySem.F.plainAttrs_list PySem.F.slot_list_pop PySem.F.type_list_pop mt_popAt ho (pa_cons (PE.sz h) pa_nil (star_cons hs)) hbase (few_one hs) hline (star_cons hs) rfl) rfl) fun Dn σV H ⟨A, ρ, al, σ, R, r, p⟩ => ⟨A, ρ, al, σ, R, r, by
    have p : PostS F A W ((ev ck xr σ R).bind fun q R => match q with
      | .ref n => (ev ck xk σ R).bind fun y R => match y with
        | .int k => match R[n]? with
          | some ds => match ixN ds.length k with
            | some j => .ok (.nx, σ) (R.set n (ds.eraseIdx j))
            | none => .bad
          | none => .bad
        | _ => .bad
      | _ => .bad) Dn := p
    refine PostS.bind p fun q R1 v H1 ρ1 r1 e1 q1 p1 => ?_
    cases q <;> first | exact p1.elim | skip
    rename_i n
    obtain ⟨a, rfl, ha⟩ := q1.ref
    obtain ⟨vs, hv⟩ := r1.ltR (List.mem_of_getElem? ha)
    refine ⟨ty_lst hv, A, ρ1, al, σ, R1, r1, PostS.bind p1 fun y R2 w H2 ρ2 r2 e2 q2 p2 sz => ?_⟩
    cases y <;> first | exact p2.elim | skip
    rename_i k
    simp only at p2
    cases z : R2[n]? with
    | none => rw [z] at p2; exact p2.elim
    | some ds =>
      rw [z] at p2
      simp only at p2
      cases z2 : ixN ds.length k with
      | none => rw [z2] at p2; exact p2.elim
      | some j =>
        rw [z2] at p2
        have ha2 := pre_get e2.pre ha
        obtain ⟨us, h1, h2⟩ := r2.rf n a ds ha2 z
        rw [← h2.length] at z2
        obtain ⟨k1, k2, k3⟩ := line63 z2 (sz (.L a) us (sq_lst h1))
        have hj : j < us.length := (ixN_seq z2).2.1
        exact ⟨a, us, k, j, us[j], rfl, by rw [q2.int], h1, k1, k2, k3, List.getElem?_eq_getElem hj, p2 _ _ _ _ (r2.updRf ha2 (h2.eraseIdx j))⟩⟩
end
end Cw

end
section
/-! CwT: a, b = x, y. -/
namespace Cw
open PySem L2 PyProof.Rows PySem.W
inductive PF (F : Fx) (ρ : List Addr) (Hm H : Hp) : List (Nat × Bool) → List Addr → List V → List D → Prop
  | nil : PF F ρ Hm H [] [] [] []
  | sh {i : Nat} {v : V} {d : D} {is : List (Nat × Bool)} {ps : List Addr} {vs : List V} {ds : List D} : RD F ρ Hm v d → PF F ρ Hm H is ps vs ds → PF F ρ Hm H ((i, false) :: is) ps (v :: vs) (d :: ds)
  | ow {i : Nat} {p : Addr} {d : D} {is : List (Nat × Bool)} {ps : List Addr} {vs : List V} {ds : List D} : OwR F ρ Hm H p d → PF F ρ Hm H is ps vs ds → PF F ρ Hm H ((i, true) :: is) (p :: ps) (.ref p :: vs) (d :: ds)
def Act.adds (A : Act) : List Addr → Act
  | [] => A
  | p :: ps => (A.adds ps).add p
def setV : List (Nat × Bool) → List V → L2.St → L2.St
  | (i, _) :: is, v :: vs, σ => setV is vs (σ.set i (some v))
  | _, _, σ => σ
theorem adds_mem {A : Act} {a : Addr} : ∀ {ps : List Addr}, a ∈ (A.adds ps).O0 ↔ a ∈ ps ∨ a ∈ A.O0
  | [] => by simp [Act.adds]
  | p :: ps => by
    show a ∈ p :: (A.adds ps).O0 ↔ _
    rw [List.mem_cons, List.mem_cons, adds_mem (ps := ps), or_assoc]
theorem adds_he {A : Act} : ∀ {ps : List Addr}, (A.adds ps).He = A.He ∧ (A.adds ps).re = A.re
  | [] => ⟨rfl, rfl⟩
  | p :: ps => adds_he (ps := ps)
section
variable {F : Fx} {A A' : Act} {W : XW} {ck : Nat → List D → RH → Res D} {fu : Nat} {X : Cx} {e : Expr} {es : List Expr} {x : Ex} {xs : Exs} {ρ ρ1 ρ' : List Addr} {al : List (Option Addr)} {σ : List Sl} {R R' : RH} {σV : L2.St} {H H1 H' Hm Hm' : Hp} {a p : Addr} {Dn : Ends} {pos : Pos} {i : Nat} {y : Str} {is : List (Nat × Bool)} {ps : List Addr} {vs : List V} {ds : List D}
theorem PF.mono (k : ∀ b o, Hm b = some o → Hm' b = some o) (kh : ∀ b o, H b = some o → H1 b = some o) (pre : ∃ e, ρ1 = ρ ++ e) (h : PF F ρ Hm H is ps vs ds) : PF F ρ1 Hm' H1 is ps vs ds := by
  induction h with
  | nil => exact .nil
  | sh q _ ih => exact .sh (q.mono pre k) ih
  | @ow i p d is ps vs ds q _ ih =>
    refine .ow ?_ ih
    cases d <;> first | exact False.elim q | (obtain ⟨us, q4, q5⟩ := q; exact ⟨us, kh _ _ q4, q5.mono pre k⟩)
theorem Rel.congrO (r : Rel F A ρ al σ R σV H) (h : ∀ a, a ∈ A.O0 ↔ a ∈ A'.O0) (h1 : A'.He = A.He) (h2 : A'.re = A.re) : Rel F A' ρ al σ R σV H := by
  have hm : mask H (OO A ρ al) = mask H (OO A' ρ al) := mask_congr fun a => by rw [mem_OO, mem_OO, h a]
  refine ⟨r.ls, r.la, ?_, r.rl, ?_, r.nd, by rw [h2]; exact r.pre, by rw [h1]; exact r.newO, by rw [h1, h2]; exact r.newR, by rw [h1, h2]; exact r.fr, fun a q => r.o0 a ((h a).mpr q)⟩
  · rw [← hm]; exact r.sl
  · rw [← hm]; exact r.rf
theorem oo_congr (h : ∀ a, a ∈ A.O0 ↔ a ∈ A'.O0) : mask H (OO A ρ al) = mask H (OO A' ρ al) := mask_congr fun a => by rw [mem_OO, mem_OO, h a]
def PostP (F : Fx) (A : Act) (al : List (Option Addr)) (W : XW) (σ : List Sl) (σV : L2.St) (ρ : List Addr) (H : Hp) (is : List (Nat × Bool)) (r : Res (List D)) (Q : List V → Hp → Prop) : Prop := match r with
  | .ok ds R' => ∀ vs H' ρ' ps, Rel F (A.adds ps) ρ' al σ R' σV H' → Ext ρ H ρ' H' → (∀ p ∈ ps, H p = none) → ps.Nodup → PF F ρ' (mask H' (OO (A.adds ps) ρ' al)) H' is ps vs ds → Q vs H'
  | .exc c R' => ∀ H' ρ' A', Rel F A' ρ' al σ R' σV H' → (∀ σ' ρ' al' H', Rel F A' ρ' al' σ' R' σV H' → Rel F A ρ' al' σ' R' σV H') → W c σV H'
  | .bad => False
def tP (F : Fx) (W : XW) (ck : Nat → List D → RH → Res D) (is : List (Nat × Bool)) (xs : Exs) : TA := fun σV H Q => ∃ A ρ al σ R, Rel F A ρ al σ R σV H ∧ PostP F A al W σ σV ρ H is (evP ck is xs σ R) Q
theorem snd_nilP : PA X [] (tP F W ck [] .nil) := PA.by pa_nil fun σV H Q ⟨A, ρ, al, σ, R, r, p⟩ => p [] H ρ [] r Ext.refl (fun _ h => nomatch h) List.nodup_nil .nil
theorem snd_consPs {i : Nat} (hs : isStar e = false) (h : PE X e (tS F W ck x)) (t : PA X es (tP F W ck is xs)) : PA X (e :: es) (tP F W ck ((i, false) :: is) (.cons x xs)) :=
  PA.by (pa_cons h t (star_cons hs)) fun σV H Q ⟨A, ρ, al, σ, R, r, p⟩ => ⟨A, ρ, al, σ, R, r, by
    have p : PostP F A al W σ σV ρ H ((i, false) :: is) ((stx x σ (ev ck x σ R)).bind fun d R => if false = true ∧ ownable d = false then .bad else (evP ck is xs σ R).bind fun ds R => .ok (d :: ds) R) Q := p
    cases q : stx x σ (ev ck x σ R) with
    | bad => rw [q] at p; exact p
    | exc c R1 => rw [q] at p; exact fun H' ρ' r' _ => p H' ρ' A r' fun _ _ _ _ h => h
    | ok d R1 =>
      rw [q] at p
      refine Post.okI fun v H1 ρ1 r1 e1 q1 => ⟨A, ρ1, al, σ, R1, r1, ?_⟩
      simp only [Res.bind] at p
      rw [if_neg (fun h => Bool.false_ne_true h.1)] at p
      cases q2 : evP ck is xs σ R1 with
      | bad => rw [q2] at p; exact p
      | exc c R2 => rw [q2] at p; exact p
      | ok ds R2 =>
        rw [q2] at p
        intro vs H2 ρ2 ps r2 e2 hn nd pf
        refine p (v :: vs) H2 ρ2 ps r2 (e1.trans e2) (fun b hb => e1.none r1 (hn b hb)) nd (.sh ?_ pf)
        refine RD.mono e2.pre (fun a u h => ?_) q1
        obtain ⟨h1, h2⟩ := mask_some (e2.mask a u h)
        obtain ⟨h3, _⟩ := mask_some h
        rw [mask_out fun m => ?_]
        · exact h1
        · rcases mem_OO.mp m with m | m
          · rcases adds_mem.mp m with m | m
            · rw [hn a m] at h3; cases h3
            · exact h2 (mem_OO.mpr (.inl m))
          · exact h2 (mem_OO.mpr (.inr m))⟩
theorem snd_consPo {i : Nat} (hs : isStar e = false) (h : PE X e (tF F W ck x)) (t : PA X es (tP F W ck is xs)) : PA X (e :: es) (tP F W ck ((i, true) :: is) (.cons x xs)) :=
  PA.by (pa_cons h t (star_cons hs)) fun σV H Q ⟨A, ρ, al, σ, R, r, p⟩ => ⟨A, ρ, al, σ, R, r, by
    have p : PostP F A al W σ σV ρ H ((i, true) :: is) ((ev ck x σ R).bind fun d R => if true = true ∧ ownable d = false then .bad else (evP ck is xs σ R).bind fun ds R => .ok (d :: ds) R) Q := p
    cases q : ev ck x σ R with
    | bad => rw [q] at p; exact p
    | exc c R1 => rw [q] at p; exact fun H' ρ' r' _ => p H' ρ' A r' fun _ _ _ _ h => h
    | ok d R1 =>
      rw [q] at p
      have ho : ownable d = true := by
        cases z : ownable d with
        | true => rfl
        | false =>
          simp only [Res.bind] at p
          rw [if_pos ⟨trivial, z⟩] at p
          exact p.elim
      refine ⟨ho, ?_⟩
      intro b H1 ρ1 r1 e1 hb ow
      refine ⟨A.add b, ρ1, al, σ, R1, r1, ?_⟩
      simp only [Res.bind] at p
      split at p
      · exact p.elim
      · cases q2 : evP ck is xs σ R1 with
        | bad => rw [q2] at p; exact p
        | exc c R2 =>
          rw [q2] at p
          exact fun H' ρ' A' r' k => p H' ρ' A' r' fun σ' ρ' al' H' h => (k σ' ρ' al' H' h).dropO
        | ok ds R2 =>
          rw [q2] at p
          intro vs H2 ρ2 ps r2 e2 hn nd pf
          have cg : ∀ c, c ∈ ((A.add b).adds ps).O0 ↔ c ∈ (A.adds (b :: ps)).O0 := fun c => by
            rw [adds_mem, adds_mem]
            show c ∈ ps ∨ c ∈ b :: A.O0 ↔ c ∈ b :: ps ∨ c ∈ A.O0
            rw [List.mem_cons, List.mem_cons]
            constructor
            · rintro (h | h | h)
              · exact .inl (.inr h)
              · exact .inl (.inl h)
              · exact .inr h
            · rintro ((h | h) | h)
              · exact .inr (.inl h)
              · exact .inl h
              · exact .inr (.inr h)
          have hb1 : H1 b ≠ none := (r1.o0 b List.mem_cons_self).1
          have nb : b ∉ ps := fun m => hb1 (hn b m)
          obtain ⟨e3, e4⟩ := adds_he (A := A.add b) (ps := ps)
          obtain ⟨e5, e6⟩ := adds_he (A := A) (ps := b :: ps)
          refine p (.ref b :: vs) H2 ρ2 (b :: ps) (r2.congrO cg (e5.trans e3.symm) (e6.trans e4.symm)) (e1.trans e2) (fun c hc => ?_) (List.nodup_cons.mpr ⟨nb, nd⟩) ?_
          · rcases List.mem_cons.mp hc with rfl | hc
            · exact hb
            · exact e1.none r1 (hn c hc)
          · rw [← oo_congr cg]
            refine .ow ?_ pf
            have k : ∀ a u, mask H1 (OO (A.add b) ρ1 al) a = some u → mask H2 (OO ((A.add b).adds ps) ρ2 al) a = some u := fun a u h => by
              obtain ⟨h1, h2⟩ := mask_some (e2.mask a u h)
              obtain ⟨h3, _⟩ := mask_some h
              rw [mask_out fun m => ?_]
              · exact h1
              · rcases mem_OO.mp m with m | m
                · rcases adds_mem.mp m with m | m
                  · rw [hn a m] at h3; cases h3
                  · exact h2 (mem_OO.mpr (.inl m))
                · exact h2 (mem_OO.mpr (.inr m))
            have nb1 := (r1.o0 b List.mem_cons_self).2.1
            cases d <;> first | exact False.elim ow | (obtain ⟨us, q4, q5⟩ := ow; exact ⟨us, e2.keep _ _ q4 nb1, q5.mono e2.pre k⟩)⟩
theorem setOw_mask {p : Addr} {i : Nat} : ∀ b o, mask H (OO (A.add p) ρ al) b = some o → mask H (OO A ρ (al.set i (some p))) b = some o := fun b o h => by
  obtain ⟨h1, h2⟩ := mask_some h
  rw [mask_out fun m => h2 ?_]
  · exact h1
  · rcases mem_OO.mp m with m | m | m
    · exact mem_add.mpr (.inr (mem_OO.mpr (.inl m)))
    · exact mem_add.mpr (.inr (mem_OO.mpr (.inr (.inl m))))
    · rcases owns_set_some m with m | m
      · exact mem_add.mpr (.inl m)
      · exact mem_add.mpr (.inr (mem_OO.mpr (.inr (.inr m))))
theorem setV_len : ∀ (is : List (Nat × Bool)) (vs : List V) (σ : L2.St), (setV is vs σ).length = σ.length
  | [], _, _ => rfl
  | _ :: _, [], _ => rfl
  | (i, _) :: is, v :: vs, σ => by rw [setV, setV_len is vs, List.length_set]
theorem setsP (q : PF F ρ Hm H is ps vs ds) : ∀ {al : List (Option Addr)} {σ : List Sl} {σV : L2.St}, Rel F (A.adds ps) ρ al σ R σV H → (∀ b o, Hm b = some o → mask H (OO (A.adds ps) ρ al) b = some o) → (∀ z ∈ is, z.1 < σV.length) → (∀ p ∈ ps, A.He p = none ∧ p ∉ A.O0) → ps.Nodup →
    ∃ al', Rel F A ρ al' (setP is ds σ) R (setV is vs σV) H := by
  have nil : ∃ e : List Addr, ρ = ρ ++ e := ⟨[], by simp⟩
  induction q with
  | nil => exact fun {al σ σV} r _ _ _ _ => ⟨al, r⟩
  | @sh i v d is ps vs ds q _ ih =>
    intro al σ σV r k hi hp nd
    exact ih (r.setSh (hi _ List.mem_cons_self) (RD.mono nil k q)) (fun b o h => mask_less (fun a h => owns_set_mem h) b o (k b o h)) (fun z hz => by rw [List.length_set]; exact hi z (List.mem_cons_of_mem _ hz)) hp nd
  | @ow i p d is ps vs ds q _ ih =>
    intro al σ σV r k hi hp nd
    obtain ⟨h1, h2⟩ := hp p List.mem_cons_self
    obtain ⟨n1, n2⟩ := List.nodup_cons.mp nd
    have r : Rel F ((A.adds ps).add p) ρ al σ R σV H := r
    obtain ⟨e3, e4⟩ := adds_he (A := A) (ps := ps)
    exact ih (r.setOw (hi _ List.mem_cons_self) (by rw [e3]; exact h1) (fun m => (adds_mem.mp m).elim n1 h2) (q.mono k)) (fun b o h => setOw_mask b o (k b o h)) (fun z hz => by rw [List.length_set]; exact hi z (List.mem_cons_of_mem _ hz)) (fun z hz => hp z (List.mem_cons_of_mem _ hz)) n2
theorem evP_len : ∀ {is : List (Nat × Bool)} {xs : Exs} {σ : List Sl} {R R' : RH} {ds : List D}, evP ck is xs σ R = .ok ds R' → ds.length = is.length
  | [], .nil, σ, R, R', ds, h => by simp only [evP] at h; cases h; rfl
  | [], .cons _ _, _, _, _, _, h => by simp only [evP] at h; cases h
  | (_, _) :: _, .nil, _, _, _, _, h => by simp only [evP] at h; cases h
  | (i, b) :: is, .cons x xs, σ, R, R', ds, h => by
    simp only [evP] at h
    obtain ⟨d, R1, _, h2⟩ := ok_bind h
    split at h2
    · cases h2
    · obtain ⟨l, R2, h3, h4⟩ := ok_bind h2
      cases h4
      exact congrArg (· + 1) (evP_len h3)
theorem PF.len (h : PF F ρ Hm H is ps vs ds) : vs.length = is.length := by
  induction h with
  | nil => rfl
  | sh _ _ ih => exact congrArg (· + 1) ih
  | ow _ _ ih => exact congrArg (· + 1) ih
theorem par_fin {Q : List V → Hp → Prop} (h : tSt F W ck fu (.par is xs) Dn σV H) (hl : ∀ z ∈ is, z.1 < σV.length)
    (hQ : ∀ (A : Act) vs H1, vs.length = is.length → (∀ H2, (∀ b o, H1 b = some o → H2 b = some o) → Dn.nx (setV is vs σV) H2) → Q vs H1) : tP F W ck is xs σV H Q := by
  obtain ⟨A, ρ, al, σ, R, r, p⟩ := h
  refine ⟨A, ρ, al, σ, R, r, ?_⟩
  have p : PostS F A W ((evP ck is xs σ R).bind fun ds R => .ok (.nx, setP is ds σ) R) Dn := p
  cases q : evP ck is xs σ R with
  | bad => rw [q] at p; exact p
  | exc c R1 => rw [q] at p; exact fun H' ρ' A' r' k => p ρ' al σ σV H' (k σ ρ' al H' r')
  | ok ds R1 =>
    rw [q] at p
    intro vs H1 ρ1 ps r1 e1 hn nd pf
    refine hQ A vs H1 pf.len fun H2 kh => ?_
    have r2 := r1.grow kh
    have k : ∀ b o, mask H1 (OO (A.adds ps) ρ1 al) b = some o → mask H2 (OO (A.adds ps) ρ1 al) b = some o := (ext_grow (ρ := ρ1) kh).mask
    obtain ⟨al', r3⟩ := setsP (pf.mono k kh ⟨[], by simp⟩) r2 (fun _ _ h => h) hl (fun p hp => ⟨r.he (hn p hp), r.notO0 (hn p hp)⟩) nd
    exact p _ _ _ _ r3
/-! the two ways of the stores -/
theorem snd_par2 {i j : Nat} {b c : Bool} {x y : Str} {a a2 : Expr} {px py pt : Pos} {kt k2 pt2} (hc : X.calm = true) (hN : X.N.Nodup) (hi : X.N[i]? = some x) (hj : X.N[j]? = some y) (hij : i ≠ j)
    (hx : X.env.scope.names.lookup x = some .local) (hy : X.env.scope.names.lookup y = some .local) (ha : PA X [a, a2] (tP F W ck [(i, b), (j, c)] xs))
    (hw : swappedStores [.Tuple [.Name x px, .Name y py] kt pt] (.Tuple [a, a2] k2 pt2) X.env = pure (some [x, y])) :
    PS X (.Assign [.Tuple [.Name x px, .Name y py] kt pt] (.Tuple [a, a2] k2 pt2) pos) (tSt F W ck fu (.par [(i, b), (j, c)] xs)) :=
  ⟨fun pins sh σV H Dn I q => (ps_par hc hN hi hj hij hx hy ha hw rfl).run pins sh σV H Dn I (by
    have l1 : i < σV.length := by rw [I.len]; exact (List.getElem?_eq_some_iff.mp hi).1
    have l2 : j < σV.length := by rw [I.len]; exact (List.getElem?_eq_some_iff.mp hj).1
    refine par_fin q (fun z hz => ?_) fun A vs H1 hl k => ?_
    · rcases List.mem_cons.mp hz with rfl | hz
      · exact l1
      · rw [List.mem_singleton.mp hz]; exact l2
    · match vs, hl with
      | [v, w], _ => exact ⟨v, w, rfl, k H1 fun _ _ h => h⟩)⟩
theorem snd_par3 {i j l : Nat} {b c d : Bool} {x y z : Str} {a a2 a3 : Expr} {px py pz pt : Pos} {kt k2 pt2} (hc : X.calm = true) (hN : X.N.Nodup) (hi : X.N[i]? = some x) (hj : X.N[j]? = some y) (hl : X.N[l]? = some z) (hij : i ≠ j) (hil : i ≠ l) (hjl : j ≠ l)
    (hx : X.env.scope.names.lookup x = some .local) (hy : X.env.scope.names.lookup y = some .local) (hz : X.env.scope.names.lookup z = some .local) (ha : PA X [a, a2, a3] (tP F W ck [(i, b), (j, c), (l, d)] xs))
    (hw : swappedStores [.Tuple [.Name x px, .Name y py, .Name z pz] kt pt] (.Tuple [a, a2, a3] k2 pt2) X.env = pure (some [x, y, z])) :
    PS X (.Assign [.Tuple [.Name x px, .Name y py, .Name z pz] kt pt] (.Tuple [a, a2, a3] k2 pt2) pos) (tSt F W ck fu (.par [(i, b), (j, c), (l, d)] xs)) :=
  ⟨fun pins sh σV H Dn I q => (ps_par3 hc hN hi hj hl hij hil hjl hx hy hz ha hw rfl).run pins sh σV H Dn I (by
    have l1 : i < σV.length := by rw [I.len]; exact (List.getElem?_eq_some_iff.mp hi).1
    have l2 : j < σV.length := by rw [I.len]; exact (List.getElem?_eq_some_iff.mp hj).1
    have l3 : l < σV.length := by rw [I.len]; exact (List.getElem?_eq_some_iff.mp hl).1
    refine par_fin q (fun z hz => ?_) fun A vs H1 hl k => ?_
    · rcases List.mem_cons.mp hz with rfl | hz
      · exact l1
      · rcases List.mem_cons.mp hz with rfl | hz
        · exact l2
        · rw [List.mem_singleton.mp hz]; exact l3
    · match vs, hl with
      | [u, v, w], _ => exact ⟨u, v, w, rfl, k H1 fun _ _ h => h⟩)⟩
/-- names only -/
def gN (is : List (Nat × Bool)) : TGs := fun vs σ H Q => vs.length = is.length ∧ Q (setV is vs σ) H
theorem gN_nil : PGs X [] (gN []) := PGs.by pgs_nil fun vs σ H Q ⟨h, q⟩ => ⟨List.length_eq_zero_iff.mp h, by cases vs with | nil => exact q | cons => cases h⟩
theorem gN_cons {i : Nat} {b : Bool} {x : Str} {px : Pos} (hN : X.N.Nodup) (hi : X.N[i]? = some x) (hx : Loc X.env.scope x) (hf : X.fn x = true ∨ X.env.scope.names.lookup x = some .local) (h : PGs X es (gN is)) : PGs X (.Name x px :: es) (gN ((i, b) :: is)) :=
  PGs.by (pgs_cons (pg_name hN hi hx hf) h rfl) fun vs σ H Q ⟨h, q⟩ => by
    cases vs with
    | nil => cases h
    | cons v vs => exact ⟨v, vs, rfl, Nat.succ.inj h, q⟩
theorem snd_parN {tgs : List Expr} {kt k2 pt pt2} (hK : F.K = X.K) (hc : X.calm = true) (hN : ∀ z ∈ is, z.1 < X.N.length) (hl : is.length ≤ 1000) (hn : is.length = tgs.length) (hst : noStar tgs = true) (hg : PGs X tgs (gN is)) (ha : PA X es (tP F W ck is xs)) (hw : swappedStores [.Tuple tgs kt pt] (.Tuple es k2 pt2) X.env = pure none) :
    PS X (.Assign [.Tuple tgs kt pt] (.Tuple es k2 pt2) pos) (tSt F W ck fu (.par is xs)) :=
  ⟨fun pins sh σV H Dn I q => (ps_asg (pe_tup ha) (pg_tup hc hg (asg_of hst).1 (asg_of hst).2) rfl hw rfl).run pins sh σV H Dn I (by
    refine par_fin q (fun z hz => by rw [I.len]; exact hN z hz) fun A vs H1 hv k => ⟨by rw [hv]; exact line_of hl, fun T hT => ⟨T, vs, rfl, .inl (.inl upd_same), by rw [hv, hn], hv, k _ (upd_keep hT)⟩⟩)⟩
end
end Cw

end
section
/-! CwU: new lists; methods. -/
namespace Cw
open PySem L2 PyProof.Rows PySem.W
section
variable {F : Fx} {A : Act} {W : XW} {ck : Nat → List D → RH → Res D} {X : Cx} {e a b o : Expr} {es : List Expr} {x xa xb xo : Ex} {xs : Exs} {ρ ρ1 ρ' : List Addr} {al : List (Option Addr)} {σ : List Sl} {R R' : RH} {σV : L2.St} {H H1 H' : Hp} {pos p apos cpos : Pos}
theorem PostF.bind {α β : Type} {r : Res α} {f : α → RH → Res D} {Rl : List Addr → Hp → β → α → Prop} {Q : VK} {Q1 : β → Hp → Prop} (p : PostF F A al W σ σV ρ H (r.bind f) Q)
    (h : ∀ d R1 v H1 ρ1, Rel F A ρ1 al σ R1 σV H1 → Ext ρ H ρ1 H1 → Rl ρ1 H1 v d → PostF F A al W σ σV ρ1 H1 (f d R1) Q → Q1 v H1) (r0 : Rel F A ρ al σ R σV H) : Post F A al W σ σV ρ H r Rl Q1 := by
  cases r with
  | ok d R' =>
    intro v H' ρ' r1 e1 q1
    refine h d R' v H' ρ' r1 e1 q1 ?_
    simp only [Res.bind] at p
    cases z : f d R' with
    | ok d2 R2 =>
      rw [z] at p
      exact ⟨p.1, fun a H2 ρ2 r2 e2 hn ow => p.2 a H2 ρ2 r2 (e1.trans e2) (e1.none r1 hn) ow⟩
    | exc c R2 =>
      rw [z] at p
      exact fun H2 ρ2 r2 e2 => p H2 ρ2 r2 (e1.trans e2)
    | bad => rw [z] at p; exact p
  | exc c R' => exact p
  | bad => exact p
/-- a new list -/
theorem PostF.new {ds : List D} {vs : List V} {a : Addr} {Q : VK} (p : PostF F A al W σ σV ρ H (.ok (.lst ds) R) Q) (r : Rel F A ρ al σ R σV H) (ha : H a = none) (q : RMs F A al ρ H vs ds) : Q (.ref a) (upd H a (.lst vs)) :=
  p.2 a _ ρ (r.addO ha) (ext_grow (upd_keep ha)) ha ⟨vs, upd_same, RDs.mono ⟨[], by simp⟩ (mask_add ha) q⟩
theorem PostF.of {o : Option D} {Q : VK} (p : PostF F A al W σ σV ρ H (Res.of o R) Q) : ∃ d, o = some d ∧ PostF F A al W σ σV ρ H (.ok d R) Q := by
  cases o with
  | none => exact p.elim
  | some d => exact ⟨d, rfl, p⟩
theorem fr_lst (h : PA X es (tAs F W ck xs)) (hl : lenX xs ≤ 1000) : PE X (.List es pos) (tF F W ck (.lst xs)) :=
  PE.by (pe_lst h) fun σV H Q ⟨A, ρ, al, σ, R, r, p⟩ => ⟨A, ρ, al, σ, R, r, by
    have p : PostF F A al W σ σV ρ H ((evs ck xs σ R).bind fun ds R => .ok (.lst ds) R) Q := p
    cases q : evs ck xs σ R with
    | ok ds R1 =>
      rw [q] at p
      exact fun vs H1 ρ1 r1 e1 q1 => ⟨by rw [RMs.length q1, evs_len q]; exact line_of hl, fun a ha => by
        have hp : H a = none := e1.none r1 ha
        exact p.2 a _ ρ1 (r1.addO ha) (e1.updN hp |>.trans (Ext.refl)) hp ⟨vs, upd_same, RDs.mono ⟨[], by simp⟩ (mask_add ha) q1⟩⟩
    | exc c R1 => rw [q] at p; exact p
    | bad => rw [q] at p; exact p⟩
/-- [..] * n -/
theorem fr_rep (ha : PE X a (tB F W ck xa)) (hb : PE X b (tB F W ck xb)) : PE X (.BinOp a .Mult b pos) (tF F W ck (.bin .mul xa xb)) :=
  PE.by (pe_op op_rep ha hb) fun σV H Q ⟨A, ρ, al, σ, R, r, p⟩ => ⟨A, ρ, al, σ, R, r, PostF.bind (show PostF F A al W σ σV ρ H ((ev ck xa σ R).bind fun x R => (ev ck xb σ R).bind fun y R => .of (binD .mul x y) R) Q from p) (fun d R1 v H1 ρ1 r1 e1 q1 p1 => ⟨A, ρ1, al, σ, R1, r1, PostF.bind p1 (fun y R2 u H2 ρ2 r2 e2 q2 p2 => by
    obtain ⟨d3, e3, p3⟩ := p2.of
    have q1 := RT.ext q1 e2
    cases d with
    | lst ds =>
      cases y with
      | int k =>
        simp only [binD] at e3
        split at e3
        · rename_i h
          simp only [Bool.and_eq_true, decide_eq_true_eq] at h
          cases e3
          obtain ⟨l, vs, rfl, h1, h2⟩ := q1.lst
          refine ⟨l, k, vs, rfl, q2.int, h1, h.1.1, h.1.2, by rw [RMs.length h2]; exact h.2, fun c hc => p3.new r2 hc (RDs.rep h2 k.toNat)⟩
        · cases e3
      | _ => cases e3
    | int i =>
      cases y with
      | int k =>
        simp only [binD] at e3
        split at e3
        · cases e3
          exact absurd p3.1 (by simp [ownable])
        · cases e3
      | _ => cases e3
    | _ => cases y <;> cases e3) r1⟩) r⟩
/-- list(x) -/
theorem fr_list (hK : F.K = X.K) (hc : X.calm = true) (hg : Gl X "list") (hm : X.mg "list" = none) (hs : isStar a = false) (ha : PE X a (tB F W ck xa)) : PE X (.Call (.Name "list" p) [a] [] pos) (tF F W ck (.blt .list (.cons xa .nil))) := by
  obtain ⟨h1, h2, h3⟩ := bltN_ok .list (fun h => nomatch h)
  refine PE.by (pe_callTy (cr_blt hc .list (fun h => nomatch h)) hg hm h1 (pa_cons ha pa_nil (star_cons hs)) h2 h3 (star_cons hs) rfl) fun σV H Q ⟨A, ρ, al, σ, R, r, p⟩ => ⟨A, ρ, al, σ, R, r, ?_⟩
  have p : PostF F A al W σ σV ρ H (((ev ck xa σ R).bind fun x R => (Res.ok [] R).bind fun xs R => .ok (x :: xs) R).bind fun ds R => .of (bltD .list ds) R) Q := p
  have p : PostF F A al W σ σV ρ H ((ev ck xa σ R).bind fun x R => .of (bltD .list [x]) R) Q := by
    cases q : ev ck xa σ R <;> (rw [q] at p; exact p)
  refine PostF.bind p (fun d R1 v H1 ρ1 r1 e1 q1 p1 => ?_) r
  obtain ⟨d3, e3, p3⟩ := p1.of
  cases d <;> first | (cases e3; done) | skip
  · cases e3
    obtain ⟨l, vs, rfl, h1, h2⟩ := q1.tup
    exact ⟨l, vs, rfl, .inr (SqT.toK hK h1), fun c hc => p3.new r1 hc h2⟩
  · cases e3
    obtain ⟨l, vs, rfl, h1, h2⟩ := q1.lst
    exact ⟨l, vs, rfl, .inl (.of h1), fun c hc => p3.new r1 hc h2⟩
  · cases e3
    obtain ⟨l, vs, rfl, h1, h2⟩ := q1.frz
    exact ⟨l, vs, rfl, .inl (SqL.toK hK h1), fun c hc => p3.new r1 hc h2⟩
/-! methods -/
theorem findD_spec {d : D} : ∀ {l : List D} {j : Nat}, findD d l = some j → (∃ z, l[j]? = some z ∧ deq z d = true) ∧ ∀ m z, m < j → l[m]? = some z → deq z d = false
  | [], j, h => by cases h
  | z :: l, j, h => by
    simp only [findD] at h
    split at h
    · rename_i q
      cases h
      exact ⟨⟨z, rfl, q⟩, fun m z hm => absurd hm (Nat.not_lt_zero m)⟩
    · rename_i q
      cases z2 : findD d l with
      | none => rw [z2] at h; cases h
      | some i =>
        rw [z2] at h
        cases h
        obtain ⟨⟨y, h1, h2⟩, h3⟩ := findD_spec z2
        refine ⟨⟨y, by simpa using h1, h2⟩, fun m y hm hy => ?_⟩
        cases m with
        | zero =>
          cases hy
          cases w : deq z d with
          | true => exact absurd w q
          | false => rfl
        | succ m => exact h3 m y (Nat.lt_of_succ_lt_succ hm) (by simpa using hy)
theorem toPys_get : ∀ {l : List D} {j : Nat} {z : D}, l[j]? = some z → (toPys l)[j]? = some (toPy z)
  | [], j, z, h => by simp at h
  | y :: l, 0, z, h => by
    have h : y = z := by simpa using h
    subst h
    rfl
  | y :: l, j + 1, z, h => by
    have h : l[j]? = some z := by simpa using h
    simpa [toPys] using toPys_get h
theorem toPys_getI : ∀ {l : List D} {j : Nat} {z : PyData}, (toPys l)[j]? = some z → ∃ y, l[j]? = some y ∧ z = toPy y
  | [], j, z, h => by simp [toPys] at h
  | y :: l, 0, z, h => ⟨y, rfl, by simpa [toPys] using h.symm⟩
  | y :: l, j + 1, z, h => by
    obtain ⟨w, h1, h2⟩ := toPys_getI (l := l) (j := j) (z := z) (by simpa [toPys] using h)
    exact ⟨w, by simpa using h1, h2⟩
theorem snd_index (hK : F.K = X.K) (hu : X.A.units + 70 < cLine) (hs : isStar a = false) (hbase : attributeBase o "index" X.env (eval o X.env) = eval o X.env) (hline : (apos.endLine == cpos.line) = true) (ho : PE X o (tB F W ck xo)) (ha : PE X a (tB F W ck xa)) :
    PE X (.Call (.Attribute o "index" apos) [a] [] cpos) (tS F W ck (.meth .index xo (.cons xa .nil))) :=
  PE.by (pe_bm PySem.F.plainAttrs_list PySem.F.slot_list_index PySem.F.type_list_index (mt_indexD (by omega)) ho (pa_cons ha pa_nil (star_cons hs)) hbase (few_one hs) hline (star_cons hs) rfl) fun σV H Q ⟨A, ρ, al, σ, R, r, p⟩ => ⟨A, ρ, al, σ, R, r, by
    have p : Post F A al W σ σV ρ H ((ev ck xo σ R).bind fun x R => if mthOn .index x = true then ((ev ck xa σ R).bind fun y R => (Res.ok [] R).bind fun xs R => .ok (y :: xs) R).bind fun ds R => .of (methD .index x ds) R else .bad) (RM F A al) Q := p
    cases q : ev ck xo σ R with
    | exc c R1 => rw [q] at p; exact p
    | bad => rw [q] at p; exact p
    | ok x R1 =>
      rw [q] at p
      simp only [Res.bind] at p
      refine Post.okI fun v H1 ρ1 r1 e1 q1 => ?_
      cases x <;> first | exact p.elim | skip
      · rename_i l
        have p : Post F A al W σ σV ρ H ((ev ck xa σ R1).bind fun y R => .of (methD .index (.lst l) [y]) R) (RM F A al) Q := by
          cases q2 : ev ck xa σ R1 <;> (rw [q2] at p; exact p)
        obtain ⟨a0, vs, rfl, h1, h2⟩ := q1.lst
        refine ⟨ty_lst h1, A, ρ1, al, σ, R1, r1, Post.bind (p.ext e1) fun y R2 w H2 ρ2 r2 e2 q2 p2 => ?_⟩
        obtain ⟨d', e3, p3⟩ := p2.of
        simp only [methD] at e3
        split at e3
        · rename_i hf
          obtain ⟨f1, f2⟩ := Bool.and_eq_true_iff.mp hf
          cases z : findD y l with
          | none => rw [z] at e3; cases e3
          | some j =>
            rw [z] at e3
            cases e3
            obtain ⟨⟨z0, g1, g2⟩, g3⟩ := findD_spec z
            have pl : plains l = true := by have := flt_plain f1; simpa [plain] using this
            have py := flt_plain f2
            refine ⟨a0, w, toPy y, toPys l, j, toPy z0, rfl, rfl, ?_, ?_, ?_, shaped_of f2, toPys_get g1, ?_, fun m z' hm hz => ?_, p3.here r2 (RD.int _)⟩
            · rw [← hK]; exact (RT.ext q1 e2).dp (flt_plain f1)
            · rw [← hK]; exact q2.dp py
            · exact shaped_of f1
            · rw [deq_of _ _ (plains_all pl _ _ g1) py]; exact g2
            · obtain ⟨z1, k1, rfl⟩ := toPys_getI hz
              rw [deq_of _ _ (plains_all pl _ _ k1) py]
              exact g3 m z1 hm k1
        · cases e3⟩
end
end Cw

end
section
/-! CwV: own syntax is the text's: expressions. -/
namespace Cw
open PySem L2 PyProof.Rows PySem.W
/-- what the module holds: its defs with their numbers of parameters, its exception classes, its constants, the built-in names that it leaves free -/
structure Gm where
  fns : List (Str × Nat)
  cls : List Str
  con : List (Str × D)
  free : List Str
structure Cs where
  G : Gm
  N : List Str
  sc : Scope
  fn : Str → Bool
def Cs.gl (C : Cs) (x : Str) : Bool := decide (C.sc.names.lookup x = some .globalImplicit)
def Cs.fre (C : Cs) (x : Str) : Bool := C.gl x && decide (x ∈ C.G.free)
def isVisK : Option NameKind → Bool
  | some .local => true
  | some .cell => true
  | some .free => true
  | _ => false
def Cs.vis (C : Cs) (i : Nat) (x : Str) : Bool := decide (C.N[i]? = some x) && (isVisK (C.sc.names.lookup x) && (!(x == ("__debug__" : Str)) && !(x == ("__classdict__" : Str))))
def isLocK (b : Bool) : Option NameKind → Bool
  | some .local => true
  | some .cell => b
  | _ => false
def Cs.loc (C : Cs) (i : Nat) (x : Str) : Bool := decide (C.N[i]? = some x) && isLocK (C.fn x) (C.sc.names.lookup x)
/-- a comprehension's block -/
def Cs.blk (C : Cs) (scope : Scope) : Cs := { C with sc := relS scope C.sc, fn := fun x => scope.names.lookup x == some .cell }
mutual
def eqc : D → D → Bool
  | .non, .non => true
  | .bl a, .bl b => a == b
  | .int a, .int b => decide (a = b)
  | .str a, .str b => decide (a = b)
  | .tup a, .tup b => eqcs a b
  | .frz a, .frz b => eqcs a b
  | _, _ => false
def eqcs : List D → List D → Bool
  | [], [] => true
  | a :: l, b :: m => eqc a b && eqcs l m
  | _, _ => false
end
mutual
theorem eqc_eq : ∀ {a b : D}, eqc a b = true → a = b
  | .non, b, h => by cases b <;> first | rfl | (simp [eqc] at h; done)
  | .bl x, b, h => by
    cases b <;> first | (simp [eqc] at h; done) | skip
    simp only [eqc, beq_iff_eq] at h
    rw [h]
  | .int x, b, h => by
    cases b <;> first | (simp [eqc] at h; done) | skip
    simp only [eqc, decide_eq_true_eq] at h
    rw [h]
  | .str x, b, h => by
    cases b <;> first | (simp [eqc] at h; done) | skip
    simp only [eqc, decide_eq_true_eq] at h
    rw [h]
  | .tup x, b, h => by
    cases b <;> first | (simp [eqc] at h; done) | skip
    rw [eqcs_eq (show eqcs x _ = true from h)]
  | .frz x, b, h => by
    cases b <;> first | (simp [eqc] at h; done) | skip
    rw [eqcs_eq (show eqcs x _ = true from h)]
  | .lst x, b, h => by cases b <;> (simp [eqc] at h; done)
  | .dK x, b, h => by cases b <;> (simp [eqc] at h; done)
  | .dT x, b, h => by cases b <;> (simp [eqc] at h; done)
  | .ref x, b, h => by cases b <;> (simp [eqc] at h; done)
  | .fn x, b, h => by cases b <;> (simp [eqc] at h; done)
theorem eqcs_eq : ∀ {a b : List D}, eqcs a b = true → a = b
  | [], [], _ => rfl
  | [], _ :: _, h => by simp [eqcs] at h
  | _ :: _, [], h => by simp [eqcs] at h
  | a :: l, b :: m, h => by
    simp only [eqcs, Bool.and_eq_true] at h
    rw [eqc_eq h.1, eqcs_eq h.2]
end
/-- a constant, a def's name -/
def chCon (C : Cs) (d : D) (e : Expr) : Bool := match e with
  | .Constant .none _ _ => eqc d .non
  | .Constant (.bool b) _ _ => eqc d (.bl b)
  | .Constant (.int i) _ _ => eqc d (.int i)
  | .Constant (.str z) _ _ => eqc d (.str z)
  | .Name x _ => C.gl x && (!(x == ("__debug__" : Str)) && (match d with
    | .fn i => (match C.G.fns[i]? with
      | some (y, _) => decide (y = x)
      | none => false)
    | _ => C.G.con.any fun p => decide (p.1 = x) && eqc p.2 d))
  | _ => false
def isT (e : Expr) : Bool := match e with
  | .Name .. | .Call .. | .Constant .. | .Subscript .. | .Compare .. | .BoolOp .. | .UnaryOp .Not _ _ => true
  | _ => false
def isTs (es : List Expr) : Bool := es.all isT
def notSetE (e : Expr) : Bool := match e with
  | .Set .. => false
  | _ => true
def kdsOf (C : Cs) : List Kd → List Expr → Bool
  | [], [] => true
  | k :: ks, .Name n _ :: es => decide (n = kdN k) && (C.fre (kdN k) && kdsOf C ks es)
  | _, _ => false
def mthN : Mth → Str
  | .index => "index"
  | .count => "count"
  | .get => "get"
def isIx : Mth → Bool
  | .index => true
  | _ => false
def notCallE (e : Expr) : Bool := match e with
  | .Call .. => false
  | _ => true
def bltE (f : Blt) (C : Cs) (e : Expr) (r : List Expr → Bool) : Bool := match e with
  | .Call (.Name n _) es [] _ => decide (n = bltN f) && (C.fre (bltN f) && (!es.isEmpty && (noStar es && r es)))
  | _ => false
def tgOwn (C : Cs) (t : Tg) : List (Str × Nat) := (tgs t).map fun i => (C.N.getD i Str.empty, i)
mutual
def chT : Tg → Cs → Expr → Bool
  | .nm i, C, e => (match e with
    | .Name x _ => C.loc i x
    | _ => false)
  | .tp ts, C, e => (match e with
    | .Tuple es _ _ => noStar es && chTs ts C es
    | _ => false)
def chTs : Tgs → Cs → List Expr → Bool
  | .nil, _, es => es.isEmpty
  | .cons t ts, C, es => (match es with
    | e :: es => chT t C e && chTs ts C es
    | [] => false)
end
mutual
def chE : Ex → Cs → Expr → Bool
  | .var i, C, e => (match e with
    | .Name x _ => C.vis i x
    | _ => false)
  | .con d, C, e => chCon C d e
  | .tup xs, C, e => (match e with
    | .Tuple es _ _ => decide (lenX xs ≤ 1000) && chEs xs C es
    | _ => false)
  | .lst xs, C, e => (match e with
    | .List es _ => decide (lenX xs ≤ 1000) && chEs xs C es
    | _ => false)
  | .bin o a b, C, e => (match e with
    | .BinOp ea op eb _ => decide (op = opB o) && (chE a C ea && chE b C eb)
    | _ => false)
  | .neg a, C, e => (match e with
    | .UnaryOp .USub ea _ => chE a C ea
    | _ => false)
  | .cmp o a b, C, e => (match e with
    | .Compare ea [op] [eb] _ => decide (op = opC o) && (notSet eb && (chE a C ea && chE b C eb))
    | _ => false)
  | .ch2 o p a b c, C, e => (match e with
    | .Compare ea [op, op2] [eb, ec] _ => decide (op = opC o) && (decide (op2 = opC p) && (notSet ec && (chE a C ea && (chE b C eb && chE c C ec))))
    | _ => false)
  | .and a xs, C, e => (match e with
    | .BoolOp .And (ea :: eb :: es) _ => isT ea && (isTs (eb :: es) && (chE a C ea && chEs xs C (eb :: es)))
    | _ => false)
  | .or a xs, C, e => (match e with
    | .BoolOp .Or (ea :: eb :: es) _ => isT ea && (isTs (eb :: es) && (chE a C ea && chEs xs C (eb :: es)))
    | _ => false)
  | .not a, C, e => (match e with
    | .UnaryOp .Not ea _ => isT ea && chE a C ea
    | _ => false)
  | .ite c a b, C, e => (match e with
    | .IfExp ec ea eb _ => isT ec && (chE c C ec && (chE a C ea && chE b C eb))
    | _ => false)
  | .call f xs, C, e => (match e with
    | .Call (.Name x _) es [] _ => C.gl x && (!(x == ("__debug__" : Str)) && (decide (C.G.fns[f]? = some (x, lenX xs)) && (noStar es && chEs xs C es)))
    | _ => false)
  | .blt .lrange (.cons a .nil), C, e => (match e with
    | .Call (.Name n _) [.Call (.Name m _) [ea] [] _] [] _ => decide (n = "list") && (decide (m = "range") && (C.fre "list" && (C.fre "range" && (noStar [ea] && chE a C ea))))
    | _ => false)
  | .blt .lrange (.cons a (.cons b .nil)), C, e => (match e with
    | .Call (.Name n _) [.Call (.Name m _) [ea, eb] [] _] [] _ => decide (n = "list") && (decide (m = "range") && (C.fre "list" && (C.fre "range" && (noStar [ea, eb] && (chE a C ea && chE b C eb)))))
    | _ => false)
  | .blt .lrange _, _, _ => false
  | .blt f xs, C, e => bltE f C e fun es => chEs xs C es
  | .isi ks a, C, e => (match e with
    | .Call (.Name n _) [ea, .Name m _] [] _ => decide (n = "isinstance") && (C.fre "isinstance" && (!isStar ea && (kdsOf C ks [.Name m ⟨0, 0, 0, 0⟩] && chE a C ea)))
    | .Call (.Name n _) [ea, .Tuple es _ _] [] _ => decide (n = "isinstance") && (C.fre "isinstance" && (!isStar ea && (decide (ks.length ≤ 10) && (!ks.isEmpty && (kdsOf C ks es && chE a C ea)))))
    | _ => false)
  | .meth m o (.cons a .nil), C, e => (match e with
    | .Call (.Attribute eo n apos) [ea] [] cpos => decide (n = mthN m) && (isIx m && ((apos.endLine == cpos.line) && (notCallE eo && (!isStar ea && (chE o C eo && chE a C ea)))))
    | _ => false)
  | .meth _ _ _, _, _ => false
  | .idx a i, C, e => (match e with
    | .Subscript ea ei _ => plainI ei && (chE a C ea && chE i C ei)
    | _ => false)
  | .slc a lo hi, C, e => (match e with
    | .Subscript ea (.Slice el eh none _) _ => chE a C ea && (chO lo C el && chO hi C eh)
    | _ => false)
  | .rev a, C, e => (match e with
    | .Subscript ea (.Slice none none (some (.UnaryOp .USub (.Constant (.int k) _ _) _)) _) _ => decide (k = 1) && chE a C ea
    | _ => false)
  | .lc x t it cd, C, e => (match e with
    | .ListComp ex [⟨et, ei, ifs, isA⟩] scope _ => decide (isA = 0) && (notSetE ei && (blkC C.N C.sc scope (tgOwn C t) && (chI it C et ei && (chT t (C.blk scope) et && (chC cd (C.blk scope) ifs && chE x (C.blk scope) ex)))))
    | _ => false)
def chEs : Exs → Cs → List Expr → Bool
  | .nil, _, es => es.isEmpty
  | .cons x xs, C, es => (match es with
    | e :: es => !isStar e && (chE x C e && chEs xs C es)
    | [] => false)
def chO : Exo → Cs → Option Expr → Bool
  | .no, _, e => e.isNone
  | .so x, C, e => (match e with
    | some e => chE x C e
    | none => false)
def chC : Exo → Cs → List Expr → Bool
  | .no, _, es => es.isEmpty
  | .so x, C, es => (match es with
    | [e] => isT e && chE x C e
    | _ => false)
def chI : Itr → Cs → Expr → Expr → Bool
  | .ex x, C, _, e => chE x C e
  | .rng a, C, _, e => (match e with
    | .Call (.Name n _) [ea] [] _ => decide (n = "range") && (C.fre "range" && (!isStar ea && chE a C ea))
    | _ => false)
  | .rng2 a b, C, _, e => (match e with
    | .Call (.Name n _) [ea, eb] [] _ => decide (n = "range") && (C.fre "range" && (noStar [ea, eb] && (chE a C ea && chE b C eb)))
    | _ => false)
  | .enu a, C, t, e => (match t, e with
    | .Tuple _ _ _, .Call (.Name n _) [ea] [] _ => decide (n = "enumerate") && (C.fre "enumerate" && (!isStar ea && chE a C ea))
    | _, _ => false)
  | .zip a b, C, t, e => (match t, e with
    | .Tuple _ _ _, .Call (.Name n _) [ea, eb] [] _ => decide (n = "zip") && (C.fre "zip" && (noStar [ea, eb] && (chE a C ea && chE b C eb)))
    | _, _ => false)
end
end Cw

end
section
/-! CwW: own syntax keeps its word: expressions. -/
namespace Cw
open PySem L2 PyProof.Rows PySem.W
/-- a place where code of the text runs -/
structure Ok (F : Fx) (ck : Nat → List D → RH → Res D) (k : Nat) (W : XW) (C : Cs) (X : Cx) : Prop where
  K : F.K = X.K
  calm : X.calm = true
  N : X.N = C.N
  nd : C.N.Nodup
  sc : X.env.scope = C.sc
  fn : X.fn = C.fn
  hu : X.A.units + 70 < cLine
  room : Room k X.A
  tk : Takes X (XW.wx F W)
  fns : ∀ (i : Nat) (x : Str) (np : Nat), C.G.fns[i]? = some (x, np) → FnAt F ck X k x i np
  fnv : ∀ (i : Nat) (x : Str) (np : Nat), C.G.fns[i]? = some (x, np) → ∃ a, X.mg x = some (.ref a) ∧ F.fa i = some a
  con : ∀ (x : Str) (d : D), (x, d) ∈ C.G.con → ∃ v u, X.mg x = some u ∧ RelV v u ∧ ConOk F v d
  free : ∀ x ∈ C.G.free, X.mg x = none
theorem pe_glob {X : Cx} {x : Str} {p : Pos} {v : V} {u : Value} (hg : Gl X x) (hm : X.mg x = some u) (r : RelV v u) (hd : (x == ("__debug__" : Str)) = false) : PE X (.Name x p) (L2.tC v) :=
  ⟨fun pins s σ H Q I q => ld_glob I hg hm ⟨v, H, I, r, q⟩ hd⟩
structure S3 (F : Fx) (ck : Nat → List D → RH → Res D) (W : XW) (X : Cx) (x : Ex) (e : Expr) : Prop where
  s : PE X e (tS F W ck x)
  b : PE X e (tB F W ck x)
  t : isT e = true → PT X e (tQ (tS F W ck x))
structure SL (F : Fx) (ck : Nat → List D → RH → Res D) (W : XW) (X : Cx) (xs : Exs) (es : List Expr) : Prop where
  as : PA X es (tAs F W ck xs)
  ab : PA X es (tAb F W ck xs)
  and : ∀ pos, isTs es = true → es ≠ [] → PE X (.BoolOp .And es pos) (tEA F W ck xs) ∧ PW X (.BoolOp .And es pos) (tQ (tEA F W ck xs))
  or : ∀ pos, isTs es = true → es ≠ [] → PE X (.BoolOp .Or es pos) (tEO F W ck xs) ∧ PW X (.BoolOp .Or es pos) (tQ (tEO F W ck xs))
theorem band {a b : Bool} (h : (a && b) = true) : a = true ∧ b = true := Bool.and_eq_true_iff.mp h
section
variable {F : Fx} {ck : Nat → List D → RH → Res D} {k : Nat} {W : XW} {C : Cs} {X : Cx} {x : Ex} {e : Expr} {es : List Expr} {xs : Exs}
theorem S3.plain (hv : isVar x = false) (s : PE X e (tS F W ck x)) (h : isT e = true → plainT e = true) : S3 F ck W X x e := ⟨s, tB_of hv s, fun ht => snd_val (h ht) s⟩
theorem S3.no (hv : isVar x = false) (s : PE X e (tS F W ck x)) (h : isT e = false) : S3 F ck W X x e := ⟨s, tB_of hv s, fun ht => by rw [h] at ht; cases ht⟩
theorem Ok.gl (ok : Ok F ck k W C X) {x : Str} (h : C.gl x = true) : Gl X x := by
  show X.env.scope.names.lookup x = _
  rw [ok.sc]
  exact of_decide_eq_true h
theorem Ok.fre (ok : Ok F ck k W C X) {x : Str} (h : C.fre x = true) : Gl X x ∧ X.mg x = none := by
  obtain ⟨h1, h2⟩ := band h
  exact ⟨ok.gl h1, ok.free x (of_decide_eq_true h2)⟩
theorem Ok.var (ok : Ok F ck k W C X) {i : Nat} {x : Str} {p : Pos} (h : C.vis i x = true) : PE X (.Name x p) (tVar i) := by
  obtain ⟨h1, h2⟩ := band h
  obtain ⟨h2, h3⟩ := band h2
  obtain ⟨h3, h4⟩ := band h3
  refine pe_var (by rw [ok.N]; exact of_decide_eq_true h1) ?_ (by simpa using h3) (by simpa using h4)
  show X.env.scope.names.lookup x = _ ∨ X.env.scope.names.lookup x = _ ∨ X.env.scope.names.lookup x = _
  rw [ok.sc]
  unfold isVisK at h2
  split at h2 <;> first | (cases h2; done) | skip
  · rename_i e; exact .inl e
  · rename_i e; exact .inr (.inl e)
  · rename_i e; exact .inr (.inr e)
theorem Ok.loc (ok : Ok F ck k W C X) {i : Nat} {x : Str} (h : C.loc i x = true) : X.N[i]? = some x ∧ Loc X.env.scope x ∧ (X.fn x = true ∨ X.env.scope.names.lookup x = some .local) := by
  obtain ⟨h1, h2⟩ := band h
  refine ⟨by rw [ok.N]; exact of_decide_eq_true h1, ?_⟩
  show (X.env.scope.names.lookup x = _ ∨ X.env.scope.names.lookup x = _) ∧ _
  rw [ok.sc, ok.fn]
  unfold isLocK at h2
  split at h2 <;> first | (cases h2; done) | skip
  · rename_i e; exact ⟨.inl e, .inr e⟩
  · rename_i e; exact ⟨.inr e, .inl h2⟩
theorem Ok.con' (ok : Ok F ck k W C X) {d : D} (h : chCon C d e = true) : PE X e (tS F W ck (.con d)) ∧ (isT e = true → plainT e = true) := by
  unfold chCon at h
  split at h
  · rw [eqc_eq h]; exact ⟨snd_con pe_non fun _ _ => .non, fun _ => rfl⟩
  · rw [eqc_eq h]; exact ⟨snd_con pe_bl fun _ _ => .bl _, fun _ => rfl⟩
  · rw [eqc_eq h]; exact ⟨snd_con pe_int fun _ _ => .int _, fun _ => rfl⟩
  · rw [eqc_eq h]; exact ⟨snd_con pe_str fun _ _ => .str _, fun _ => rfl⟩
  · rename_i x p
    obtain ⟨h1, h2⟩ := band h
    obtain ⟨h2, h3⟩ := band h2
    have hd : (x == ("__debug__" : Str)) = false := by simpa using h2
    refine ⟨?_, fun _ => rfl⟩
    split at h3
    · rename_i i
      split at h3
      · rename_i y np q
        have e := of_decide_eq_true h3
        subst e
        obtain ⟨a, m1, m2⟩ := ok.fnv i y np q
        exact snd_con (pe_glob (v := .ref a) (ok.gl h1) m1 rfl hd) fun _ _ => .fn m2
      · cases h3
    · obtain ⟨p, hp, q⟩ := List.any_eq_true.mp h3
      obtain ⟨q1, q2⟩ := band q
      obtain ⟨y, d'⟩ := p
      have e1 := of_decide_eq_true q1
      simp only at e1 q2
      subst e1
      rw [← eqc_eq q2]
      obtain ⟨v, u, m1, m2, m3⟩ := ok.con y d' hp
      exact snd_con (pe_glob (ok.gl h1) m1 m2 hd) m3
  · cases h
theorem Ok.blk (ok : Ok F ck k W C X) {s : Shared} {H : Hp} {scope : Scope} {Cc : Addr} {cl : List (Str × Addr)} {fp : List Addr} : Ok F ck k noXW (C.blk scope) (X.blk s H scope (compEnvC scope cl Cc X.env) fp) where
  K := ok.K
  calm := ok.calm
  N := ok.N
  nd := ok.nd
  sc := by
    show relabel scope X.env = relS scope C.sc
    rw [← ok.sc]
    rfl
  fn := rfl
  hu := ok.hu
  room := ok.room
  tk := fun u s' ⟨a, B, sI, pins, σ, H, cls, d, e, I, nb, up, sky, na, os, ag, c, C, _, _, _, w⟩ => w.elim
  fns := fun i x np h => ⟨(ok.fns i x np h).at_⟩
  fnv := ok.fnv
  con := ok.con
  free := ok.free
theorem notCall_base {n : Str} {env : Env} (h : notCallE e = true) : attributeBase e n env (eval e env) = eval e env := by
  cases e <;> first | rfl | cases h
theorem notSet_iter {env : Env} (h : notSetE e = true) : ∀ x, foldedSetIterable e env x = pure x := by
  cases e <;> first | (intro x; rfl) | cases h
theorem kdsOf_kdsE (ok : Ok F ck k W C X) : ∀ {ks : List Kd} {es : List Expr}, kdsOf C ks es = true → kdsE ks es = true ∧ ∀ q ∈ ks, Gl X (kdN q) ∧ X.mg (kdN q) = none
  | [], [], _ => ⟨rfl, fun _ h => nomatch h⟩
  | [], _ :: _, h => by cases h
  | q :: ks, [], h => by cases h
  | q :: ks, e :: es, h => by
    unfold kdsOf at h
    split at h
    · cases ‹_ :: _ = []›
    · rename_i e1 e2
      cases e1
      cases e2
      obtain ⟨h1, h2⟩ := band h
      obtain ⟨h2, h3⟩ := band h2
      obtain ⟨g1, g2⟩ := kdsOf_kdsE ok h3
      refine ⟨?_, fun z hz => ?_⟩
      · simp only [kdsE, Bool.and_eq_true]
        exact ⟨h1, g1⟩
      · rcases List.mem_cons.mp hz with rfl | hz
        · exact ok.fre h2
        · exact g2 z hz
    · cases h
theorem setTs_len : ∀ {ts : Tgs} {ds : List D} {σ σ' : List Sl} {C : Cs} {es : List Expr}, setTs ts ds σ = some σ' → chTs ts C es = true → ds.length = es.length
  | .nil, ds, σ, σ', C, es, h, hc => by
    cases ds with
    | nil =>
      simp only [chTs] at hc
      rw [List.isEmpty_iff.mp hc]
      rfl
    | cons d ds => simp [setTs] at h
  | .cons t ts, ds, σ, σ', C, es, h, hc => by
    cases ds with
    | nil => simp [setTs] at h
    | cons d ds =>
      cases es with
      | nil => simp [chTs] at hc
      | cons e es =>
        simp only [chTs, Bool.and_eq_true] at hc
        simp only [setTs] at h
        cases z : setT t d σ with
        | none => rw [z] at h; cases h
        | some σ1 =>
          rw [z] at h
          exact congrArg (· + 1) (setTs_len h hc.2)
mutual
theorem sndT (ok : Ok F ck k W C X) : ∀ (t : Tg) {e : Expr}, chT t C e = true → PG X e (gT F t)
  | .nm i, e, h => by
    simp only [chT] at h
    split at h
    · obtain ⟨h1, h2, h3⟩ := ok.loc h
      exact snd_nm (by rw [ok.N]; exact ok.nd) h1 h2 h3
    · cases h
  | .tp ts, e, h => by
    simp only [chT] at h
    split at h
    · obtain ⟨h1, h2⟩ := band h
      exact snd_tp ok.K ok.calm h1 (fun ds σ σ' q => setTs_len q h2) (sndTs ok ts h1 h2)
    · cases h
theorem sndTs (ok : Ok F ck k W C X) : ∀ (ts : Tgs) {es : List Expr}, noStar es = true → chTs ts C es = true → PGs X es (gTs F ts)
  | .nil, es, _, h => by
    simp only [chTs] at h
    rw [List.isEmpty_iff.mp h]
    exact snd_tgNil
  | .cons t ts, es, hn, h => by
    simp only [chTs] at h
    split at h
    · obtain ⟨h1, h2⟩ := band h
      have hs := hn
      simp only [noStar, List.all_cons, Bool.and_eq_true, Bool.not_eq_true'] at hs
      exact snd_tgCons hs.1 (sndT ok t h1) (sndTs ok ts (noStar_tail hn) h2)
    · cases h
end
theorem SL.nil : SL F ck W X .nil [] := ⟨snd_nilS, snd_nilB, fun _ _ h => absurd rfl h, fun _ _ h => absurd rfl h⟩
theorem SL.cons (hs : isStar e = false) (h : S3 F ck W X x e) (hl : lenX xs = es.length) (t : SL F ck W X xs es) : SL F ck W X (.cons x xs) (e :: es) := by
  refine ⟨snd_consS hs h.s t.as, snd_consB hs h.b t.ab, fun pos ht _ => ?_, fun pos ht _ => ?_⟩
  all_goals
    simp only [isTs, List.all_cons, Bool.and_eq_true] at ht
    cases es with
    | nil =>
      cases xs with
      | nil => first | exact ⟨snd_and1 h.s, snd_and1T (h.t ht.1)⟩ | exact ⟨snd_or1 h.s, snd_or1T (h.t ht.1)⟩
      | cons => cases hl
    | cons b es =>
      cases xs with
      | nil => cases hl
      | cons xb xs =>
        first
        | (obtain ⟨a1, a2⟩ := t.and pos ht.2 (by simp); exact ⟨snd_andc h.b a1, snd_andcT (h.t ht.1) a2⟩)
        | (obtain ⟨a1, a2⟩ := t.or pos ht.2 (by simp); exact ⟨snd_orc h.b a1, snd_orcT (h.t ht.1) a2⟩)
theorem chEs_len : ∀ {xs : Exs} {C : Cs} {es : List Expr}, chEs xs C es = true → lenX xs = es.length ∧ noStar es = true
  | .nil, C, es, h => by
    simp only [chEs] at h
    rw [List.isEmpty_iff.mp h]
    exact ⟨rfl, rfl⟩
  | .cons x xs, C, es, h => by
    simp only [chEs] at h
    split at h
    · obtain ⟨h1, h2⟩ := band h
      obtain ⟨h2, h3⟩ := band h2
      obtain ⟨g1, g2⟩ := chEs_len h3
      refine ⟨congrArg (· + 1) g1, ?_⟩
      simp only [noStar, List.all_cons, Bool.and_eq_true]
      exact ⟨h1, g2⟩
    · cases h
theorem nb {a : Bool} (h : (!a) = true) : a = false := by simpa using h
theorem SL.one (h : S3 F ck W X x e) (hs : isStar e = false) : SL F ck W X (.cons x .nil) [e] := SL.cons hs h rfl SL.nil
theorem Ok.nd' (ok : Ok F ck k W C X) : X.N.Nodup := by rw [ok.N]; exact ok.nd
theorem tgOwn_snd (C : Cs) (t : Tg) : (tgOwn C t).map (·.2) = tgs t := by
  unfold tgOwn
  rw [List.map_map]
  exact List.map_id _
theorem ev_lc_own {elt : Ex} {tg : Tg} {it : Itr} {cd : Exo} {σ : List Sl} {R R' : RH} {d : D} (h : ev ck (.lc elt tg it cd) σ R = .ok d R') : ownable d = true := by
  rw [ev_lc] at h
  obtain ⟨ds, R1, _, h2⟩ := ok_bind h
  obtain ⟨l, R2, _, h4⟩ := ok_bind h2
  cases h4
  rfl
theorem bltE_spec {f : Blt} {r : List Expr → Bool} (h : bltE f C e r = true) : ∃ p e0 es pos, e = .Call (.Name (bltN f) p) (e0 :: es) [] pos ∧ C.fre (bltN f) = true ∧ noStar (e0 :: es) = true ∧ r (e0 :: es) = true := by
  cases e <;> first | (cases h; done) | skip
  rename_i fn args kws pos
  cases fn <;> first | (cases h; done) | skip
  rename_i n p
  cases kws <;> first | (cases h; done) | skip
  cases args with
  | nil =>
    have h : (decide (n = bltN f) && (C.fre (bltN f) && (false && (noStar [] && r [])))) = true := h
    simp at h
  | cons e0 es =>
    have h : (decide (n = bltN f) && (C.fre (bltN f) && (true && (noStar (e0 :: es) && r (e0 :: es))))) = true := h
    simp only [Bool.and_eq_true, decide_eq_true_eq] at h
    obtain ⟨rfl, h2, _, h3, h4⟩ := h
    exact ⟨p, e0, es, pos, rfl, h2, h3, h4⟩
mutual
theorem sndE : ∀ (x : Ex) {W : XW} {C : Cs} {X : Cx} {e : Expr}, Ok F ck k W C X → chE x C e = true → S3 F ck W X x e
  | .var i, W, C, X, e, ok, h => by
    simp only [chE] at h
    split at h
    · exact ⟨snd_varS (ok.var h), snd_varB (ok.var h), fun _ => snd_val rfl (snd_varS (ok.var h))⟩
    · cases h
  | .con d, W, C, X, e, ok, h => by
    simp only [chE] at h
    obtain ⟨h1, h2⟩ := ok.con' h
    exact S3.plain rfl h1 h2
  | .tup xs, W, C, X, e, ok, h => by
    simp only [chE] at h
    split at h
    · obtain ⟨h1, h2⟩ := band h
      exact S3.no rfl (snd_tup (sndL xs ok h2).as (of_decide_eq_true h1)) rfl
    · cases h
  | .lst xs, W, C, X, e, ok, h => by
    simp only [chE] at h
    split at h
    · obtain ⟨h1, h2⟩ := band h
      exact S3.no rfl (snd_lst (sndL xs ok h2).as (of_decide_eq_true h1)) rfl
    · cases h
  | .bin o a b, W, C, X, e, ok, h => by
    simp only [chE] at h
    split at h
    · obtain ⟨h1, h2⟩ := band h
      obtain ⟨h2, h3⟩ := band h2
      rw [of_decide_eq_true h1]
      exact S3.no rfl (snd_bin ok.K o (sndE a ok h2).b (sndE b ok h3).b) rfl
    · cases h
  | .neg a, W, C, X, e, ok, h => by
    simp only [chE] at h
    split at h
    · exact S3.no rfl (snd_neg (sndE a ok h).b) rfl
    · cases h
  | .cmp o a b, W, C, X, e, ok, h => by
    simp only [chE] at h
    split at h
    · obtain ⟨h1, h2⟩ := band h
      obtain ⟨h2, h3⟩ := band h2
      obtain ⟨h3, h4⟩ := band h3
      rw [of_decide_eq_true h1]
      have s := fun p => snd_cmp (pos := p) (o := o) ok.K ok.hu h2 (sndE a ok h3).b (sndE b ok h4).b
      exact ⟨s _, tB_of rfl (s _), fun _ => snd_cmpT ok.K ok.hu h2 (sndE a ok h3).b (sndE b ok h4).b⟩
    · cases h
  | .ch2 o p a b c, W, C, X, e, ok, h => by
    simp only [chE] at h
    split at h
    · obtain ⟨h1, h2⟩ := band h
      obtain ⟨h2, h3⟩ := band h2
      obtain ⟨h3, h4⟩ := band h3
      obtain ⟨h4, h5⟩ := band h4
      obtain ⟨h5, h6⟩ := band h5
      rw [of_decide_eq_true h1, of_decide_eq_true h2]
      have s := fun q => snd_ch (pos := q) (o := o) (o2 := p) ok.K ok.hu h3 (sndE a ok h4).b (sndE b ok h5).b (sndE c ok h6).b
      exact ⟨s _, tB_of rfl (s _), fun _ => snd_chT ok.K ok.hu h3 (sndE a ok h4).b (sndE b ok h5).b (sndE c ok h6).b⟩
    · cases h
  | .and a xs, W, C, X, e, ok, h => by
    simp only [chE] at h
    split at h
    · obtain ⟨h1, h2⟩ := band h
      obtain ⟨h2, h3⟩ := band h2
      obtain ⟨h3, h4⟩ := band h3
      obtain ⟨l1, l2⟩ := (sndL xs ok h4).and _ h2 (by simp)
      have s := snd_and (sndE a ok h3).b l1
      exact ⟨s, tB_of rfl s, fun _ => snd_andT ((sndE a ok h3).t h1) l2⟩
    · cases h
  | .or a xs, W, C, X, e, ok, h => by
    simp only [chE] at h
    split at h
    · obtain ⟨h1, h2⟩ := band h
      obtain ⟨h2, h3⟩ := band h2
      obtain ⟨h3, h4⟩ := band h3
      obtain ⟨l1, l2⟩ := (sndL xs ok h4).or _ h2 (by simp)
      have s := snd_or (sndE a ok h3).b l1
      exact ⟨s, tB_of rfl s, fun _ => snd_orT ((sndE a ok h3).t h1) l2⟩
    · cases h
  | .not a, W, C, X, e, ok, h => by
    simp only [chE] at h
    split at h
    · obtain ⟨h1, h2⟩ := band h
      have s := fun p => snd_not (pos := p) (sndE a ok h2).b
      exact ⟨s _, tB_of rfl (s _), fun _ => snd_notT ((sndE a ok h2).t h1)⟩
    · cases h
  | .ite c a b, W, C, X, e, ok, h => by
    simp only [chE] at h
    split at h
    · obtain ⟨h1, h2⟩ := band h
      obtain ⟨h2, h3⟩ := band h2
      obtain ⟨h3, h4⟩ := band h3
      exact S3.no rfl (snd_ite ((sndE c ok h2).t h1) (sndE a ok h3).s (sndE b ok h4).s) rfl
    · cases h
  | .call f xs, W, C, X, e, ok, h => by
    simp only [chE] at h
    split at h
    · rename_i es pos
      obtain ⟨h1, g1⟩ := band h
      obtain ⟨h2, g2⟩ := band g1
      obtain ⟨h3, g3⟩ := band g2
      obtain ⟨h4, h5⟩ := band g3
      clear h g1 g2 g3
      have G := ok.fns _ _ _ (of_decide_eq_true h3)
      cases es with
      | nil =>
        have hl := (chEs_len h5).1
        cases xs with
        | nil => exact S3.plain rfl (snd_call0 G ok.room (ok.gl h1) ok.tk (nb h2)) fun _ => rfl
        | cons => cases hl
      | cons e0 es => exact S3.plain rfl (snd_call G ok.room (ok.gl h1) ok.tk (nb h2) h4 (sndL xs ok h5).as) fun _ => rfl
    · cases h
  | .blt f xs, W, C, X, e, ok, h => by
    by_cases hf : f = .lrange
    · subst hf
      match xs, h with
      | .cons a .nil, h =>
        simp only [chE] at h
        split at h
        · obtain ⟨h1, h2⟩ := band h
          obtain ⟨h2, h3⟩ := band h2
          obtain ⟨h3, h4⟩ := band h3
          obtain ⟨h4, h5⟩ := band h4
          obtain ⟨h5, h6⟩ := band h5
          rw [of_decide_eq_true h1, of_decide_eq_true h2]
          exact S3.plain rfl (snd_lrange1 ok.calm (ok.fre h3).1 (ok.fre h3).2 (ok.fre h4).1 (ok.fre h4).2 h5 (sndE a ok h6).b) fun _ => rfl
        · cases h
      | .cons a (.cons b .nil), h =>
        simp only [chE] at h
        split at h
        · obtain ⟨h1, h2⟩ := band h
          obtain ⟨h2, h3⟩ := band h2
          obtain ⟨h3, h4⟩ := band h3
          obtain ⟨h4, h5⟩ := band h4
          obtain ⟨h5, h6⟩ := band h5
          obtain ⟨h6, h7⟩ := band h6
          rw [of_decide_eq_true h1, of_decide_eq_true h2]
          exact S3.plain rfl (snd_lrange2 ok.calm (ok.fre h3).1 (ok.fre h3).2 (ok.fre h4).1 (ok.fre h4).2 h5 (sndE a ok h6).b (sndE b ok h7).b) fun _ => rfl
        · cases h
      | .nil, h => simp [chE] at h
      | .cons a (.cons b (.cons c xs)), h => simp [chE] at h
    · have h : bltE f C e (fun es => chEs xs C es) = true := by
        cases f <;> first | exact absurd rfl hf | (simpa only [chE] using h)
      obtain ⟨p, e0, es, pos, rfl, h2, h4, h5⟩ := bltE_spec h
      exact S3.plain rfl (snd_blt ok.K ok.calm hf (ok.fre h2).1 (ok.fre h2).2 h4 (sndL xs ok h5).ab) fun _ => rfl
  | .isi ks a, W, C, X, e, ok, h => by
    simp only [chE] at h
    split at h
    · obtain ⟨h1, z1⟩ := band h
      rw [of_decide_eq_true h1]
      obtain ⟨h2, z2⟩ := band z1
      obtain ⟨h3, z3⟩ := band z2
      obtain ⟨h4, h5⟩ := band z3
      clear h z1 z2 z3
      obtain ⟨g1, g2⟩ := kdsOf_kdsE ok h4
      match ks, g1, g2 with
      | [q], g1, g2 =>
        simp only [kdsE, Bool.and_eq_true] at g1
        rw [of_decide_eq_true g1.1]
        exact S3.plain rfl (snd_isi1 ok.K q (ok.fre h2).1 (ok.fre h2).2 (g2 q List.mem_cons_self).1 (g2 q List.mem_cons_self).2 (nb h3) (sndE a ok h5).b) fun _ => rfl
      | [], g1, _ => simp [kdsE] at g1
      | _ :: _ :: _, g1, _ => simp [kdsE] at g1
    · obtain ⟨h1, h2⟩ := band h
      obtain ⟨h2, h3⟩ := band h2
      obtain ⟨h3, h4⟩ := band h3
      obtain ⟨h4, h5⟩ := band h4
      obtain ⟨h5, h6⟩ := band h5
      obtain ⟨h6, h7⟩ := band h6
      rw [of_decide_eq_true h1]
      obtain ⟨g1, g2⟩ := kdsOf_kdsE ok h6
      exact S3.plain rfl (snd_isiT ok.K g1 (of_decide_eq_true h4) (by intro z; subst z; cases h5) (ok.fre h2).1 (ok.fre h2).2 (fun q hq => (g2 q hq).1) (fun q hq => (g2 q hq).2) (nb h3) (sndE a ok h7).b) fun _ => rfl
    · cases h
  | .meth m o xs, W, C, X, e, ok, h => by
    match xs, h with
    | .cons a .nil, h =>
      simp only [chE] at h
      split at h
      · obtain ⟨h1, h2⟩ := band h
        obtain ⟨h2, h3⟩ := band h2
        obtain ⟨h3, h4⟩ := band h3
        obtain ⟨h4, h5⟩ := band h4
        obtain ⟨h5, h6⟩ := band h5
        obtain ⟨h6, h7⟩ := band h6
        rw [of_decide_eq_true h1]
        cases m <;> first | (cases h2; done) | skip
        exact S3.plain rfl (snd_index ok.K ok.hu (nb h5) (notCall_base h4) h3 (sndE o ok h6).b (sndE a ok h7).b) fun _ => rfl
      · cases h
    | .nil, h => simp [chE] at h
    | .cons a (.cons b xs), h => simp [chE] at h
  | .idx a i, W, C, X, e, ok, h => by
    simp only [chE] at h
    split at h
    · obtain ⟨h1, h2⟩ := band h
      obtain ⟨h2, h3⟩ := band h2
      exact S3.plain rfl (snd_idx ok.K h1 (sndE a ok h2).b (sndE i ok h3).b) fun _ => rfl
    · cases h
  | .slc a lo hi, W, C, X, e, ok, h => by
    simp only [chE] at h
    split at h
    · obtain ⟨h1, h2⟩ := band h
      obtain ⟨h2, h3⟩ := band h2
      exact S3.plain rfl (snd_slc ok.K (sndE a ok h1).b (sndO lo ok h2) (sndO hi ok h3)) fun _ => rfl
    · cases h
  | .rev a, W, C, X, e, ok, h => by
    simp only [chE] at h
    split at h
    · obtain ⟨h1, h2⟩ := band h
      rw [of_decide_eq_true h1]
      exact S3.plain rfl (snd_rev ok.K (sndE a ok h2).b) fun _ => rfl
    · cases h
  | .lc x t it cd, W, C, X, e, ok, h => by
    simp only [chE] at h
    split at h
    · obtain ⟨h1, h2⟩ := band h
      obtain ⟨h2, h3⟩ := band h2
      obtain ⟨h3, h4⟩ := band h3
      obtain ⟨h4, h5⟩ := band h4
      obtain ⟨h5, h6⟩ := band h5
      obtain ⟨h6, h7⟩ := band h6
      rw [of_decide_eq_true h1]
      exact S3.no rfl (tS_ofF rfl (fun _ _ _ _ h => ev_lc_own h) (snd_lcF ok.calm ok.nd' (sndI it ok h4 false) (by rw [ok.N, ok.sc]; exact blkOk_by h3) (tgOwn_snd C t)
        (fun s H Cc cl fp => sndT ok.blk t h5) (fun s H Cc cl fp => sndC cd ok.blk h6) (fun s H Cc cl fp => (sndE x ok.blk h7).s) (notSet_iter h2))) rfl
    · cases h
theorem sndL : ∀ (xs : Exs) {W : XW} {C : Cs} {X : Cx} {es : List Expr}, Ok F ck k W C X → chEs xs C es = true → SL F ck W X xs es
  | .nil, W, C, X, es, ok, h => by
    simp only [chEs] at h
    rw [List.isEmpty_iff.mp h]
    exact SL.nil
  | .cons x xs, W, C, X, es, ok, h => by
    simp only [chEs] at h
    split at h
    · obtain ⟨h1, h2⟩ := band h
      obtain ⟨h2, h3⟩ := band h2
      exact SL.cons (nb h1) (sndE x ok h2) (chEs_len h3).1 (sndL xs ok h3)
    · cases h
theorem sndO : ∀ (x : Exo) {W : XW} {C : Cs} {X : Cx} {e : Option Expr}, Ok F ck k W C X → chO x C e = true → PO X e (tO F W ck x)
  | .no, W, C, X, e, ok, h => by
    simp only [chO] at h
    cases e with
    | none => exact snd_noPart
    | some e => cases h
  | .so x, W, C, X, e, ok, h => by
    simp only [chO] at h
    split at h
    · exact snd_part (sndE x ok h).b
    · cases h
theorem sndC : ∀ (x : Exo) {C : Cs} {X : Cx} {es : List Expr}, Ok F ck k noXW C X → chC x C es = true → PTs X es (tC F ck x)
  | .no, C, X, es, ok, h => by
    simp only [chC] at h
    rw [List.isEmpty_iff.mp h]
    exact pts_nil
  | .so x, C, X, es, ok, h => by
    simp only [chC] at h
    split at h
    · obtain ⟨h1, h2⟩ := band h
      exact pts_one ((sndE x ok h2).t h1)
    · cases h
theorem sndI : ∀ (x : Itr) {W : XW} {C : Cs} {X : Cx} {t e : Expr}, Ok F ck k W C X → chI x C t e = true → ∀ st, PI X t e (tI F W ck st x)
  | .ex x, W, C, X, t, e, ok, h, st => by
    simp only [chI] at h
    exact snd_itEx ok.K (tX_of (sndE x ok h).b (sndE x ok h).s)
  | .rng a, W, C, X, t, e, ok, h, st => by
    simp only [chI] at h
    split at h
    · obtain ⟨h1, h2⟩ := band h
      obtain ⟨h2, h3⟩ := band h2
      obtain ⟨h3, h4⟩ := band h3
      rw [of_decide_eq_true h1]
      exact snd_itRng1 (ok.fre h2).1 (ok.fre h2).2 (nb h3) (sndE a ok h4).b
    · cases h
  | .rng2 a b, W, C, X, t, e, ok, h, st => by
    simp only [chI] at h
    split at h
    · obtain ⟨h1, h2⟩ := band h
      obtain ⟨h2, h3⟩ := band h2
      obtain ⟨h3, h4⟩ := band h3
      obtain ⟨h4, h5⟩ := band h4
      rw [of_decide_eq_true h1]
      exact snd_itRng2 (ok.fre h2).1 (ok.fre h2).2 h3 (sndE a ok h4).b (sndE b ok h5).b
    · cases h
  | .enu a, W, C, X, t, e, ok, h, st => by
    simp only [chI] at h
    split at h
    · obtain ⟨h1, h2⟩ := band h
      obtain ⟨h2, h3⟩ := band h2
      obtain ⟨h3, h4⟩ := band h3
      rw [of_decide_eq_true h1]
      exact snd_itEnu ok.K (ok.fre h2).1 (ok.fre h2).2 (nb h3) (tX_of (sndE a ok h4).b (sndE a ok h4).s)
    · cases h
  | .zip a b, W, C, X, t, e, ok, h, st => by
    simp only [chI] at h
    split at h
    · obtain ⟨h1, h2⟩ := band h
      obtain ⟨h2, h3⟩ := band h2
      obtain ⟨h3, h4⟩ := band h3
      obtain ⟨h4, h5⟩ := band h4
      rw [of_decide_eq_true h1]
      exact snd_itZip ok.K (ok.fre h2).1 (ok.fre h2).2 h3 (tX_of (sndE a ok h4).b (sndE a ok h4).s) (tX_of (sndE b ok h5).b (sndE b ok h5).s)
    · cases h
end
end
end Cw

end
section
/-! CwX: own syntax is the text's: statements. -/
namespace Cw
open PySem L2 PyProof.Rows PySem.W
def notComp (e : Expr) : Bool := match e with
  | .ListComp .. | .SetComp .. | .DictComp .. => false
  | _ => true
def bkOf (k : ScopeKind) : ScopeKind := if k.isAnnotationScope then .function else k
/-- the stores of a, b = x, y -/
def swp (C : Cs) (ts vs : List Expr) : Option (Option (List Str)) :=
  if (!(ts.length == 2 || ts.length == 3) || vs.length != ts.length || bkOf C.sc.kind != .function) = true then some none
  else if (vs.any fun | .Starred .. => true | _ => false) = true then some none
  else
    let line := (ts.head?.map (·.pos.line)).getD 0
    let names := ts.filterMap fun
      | .Name id pos => if C.sc.names.lookup id == some .local && pos.line == line then some id else none
      | _ => none
    if (names.length != ts.length || names.eraseDups.length != names.length) = true then some none
    else if vs.all (foldedForSure 8) = true then some none
    else if vs.all (constantsAlone 8) = true then none
    else some (some names)
theorem swp_ok {C : Cs} {env : Env} {ts vs : List Expr} {k k2 : Nat} {p p2 : Pos} {r : Option (List Str)} (hs : env.scope = C.sc) (h : swp C ts vs = some r) : swappedStores [.Tuple ts k p] (.Tuple vs k2 p2) env = pure r := by
  unfold swp at h
  unfold swappedStores
  have hb : env.blockKind = bkOf C.sc.kind := by rw [← hs]; rfl
  have hk : ∀ id, env.kindOf id = C.sc.names.lookup id := fun id => by rw [← hs]; rfl
  simp only [hb, hk]
  split at h
  · rename_i q
    cases h
    exact if_pos q
  · rename_i q
    refine (if_neg q).trans ?_
    split at h
    · rename_i q2
      cases h
      exact if_pos q2
    · rename_i q2
      refine (if_neg q2).trans ?_
      dsimp only at h
      split at h
      · rename_i q3
        cases h
        exact if_pos q3
      · rename_i q3
        refine (if_neg q3).trans ?_
        split at h
        · rename_i q4
          cases h
          exact if_pos q4
        · rename_i q4
          refine (if_neg q4).trans ?_
          split at h
          · cases h
          · rename_i q5
            cases h
            exact if_neg q5
/-- name = [..]: does it swap -/
def swl (C : Cs) (scope : Scope) (y : Str) (py vp : Pos) : Bool := bkOf C.sc.kind == .function && C.sc.names.lookup y == some .local && py.line == vp.line && !(scope.names.any fun (n, k) => n == y && (k == .local || k == .cell))
theorem swl_ok {C : Cs} {env : Env} {ex : Expr} {gs : List Comprehension} {scope : Scope} {pos py : Pos} {y : Str} {l : Nat} (hs : env.scope = C.sc) : swapsWith (.ListComp ex gs scope pos) (some (.Name y py)) l env = pure (swl C scope y py pos) := by
  have hb : env.blockKind = bkOf C.sc.kind := by rw [← hs]; rfl
  have hk : ∀ id, env.kindOf id = C.sc.names.lookup id := fun id => by rw [← hs]; rfl
  unfold swapsWith swl
  simp only [hb, hk]
  rfl
theorem sw_not {e : Expr} {t : Option Expr} {l : Nat} {env : Env} (h : notComp e = true) : swapsWith e t l env = pure false := by
  cases e <;> first | rfl | cases h
theorem sw_tup {e : Expr} {ts : List Expr} {k : Nat} {p : Pos} {l : Nat} {env : Env} : swapsWithSole [.Tuple ts k p] e l env = pure false := by
  cases e <;> rfl
/-! ### new lists -/
def chF (x : Ex) (C : Cs) (e : Expr) : Bool := match x with
  | .lst xs => (match e with
    | .List es _ => decide (lenX xs ≤ 1000) && chEs xs C es
    | _ => false)
  | .bin .mul a b => (match e with
    | .BinOp ea .Mult eb _ => chE a C ea && chE b C eb
    | _ => false)
  | .blt .list (.cons a .nil) => (match e with
    | .Call (.Name n _) [ea] [] _ => decide (n = "list") && (C.fre "list" && (!isStar ea && chE a C ea))
    | _ => false)
  | .lc .. => (match e with
    | .ListComp .. => chE x C e
    | _ => false)
  | _ => false
section
variable {F : Fx} {ck : Nat → List D → RH → Res D} {k : Nat} {W : XW} {C : Cs} {X : Cx} {x : Ex} {e : Expr} {es : List Expr} {xs : Exs}
theorem sndLc {xe : Ex} {t : Tg} {it : Itr} {cd : Exo} (ok : Ok F ck k W C X) (h : chE (.lc xe t it cd) C e = true) : PE X e (tF F W ck (.lc xe t it cd)) := by
  simp only [chE] at h
  split at h
  · obtain ⟨h1, h2⟩ := band h
    obtain ⟨h2, h3⟩ := band h2
    obtain ⟨h3, h4⟩ := band h3
    obtain ⟨h4, h5⟩ := band h4
    obtain ⟨h5, h6⟩ := band h5
    obtain ⟨h6, h7⟩ := band h6
    rw [of_decide_eq_true h1]
    exact snd_lcF ok.calm ok.nd' (sndI it ok h4 false) (by rw [ok.N, ok.sc]; exact blkOk_by h3) (tgOwn_snd C t)
      (fun s H Cc cl fp => sndT ok.blk t h5) (fun s H Cc cl fp => sndC cd ok.blk h6) (fun s H Cc cl fp => (sndE xe ok.blk h7).s) (notSet_iter h2)
  · cases h
/-- name = [..], swapping -/
theorem sndLcSw {xe : Ex} {t : Tg} {it : Itr} {cd : Exo} {ex : Expr} {gs : List Comprehension} {scope : Scope} {pos py spos : Pos} {y : Str} {i : Nat} (ok : Ok F ck k W C X) (h : chE (.lc xe t it cd) C (.ListComp ex gs scope pos) = true) (hl : C.loc i y = true) (hs : swl C scope y py pos = true) :
    PS X (.Assign [.Name y py] (.ListComp ex gs scope pos) spos) (tAsg (tF F W ck (.lc xe t it cd)) (gName i)) := by
  have hy : X.env.scope.names.lookup y = some .local := by
    rw [ok.sc]
    unfold swl at hs
    simp only [Bool.and_eq_true, beq_iff_eq] at hs
    exact hs.1.1.2
  have sw := swl_ok (ex := ex) (gs := gs) (scope := scope) (pos := pos) (py := py) (y := y) (l := spos.line) ok.sc
  rw [hs] at sw
  simp only [chE] at h
  split at h
  · rename_i q
    cases q
    obtain ⟨h1, h2⟩ := band h
    obtain ⟨h2, h3⟩ := band h2
    obtain ⟨h3, h4⟩ := band h3
    obtain ⟨h4, h5⟩ := band h4
    obtain ⟨h5, h6⟩ := band h5
    obtain ⟨h6, h7⟩ := band h6
    have e1 := of_decide_eq_true h1
    subst e1
    exact snd_setLc ok.calm ok.nd' (ok.loc hl).1 hy sw (sndI it ok h4 false) (by rw [ok.N, ok.sc]; exact blkOk_by h3) (tgOwn_snd C t)
      (fun s H Cc cl fp => sndT ok.blk t h5) (fun s H Cc cl fp => sndC cd ok.blk h6) (fun s H Cc cl fp => (sndE xe ok.blk h7).s) (notSet_iter h2)
  · cases h
theorem sndF (ok : Ok F ck k W C X) (h : chF x C e = true) : PE X e (tF F W ck x) := by
  unfold chF at h
  split at h
  · split at h
    · obtain ⟨h1, h2⟩ := band h
      exact fr_lst (sndL _ ok h2).as (of_decide_eq_true h1)
    · cases h
  · split at h
    · obtain ⟨h1, h2⟩ := band h
      exact fr_rep (sndE _ ok h1).b (sndE _ ok h2).b
    · cases h
  · split at h
    · obtain ⟨h1, h2⟩ := band h
      obtain ⟨h2, h3⟩ := band h2
      obtain ⟨h3, h4⟩ := band h3
      rw [of_decide_eq_true h1]
      exact fr_list ok.K ok.calm (ok.fre h2).1 (ok.fre h2).2 (nb h3) (sndE _ ok h4).b
    · cases h
  · split at h
    · exact sndLc ok h
    · cases h
  · cases h
end
/-! ### statements -/
def chSE (s : SE) (C : Cs) (e : Expr) : Bool := match s with
  | .ex x => chE x C e
  | .pop i => (match e with
    | .Call (.Attribute (.Name x _) n apos) [] [] cpos => decide (n = "pop") && (C.vis i x && (apos.endLine == cpos.line))
    | _ => false)
  | .popAt i a => (match e with
    | .Call (.Attribute (.Name x _) n apos) [ea] [] cpos => decide (n = "pop") && (C.vis i x && ((apos.endLine == cpos.line) && (!isStar ea && chE a C ea)))
    | _ => false)
  | .nref x => chF x C e
section
variable {F : Fx} {ck : Nat → List D → RH → Res D} {k : Nat} {W : XW} {C : Cs} {X : Cx} {x : Ex} {e : Expr} {es : List Expr} {xs : Exs}
theorem sndSE {s : SE} (ok : Ok F ck k W C X) (h : chSE s C e = true) : PE X e (tSE F W ck s) := by
  unfold chSE at h
  split at h
  · exact seEx (sndE _ ok h).s
  · split at h
    · obtain ⟨h1, h2⟩ := band h
      obtain ⟨h2, h3⟩ := band h2
      rw [of_decide_eq_true h1]
      exact sePop (ok.var h2) rfl h3
    · cases h
  · split at h
    · obtain ⟨h1, h2⟩ := band h
      obtain ⟨h2, h3⟩ := band h2
      obtain ⟨h3, h4⟩ := band h3
      obtain ⟨h4, h5⟩ := band h4
      rw [of_decide_eq_true h1]
      exact sePopAt ok.K (ok.var h2) (nb h4) rfl h3 (sndE _ ok h5).b
    · cases h
  · exact seNref (sndF ok h)
end
def chP : List (Nat × Bool) → Exs → Cs → List Expr → Bool
  | [], .nil, _, es => es.isEmpty
  | (_, b) :: is, .cons x xs, C, e :: es => !isStar e && ((if b = true then chF x C e else chE x C e) && chP is xs C es)
  | _, _, _, _ => false
def chNs : List (Nat × Bool) → Cs → List Expr → Bool
  | [], _, es => es.isEmpty
  | (i, _) :: is, C, e :: es => (match e with
    | .Name x _ => C.loc i x
    | _ => false) && chNs is C es
  | _, _, _ => false
def tsNames (ts : List Expr) : List Str := ts.map fun
  | .Name x _ => x
  | _ => Str.empty
def isTup (e : Expr) : Bool := match e with
  | .Tuple .. => true
  | _ => false
def isVar' : SE → Bool
  | .ex (.var _) => true
  | _ => false
mutual
def chS : Sm → Cs → Stmt → Bool
  | .set i s, C, st => (match st with
    | .Assign [.Name y py] e _ => C.loc i y && (chSE s C e && (match e with
      | .ListComp _ _ scope pos => (match s with
        | .ex (.lc ..) => true
        | .nref (.lc ..) => true
        | .ex _ => false
        | _ => !swl C scope y py pos)
      | _ => notComp e))
    | _ => false)
  | .own i x, C, st => (match st with
    | .Assign [.Name y _] e _ => C.loc i y && chF x C e
    | _ => false)
  | .unp ts s, C, st => (match st with
    | .Assign [.Tuple es k p] e _ => !isTup e && (chSE s C e && chT (.tp ts) C (.Tuple es k p))
    | _ => false)
  | .par is xs, C, st => (match st with
    | .Assign [.Tuple ts _ _] (.Tuple es _ _) _ => chP is xs C es && (chNs is C ts && (noStar ts && (decide (is.length ≤ 1000) && (match swp C ts es with
      | some none => true
      | some (some ns) => decide (ns = tsNames ts) && (decide (is.length = 2 ∨ is.length = 3) && (decide ((is.map (·.1)).Nodup) && (ns.all fun y => decide (C.sc.names.lookup y = some .local))))
      | none => false))))
    | _ => false)
  | .xpr s, C, st => (match st with
    | .Expr e _ => notComp e && chSE s C e
    | _ => false)
  | .app i s, C, st => (match st with
    | .Expr (.Call (.Attribute (.Name x _) n apos) [e] [] cpos) _ => decide (n = "append") && (C.vis i x && ((apos.endLine == cpos.line) && (!isStar e && chSE s C e)))
    | _ => false)
  | .ext i a, C, st => (match st with
    | .Expr (.Call (.Attribute (.Name x _) n apos) [e] [] cpos) _ => decide (n = "extend") && (C.vis i x && ((apos.endLine == cpos.line) && (!isStar e && chE a C e)))
    | _ => false)
  | .sub i a x, C, st => (match st with
    | .Assign [.Subscript (.Name n _) ea _] e _ => C.vis i n && (notSlc ea && (notComp e && (chE a C ea && chE x C e)))
    | _ => false)
  | .aug i o x, C, st => (match st with
    | .AugAssign (.Name y _) op e _ => decide (op = opA o) && (C.loc i y && chE x C e)
    | _ => false)
  | .rsb r a x, C, st => (match st with
    | .Assign [.Subscript er ea _] e _ => notSlc ea && (notComp e && (chE r C er && (chE a C ea && chE x C e)))
    | _ => false)
  | .rpp r a, C, st => (match st with
    | .Expr (.Call (.Attribute er n apos) [e] [] cpos) _ => decide (n = "pop") && (notCallE er && ((apos.endLine == cpos.line) && (!isStar e && (chE r C er && chE a C e))))
    | _ => false)
  | .ite c a b, C, st => (match st with
    | .If ec sa sb _ => isT ec && (chE c C ec && (chSs a C sa && chSs b C sb))
    | _ => false)
  | .for_ t it b, C, st => (match st with
    | .For et ei sb [] _ => notSetE ei && (chI it C et ei && (chT t C et && chSs b C sb))
    | _ => false)
  | .whl c b, C, st => (match st with
    | .While ec sb [] _ => isT ec && (chE c C ec && chSs b C sb)
    | _ => false)
  | .ret s, C, st => (match st with
    | .Return (some e) _ => chSE s C e
    | _ => false)
  | .retN, _, st => (match st with
    | .Return none _ => true
    | _ => false)
  | .raise c, C, st => (match st with
    | .Raise (some (.Call (.Name x _) [] [] _)) none _ => C.gl x && (!(x == ("__debug__" : Str)) && decide (C.G.cls[c]? = some x))
    | _ => false)
  | .pas, _, st => (match st with
    | .Pass _ => true
    | _ => false)
  | .brk, _, st => (match st with
    | .Break _ => true
    | _ => false)
  | .cnt, _, st => (match st with
    | .Continue _ => true
    | _ => false)
  | .su2 .., _, _ => false
  | .asb .., _, _ => false
  | .esc _, _, _ => false
  | .kil _, _, _ => false
def chSs : Sms → Cs → List Stmt → Bool
  | .nil, _, ss => ss.isEmpty
  | .cons s ss, C, ts => (match s with
    | .esc _ => chSs ss C ts
    | _ => (match ts with
      | t :: ts => chS s C t && chSs ss C ts
      | [] => false))
end
end Cw

end
section
/-! CwY: own syntax keeps its word: statements. -/
namespace Cw
open PySem L2 PyProof.Rows PySem.W
/-- a def's body -/
structure OkS (F : Fx) (ck : Nat → List D → RH → Res D) (k : Nat) (W : XW) (C : Cs) (X : Cx) : Prop where
  ok : Ok F ck k W C X
  pass : PassesOwn (model X.prog X.w) X.A X.env X.xe
  cls : ∀ (c : Nat) (x : Str), C.G.cls[c]? = some x → ∃ Cc, X.mg x = some (.ref Cc) ∧ F.ca c = some Cc ∧ PySem.W.excIn X.K Cc He.veBase "ValueError.__new__" = true ∧ PySem.W.keepIn X.K (.ref Cc) = true ∧ Raises X (.ref Cc)
section
variable {F : Fx} {ck : Nat → List D → RH → Res D} {fu k : Nat} {W : XW} {C : Cs} {X : Cx} {e : Expr} {es : List Expr} {pos : Pos}
theorem snd_retE {s : SE} (hs : ∀ σ R, exec ck fu (.ret s) σ R = (evSE ck s σ R).bind fun p R => .ok (.rt p.1, p.2) R) (h : PE X e (tSE F W ck s)) : PS X (.Return (some e) pos) (tSt F W ck fu (.ret s)) :=
  PS.by (ps_ret h) fun Dn σV H ⟨A, ρ, al, σ, R, r, p⟩ => ⟨A, ρ, al, σ, R, r, by
    rw [hs] at p
    cases q : evSE ck s σ R with
    | ok a R' =>
      obtain ⟨d, σ'⟩ := a
      rw [q] at p
      exact fun v H' ρ' r' q' => p v ρ' al σ' σV H' r' q'
    | exc c R' => rw [q] at p; exact fun H' ρ' σ' a => p ρ' al σ' σV H' a
    | bad => rw [q] at p; exact p⟩
theorem chP_ok (ok : Ok F ck k W C X) : ∀ {is : List (Nat × Bool)} {xs : Exs} {es : List Expr}, chP is xs C es = true → PA X es (tP F W ck is xs)
  | [], .nil, es, h => by
    simp only [chP] at h
    rw [List.isEmpty_iff.mp h]
    exact snd_nilP
  | [], .cons _ _, es, h => by simp [chP] at h
  | _ :: _, .nil, es, h => by simp [chP] at h
  | (i, b) :: is, .cons x xs, [], h => by simp [chP] at h
  | (i, b) :: is, .cons x xs, e :: es, h => by
    simp only [chP] at h
    obtain ⟨h1, h2⟩ := band h
    obtain ⟨h2, h3⟩ := band h2
    cases b with
    | true =>
      rw [if_pos rfl] at h2
      exact snd_consPo (nb h1) (sndF ok h2) (chP_ok ok h3)
    | false =>
      rw [if_neg Bool.false_ne_true] at h2
      exact snd_consPs (nb h1) (sndE x ok h2).s (chP_ok ok h3)
theorem chNs_ok (ok : Ok F ck k W C X) : ∀ {is : List (Nat × Bool)} {ts : List Expr}, chNs is C ts = true → PGs X ts (gN is) ∧ is.length = ts.length ∧ ∀ z ∈ is, z.1 < X.N.length
  | [], ts, h => by
    simp only [chNs] at h
    rw [List.isEmpty_iff.mp h]
    exact ⟨gN_nil, rfl, fun _ h => nomatch h⟩
  | (i, b) :: is, [], h => by simp [chNs] at h
  | (i, b) :: is, e :: ts, h => by
    simp only [chNs] at h
    obtain ⟨h1, h2⟩ := band h
    split at h1
    · obtain ⟨l1, l2, l3⟩ := ok.loc h1
      obtain ⟨g1, g2, g3⟩ := chNs_ok ok h2
      refine ⟨gN_cons ok.nd' l1 l2 l3 g1, congrArg (· + 1) g2, fun z hz => ?_⟩
      rcases List.mem_cons.mp hz with rfl | hz
      · exact (List.getElem?_eq_some_iff.mp l1).1
      · exact g3 z hz
    · cases h1
theorem name_of {i : Nat} {e : Expr} (h : (match e with
    | .Name x _ => C.loc i x
    | _ => false) = true) : ∃ x p, e = .Name x p ∧ C.loc i x = true := by
  split at h
  · exact ⟨_, _, rfl, h⟩
  · cases h
theorem chP_len : ∀ {is : List (Nat × Bool)} {xs : Exs} {es : List Expr}, chP is xs C es = true → es.length = is.length
  | [], .nil, es, h => by
    simp only [chP] at h
    rw [List.isEmpty_iff.mp h] <;> rfl
  | [], .cons _ _, es, h => by simp [chP] at h
  | _ :: _, .nil, es, h => by simp [chP] at h
  | (i, b) :: is, .cons x xs, [], h => by simp [chP] at h
  | (i, b) :: is, .cons x xs, e :: es, h => by
    simp only [chP] at h
    obtain ⟨h1, h2⟩ := band h
    obtain ⟨h2, h3⟩ := band h2
    exact congrArg (· + 1) (chP_len h3)
theorem len2 {α : Type} : ∀ {l : List α}, l.length = 2 → ∃ a b, l = [a, b]
  | [a, b], _ => ⟨a, b, rfl⟩
theorem len3 {α : Type} : ∀ {l : List α}, l.length = 3 → ∃ a b c, l = [a, b, c]
  | [a, b, c], _ => ⟨a, b, c, rfl⟩
mutual
theorem sndS : ∀ (s : Sm) {st : Stmt}, OkS F ck k W C X → chS s C st = true → PS X st (tSt F W ck fu s)
  | .set i s, st, O, h => by
    have ok := O.ok
    simp only [chS] at h
    split at h
    · rename_i yn yp e0 pos0
      obtain ⟨h1, h2⟩ := band h
      obtain ⟨h2, h3⟩ := band h2
      obtain ⟨l1, l2, l3⟩ := ok.loc h1
      split at h3
      · rename_i sc ps hh
        split at h3
        · rename_i xe t it cd
          by_cases hs : swl C sc yn yp ps = true
          · exact snd_setLcS rfl (fun _ _ _ _ h => ev_lc_own h) (List.getElem?_eq_some_iff.mp l1).1 (sndLcSw ok h2 h1 hs)
          · refine snd_set ok.nd' l1 l2 l3 (sndSE ok h2) ?_
            rw [swl_ok ok.sc]
            exact congrArg _ (by simpa using hs)
        · rename_i xe t it cd
          by_cases hs : swl C sc yn yp ps = true
          · exact snd_setLcN (List.getElem?_eq_some_iff.mp l1).1 (sndLcSw ok h2 h1 hs)
          · refine snd_set ok.nd' l1 l2 l3 (sndSE ok h2) ?_
            rw [swl_ok ok.sc]
            exact congrArg _ (by simpa using hs)
        · cases h3
        · refine snd_set ok.nd' l1 l2 l3 (sndSE ok h2) ?_
          rw [swl_ok ok.sc]
          exact congrArg _ (nb h3)
      · exact snd_set ok.nd' l1 l2 l3 (sndSE ok h2) (sw_not h3)
    · cases h
  | .own i x, st, O, h => by
    have ok := O.ok
    simp only [chS] at h
    split at h
    · rename_i y py e pos
      obtain ⟨h1, h2⟩ := band h
      obtain ⟨l1, l2, l3⟩ := ok.loc h1
      by_cases hc : notComp e = true
      · exact snd_own ok.nd' l1 l2 l3 (sndF ok h2) (sw_not hc)
      · have hl : ∃ ex gs scope p, e = .ListComp ex gs scope p := by
          unfold chF at h2
          split at h2
          · split at h2 <;> first | exact absurd rfl hc | cases h2
          · split at h2 <;> first | exact absurd rfl hc | cases h2
          · split at h2 <;> first | exact absurd rfl hc | cases h2
          · split at h2
            · exact ⟨_, _, _, _, rfl⟩
            · cases h2
          · cases h2
        obtain ⟨ex, gs, scope, p, rfl⟩ := hl
        by_cases hs : swl C scope y py p = true
        · cases x <;> first | (cases h2; done) | skip
          · rename_i o a b
            cases o <;> cases h2
          · rename_i f xs
            cases f <;> first | (cases h2; done) | skip
            cases xs <;> first | (cases h2; done) | skip
            rename_i a xs
            cases xs <;> cases h2
          · exact snd_ownLc (t := fun _ _ _ => True) (List.getElem?_eq_some_iff.mp l1).1 (sndLcSw ok h2 h1 hs)
        · refine snd_own ok.nd' l1 l2 l3 (sndF ok h2) ?_
          rw [swl_ok ok.sc]
          exact congrArg _ (by simpa using hs)
    · cases h
  | .unp ts s, st, O, h => by
    have ok := O.ok
    simp only [chS] at h
    split at h
    · rename_i es kk p e pos
      obtain ⟨h1, h2⟩ := band h
      obtain ⟨h2, h3⟩ := band h2
      exact snd_unp (sndSE ok h2) (sndT ok (.tp ts) h3) sw_tup (by cases e <;> first | rfl | cases h1) rfl
    · cases h
  | .par is xs, st, O, h => by
    have ok := O.ok
    simp only [chS] at h
    split at h
    · rename_i ts kt pt es k2 p2 pos
      obtain ⟨h1, z1⟩ := band h
      obtain ⟨h2, z2⟩ := band z1
      obtain ⟨h3, z3⟩ := band z2
      obtain ⟨h4, h5⟩ := band z3
      clear h z1 z2 z3
      obtain ⟨g1, g2, g3⟩ := chNs_ok ok h2
      have ha := chP_ok ok h1
      split at h5
      · rename_i q
        exact snd_parN ok.K ok.calm g3 (of_decide_eq_true h4) g2 h3 g1 ha (swp_ok ok.sc q)
      · rename_i ns q
        obtain ⟨m1, z1⟩ := band h5
        obtain ⟨m2, z2⟩ := band z1
        obtain ⟨m3, m4⟩ := band z2
        have e1 := of_decide_eq_true m1
        subst e1
        have nd := of_decide_eq_true m3
        have hw := swp_ok (k := kt) (p := pt) (k2 := k2) (p2 := p2) ok.sc q
        have hlo : ∀ y ∈ tsNames ts, X.env.scope.names.lookup y = some .local := fun y hy => by
          rw [ok.sc]
          exact of_decide_eq_true (List.all_eq_true.mp m4 y hy)
        have le := chP_len h1
        rcases of_decide_eq_true m2 with hl | hl
        · obtain ⟨⟨i, b⟩, ⟨j, c⟩, rfl⟩ := len2 hl
          obtain ⟨t1, t2, rfl⟩ := len2 (g2.symm.trans hl)
          obtain ⟨a, a2, rfl⟩ := len2 (le.trans hl)
          simp only [chNs] at h2
          obtain ⟨n1, z⟩ := band h2
          obtain ⟨n2, _⟩ := band z
          obtain ⟨x, px, rfl, lx⟩ := name_of n1
          obtain ⟨y, py, rfl, ly⟩ := name_of n2
          exact snd_par2 ok.calm ok.nd' (ok.loc lx).1 (ok.loc ly).1 (by simpa using nd) (hlo x (by simp [tsNames])) (hlo y (by simp [tsNames])) ha hw
        · obtain ⟨⟨i, b⟩, ⟨j, c⟩, ⟨l, d⟩, rfl⟩ := len3 hl
          obtain ⟨t1, t2, t3, rfl⟩ := len3 (g2.symm.trans hl)
          obtain ⟨a, a2, a3, rfl⟩ := len3 (le.trans hl)
          simp only [chNs] at h2
          obtain ⟨n1, z⟩ := band h2
          obtain ⟨n2, z⟩ := band z
          obtain ⟨n3, _⟩ := band z
          obtain ⟨x, px, rfl, lx⟩ := name_of n1
          obtain ⟨y, py, rfl, ly⟩ := name_of n2
          obtain ⟨w, pw, rfl, lw⟩ := name_of n3
          have nd : (i ≠ j ∧ i ≠ l) ∧ j ≠ l := by simpa using nd
          exact snd_par3 ok.calm ok.nd' (ok.loc lx).1 (ok.loc ly).1 (ok.loc lw).1 nd.1.1 nd.1.2 nd.2 (hlo x (by simp [tsNames])) (hlo y (by simp [tsNames])) (hlo w (by simp [tsNames])) ha hw
      · cases h5
    · cases h
  | .xpr s, st, O, h => by
    have ok := O.ok
    simp only [chS] at h
    split at h
    · obtain ⟨h1, h2⟩ := band h
      exact snd_xpr (sndSE ok h2) (sw_not h1)
    · cases h
  | .app i s, st, O, h => by
    have ok := O.ok
    simp only [chS] at h
    split at h
    · obtain ⟨h1, h2⟩ := band h
      obtain ⟨h2, h3⟩ := band h2
      obtain ⟨h3, h4⟩ := band h3
      obtain ⟨h4, h5⟩ := band h4
      rw [of_decide_eq_true h1]
      exact snd_app (ok.var h2) (nb h4) rfl h3 (sndSE ok h5)
    · cases h
  | .ext i a, st, O, h => by
    have ok := O.ok
    simp only [chS] at h
    split at h
    · obtain ⟨h1, h2⟩ := band h
      obtain ⟨h2, h3⟩ := band h2
      obtain ⟨h3, h4⟩ := band h3
      obtain ⟨h4, h5⟩ := band h4
      rw [of_decide_eq_true h1]
      exact snd_ext (ok.var h2) (nb h4) rfl h3 (sndE a ok h5).b
    · cases h
  | .sub i a x, st, O, h => by
    have ok := O.ok
    simp only [chS] at h
    split at h
    · obtain ⟨h1, h2⟩ := band h
      obtain ⟨h2, h3⟩ := band h2
      obtain ⟨h3, h4⟩ := band h3
      obtain ⟨h4, h5⟩ := band h4
      exact snd_sub h2 (ok.var h1) (sndE a ok h4).b (sndE x ok h5).s (sw_not h3) rfl
    · cases h
  | .aug i o x, st, O, h => by
    have ok := O.ok
    simp only [chS] at h
    split at h
    · obtain ⟨h1, h2⟩ := band h
      obtain ⟨h2, h3⟩ := band h2
      obtain ⟨l1, l2, l3⟩ := ok.loc h2
      rw [of_decide_eq_true h1]
      exact snd_aug ok.nd' l1 l2 l3 (sndE x ok h3).b
    · cases h
  | .rsb r a x, st, O, h => by
    have ok := O.ok
    simp only [chS] at h
    split at h
    · obtain ⟨h1, h2⟩ := band h
      obtain ⟨h2, h3⟩ := band h2
      obtain ⟨h3, h4⟩ := band h3
      obtain ⟨h4, h5⟩ := band h4
      exact snd_rsb h1 (sndE r ok h3).b (sndE a ok h4).b (sndE x ok h5).s (sw_not h2) rfl
    · cases h
  | .rpp r a, st, O, h => by
    have ok := O.ok
    simp only [chS] at h
    split at h
    · obtain ⟨h1, h2⟩ := band h
      obtain ⟨h2, h3⟩ := band h2
      obtain ⟨h3, h4⟩ := band h3
      obtain ⟨h4, h5⟩ := band h4
      obtain ⟨h5, h6⟩ := band h5
      rw [of_decide_eq_true h1]
      exact snd_rpp ok.K (sndE r ok h5).b (nb h4) (notCall_base h2) h3 (sndE a ok h6).b
    · cases h
  | .ite c a b, st, O, h => by
    have ok := O.ok
    simp only [chS] at h
    split at h
    · obtain ⟨h1, h2⟩ := band h
      obtain ⟨h2, h3⟩ := band h2
      obtain ⟨h3, h4⟩ := band h3
      exact snd_if ((sndE c ok h2).t h1) (sndSs a O h3) (sndSs b O h4)
    · cases h
  | .for_ t it b, st, O, h => by
    have ok := O.ok
    simp only [chS] at h
    split at h
    · obtain ⟨h1, h2⟩ := band h
      obtain ⟨h2, h3⟩ := band h2
      obtain ⟨h3, h4⟩ := band h3
      exact snd_for O.pass ok.calm (sndI it ok h2 true) (sndT ok t h3) (sndSs b O h4) (notSet_iter h1)
    · cases h
  | .whl c b, st, O, h => by
    have ok := O.ok
    simp only [chS] at h
    split at h
    · obtain ⟨h1, h2⟩ := band h
      obtain ⟨h2, h3⟩ := band h2
      exact snd_while O.pass ((sndE c ok h2).t h1) (sndSs b O h3)
    · cases h
  | .ret s, st, O, h => by
    have ok := O.ok
    simp only [chS] at h
    split at h
    · cases s with
      | ex x =>
        by_cases hv : isVar x = true
        · cases x <;> first | (cases hv; done) | skip
          simp only [chSE, chE] at h
          split at h
          · exact snd_retV (ok.var h)
          · cases h
        · exact snd_retS (by simpa using hv) (sndE x ok h).s
      | pop i => exact snd_retE (fun _ _ => rfl) (sndSE ok h)
      | popAt i a => exact snd_retE (fun _ _ => rfl) (sndSE ok h)
      | nref x => exact snd_retE (fun _ _ => rfl) (sndSE ok h)
    · cases h
  | .retN, st, O, h => by
    simp only [chS] at h
    split at h
    · exact snd_retN
    · cases h
  | .raise c, st, O, h => by
    have ok := O.ok
    simp only [chS] at h
    split at h
    · obtain ⟨h1, h2⟩ := band h
      obtain ⟨h2, h3⟩ := band h2
      obtain ⟨Cc, m1, m2, m3, m4, m5⟩ := O.cls c _ (of_decide_eq_true h3)
      exact snd_raise ok.calm ok.tk (pmk_own0 PySem.F.excBase_ValueError m3 m1 m4 m5 (ok.gl h1) (nb h2)) m2
    · cases h
  | .pas, st, O, h => by
    simp only [chS] at h
    split at h
    · exact snd_pas
    · cases h
  | .brk, st, O, h => by
    simp only [chS] at h
    split at h
    · exact snd_brk
    · cases h
  | .cnt, st, O, h => by
    simp only [chS] at h
    split at h
    · exact snd_cnt
    · cases h
  | .su2 .., st, O, h => by simp [chS] at h
  | .asb .., st, O, h => by simp [chS] at h
  | .esc _, st, O, h => by simp [chS] at h
  | .kil _, st, O, h => by simp [chS] at h
theorem sndSs : ∀ (s : Sms) {st : List Stmt}, OkS F ck k W C X → chSs s C st = true → PSs X st (tSts F W ck fu s)
  | .nil, st, O, h => by
    simp only [chSs] at h
    rw [List.isEmpty_iff.mp h]
    exact snd_nilSts
  | .cons s ss, st, O, h => by
    by_cases he : ∃ is, s = .esc is
    · obtain ⟨is, rfl⟩ := he
      simp only [chSs] at h
      exact snd_esc (sndSs ss O h)
    · cases st with
      | nil => cases s <;> first | (simp [chSs] at h; done) | exact absurd ⟨_, rfl⟩ he
      | cons t ts =>
        have h : chS s C t = true ∧ chSs ss C ts = true := by
          cases s <;> first | exact absurd ⟨_, rfl⟩ he | (simpa only [chSs, Bool.and_eq_true] using h)
        exact snd_consSts (sndS s O h.1) (sndSs ss O h.2)
end
end
end Cw

end
section
/-! CwZ: defs that call one another. -/
namespace Cw
open PySem L2 PyProof.Rows PySem.W
/-! ### binding -/
theorem lookup_zip : ∀ {ps : List Str} {us : List Value} (pre : List (Str × Value)), us.length = ps.length → ps.Nodup → (∀ p ∈ ps, p ∉ pre.map (·.1)) →
    ps.filterMap (fun n => ((pre ++ ps.zip us).lookup n).map fun v => (n, v)) = ps.zip us
  | [], us, pre, _, _, _ => by cases us <;> rfl
  | p :: ps, [], pre, h, _, _ => by cases h
  | p :: ps, u :: us, pre, h, nd, hp => by
    obtain ⟨n1, n2⟩ := List.nodup_cons.mp nd
    have e : (pre ++ (p :: ps).zip (u :: us)).lookup p = some u := by
      have hn := hp p List.mem_cons_self
      clear hp h nd
      induction pre with
      | nil => simp [List.lookup_cons]
      | cons q pre ih =>
        obtain ⟨a, b⟩ := q
        simp only [List.map_cons, List.mem_cons, not_or] at hn
        rw [List.cons_append, List.lookup_cons]
        have : (p == a) = false := by simpa using hn.1
        rw [this]
        exact ih hn.2
    rw [List.filterMap_cons, e]
    show (p, u) :: _ = _
    rw [List.zip_cons_cons]
    congr 1
    have := lookup_zip (ps := ps) (us := us) (pre ++ [(p, u)]) (Nat.succ.inj h) n2 (fun q hq m => by
      rw [List.map_append, List.mem_append] at m
      rcases m with m | m
      · exact hp q (List.mem_cons_of_mem _ hq) m
      · have : q = p := by simpa using m
        subst this
        exact n1 hq)
    simpa using this
theorem lookup_some {ps : List Str} {us : List Value} (h : us.length = ps.length) {n : Str} (hn : n ∈ ps) : ((ps.zip us).lookup n).isNone = false := by
  induction ps generalizing us with
  | nil => cases hn
  | cons p ps ih =>
    cases us with
    | nil => cases h
    | cons u us =>
      rw [List.zip_cons_cons, List.lookup_cons]
      cases q : n == p with
      | true => rfl
      | false =>
        rcases List.mem_cons.mp hn with rfl | hn
        · simp at q
        · exact ih (Nat.succ.inj h) hn
/-- names alone -/
def plainP (pa : Arguments) (ps : List Str) : Bool := pa.posonlyargs.isEmpty && (decide (pa.args.map (·.arg) = ps) && (pa.vararg.isNone && (pa.kwonlyargs.isEmpty && (pa.kwarg.isNone && decide ps.Nodup))))
theorem bind_plain {x qual : Str} {pa : Arguments} {bd : List Stmt} {sc : Scope} {ps : List Str} (h : plainP pa ps = true) (kV doc pm : Value) (an : Option Addr) (cdv ct : Value) (us : List Value) (hl : us.length = ps.length) :
    bindArgs (PySem.W.fnOf x qual pa bd sc .none kV doc pm an cdv ct) ⟨us, []⟩ = pure (ps.zip us) := by
  unfold plainP at h
  simp only [Bool.and_eq_true, decide_eq_true_eq, List.isEmpty_iff, Option.isNone_iff_eq_none] at h
  obtain ⟨h1, h2, h3, h4, h5, h6⟩ := h
  obtain ⟨po, ar, va, ko, kd, kw, df⟩ := pa
  simp only at h1 h2 h3 h4 h5
  subst h1 h3 h4 h5
  unfold bindArgs
  have e0 : (PySem.W.fnOf x qual ⟨[], ar, none, [], kd, none, df⟩ bd sc .none kV doc pm an cdv ct).params = ⟨[], ar, none, [], kd, none, df⟩ := rfl
  have e1 : (PySem.W.fnOf x qual ⟨[], ar, none, [], kd, none, df⟩ bd sc .none kV doc pm an cdv ct).defaults = .none := rfl
  have e2 : seqItems? Value.none = pure none := rfl
  have e3 : ¬ (us.length > ps.length) := by omega
  have e4 : (ps.filter fun n => ((ps.zip us).lookup n).isNone) = [] := List.filter_eq_nil_iff.mpr fun n hn => by rw [lookup_some hl hn]; simp
  have e5 := lookup_zip (us := us) [] hl h6 (fun _ _ h => nomatch h)
  rw [List.nil_append] at e5
  simp only [e0, e1, e2, h2, List.map_nil, List.nil_append, List.append_nil, List.forIn_nil, pure_bind, Option.getD_none]
  rw [if_neg (by simp [hl])]
  simp only [List.drop_nil, List.length_nil, Nat.sub_zero, List.take_length, e4, List.isEmpty_nil, Bool.not_true, Bool.false_eq_true, if_false, List.zip_nil_right, List.forIn_nil, pure_bind, e5]
/-! ### defs -/
structure Df where
  x : Str
  ps : List Str
  N : List Str
  code : Sms
def runD (ck : Nat → List D → RH → Res D) (fu : Nat) (d : Df) (args : List D) (R : RH) : Res D :=
  if args.length = d.ps.length then
    match execs ck fu d.code (args.map Sl.sh ++ List.replicate (d.N.length - args.length) Sl.no) R with
    | .ok (.rt v, _) R' => .ok v R'
    | .ok (.nx, _) R' => .ok .non R'
    | .exc c R' => .exc c R'
    | _ => .bad
  else .bad
def callN (defs : List Df) (fu : Nat) : Nat → Nat → List D → RH → Res D
  | 0, _, _, _ => .bad
  | k + 1, f, args, R => match defs[f]? with
    | some d => runD (callN defs fu k) fu d args R
    | none => .bad
def fnScB (N ps : List Str) (sc : Scope) : Bool := decide (sc.kind = .function) && (!sc.isCoroutine && (!sc.isGenerator && (decide N.Nodup && (decide (N.take ps.length = ps) && ((ps.all fun x => isLocK true (sc.names.lookup x)) && (sc.names.all fun y => !(y.2 == .free)))))))
theorem fnSc_ok {N ps : List Str} {sc : Scope} (h : fnScB N ps sc = true) : FnScope N ps sc := by
  unfold fnScB at h
  simp only [Bool.and_eq_true, decide_eq_true_eq, Bool.not_eq_true', List.all_eq_true] at h
  obtain ⟨h1, h2, h3, h4, h5, h6, h7⟩ := h
  refine ⟨h1, h2, h3, h4, h5, fun x hx => ?_, fun y hy e => ?_⟩
  · have := h6 x hx
    unfold isLocK at this
    split at this
    · rename_i q; exact .inl q
    · rename_i q; exact .inr q
    · cases this
  · have := h7 y hy
    rw [e] at this
    cases this
/-- a text's defs, as they stand -/
structure Text (P : Program) (w : World) (K : PySem.W.Frag) (mg : Str → Option Value) (F : Fx) (G : Gm) (defs : List Df) : Prop where
  hK : F.K = K
  fns : G.fns = defs.map fun d => (d.x, d.ps.length)
  df : ∀ (i : Nat) (d : Df), defs[i]? = some d → ∃ (fa : Addr) (fd : FuncData) (pa : Arguments) (bd : List Stmt) (sc : Scope), mg d.x = some (.ref fa) ∧ F.fa i = some fa ∧ FunD K d.x d.x pa bd sc [] [] fa fd ∧ plainP pa d.ps = true ∧ fnScB d.N d.ps sc = true ∧ chSs d.code ⟨G, d.N, sc, fun _ => true⟩ bd = true
  con : ∀ (x : Str) (d : D), (x, d) ∈ G.con → ∃ v u, mg x = some u ∧ RelV v u ∧ ConOk F v d
  free : ∀ x ∈ G.free, mg x = none
  cls : ∀ (c : Nat) (x : Str), G.cls[c]? = some x → ∃ Cc, mg x = some (.ref Cc) ∧ F.ca c = some Cc ∧ PySem.W.excIn K Cc He.veBase "ValueError.__new__" = true ∧ PySem.W.keepIn K (.ref Cc) = true ∧ PySem.W.subIn K (.ref Cc) (.type "BaseException") = some true ∧ PySem.W.typeIn K (.ref Cc) = some (.type "type")
section
variable {P : Program} {w : World} {K : PySem.W.Frag} {mg : Str → Option Value} {base : Heap} {F : Fx} {G : Gm} {defs : List Df} {fu : Nat}
theorem gS_start : ∀ (ds : List D) (m i : Nat), gS (ds.map Sl.sh ++ List.replicate m Sl.no) i = match ds[i]? with | some d => .sh d | none => .no
  | [], m, i => by
    show gS (List.replicate m Sl.no) i = .no
    induction m generalizing i with
    | zero => rfl
    | succ m ih =>
      cases i with
      | zero => rfl
      | succ i => exact ih i
  | d :: ds, m, 0 => rfl
  | d :: ds, m, i + 1 => by
    rw [List.getElem?_cons_succ]
    exact gS_start ds m i
theorem rel_start {O0 : List Addr} {ρ : List Addr} {R : RH} {H : Hp} {vs : List V} {ds : List D} {N : List Str} (nd : ρ.Nodup) (o0 : ∀ a ∈ O0, a ∉ ρ ∧ H a ≠ none) (rf : Refs F ρ R (mask H (O0 ++ ρ)) H) (rd : RDs F ρ (mask H (O0 ++ ρ)) vs ds) (hl : vs.length ≤ N.length) :
    Rel F ⟨O0, H, ρ⟩ ρ (List.replicate N.length none) (ds.map Sl.sh ++ List.replicate (N.length - ds.length) Sl.no) R (L2.start N vs) H := by
  have ow : owns (List.replicate N.length (none : Option Addr)) = [] := by
    induction N.length with
    | zero => rfl
    | succ n ih => exact ih
  have hm : mask H (OO ⟨O0, H, ρ⟩ ρ (List.replicate N.length none)) = mask H (O0 ++ ρ) := mask_congr fun a => by
    unfold OO
    rw [ow, List.append_nil]
  have hd := rd.length
  have hlen : (L2.start N vs).length = N.length := by
    unfold L2.start
    rw [List.length_append, List.length_map, List.length_replicate]
    omega
  refine ⟨?_, by rw [List.length_replicate, hlen], fun i hi => ?_, rf.1, fun i a es h1 h2 => ?_, by rw [ow, List.append_nil]; exact nd, ⟨[], by simp⟩, (fun a h => by rw [ow] at h; cases h), fun a h n => absurd h n, fun a o h n => h, fun a h => ?_⟩
  · rw [hlen, List.length_append, List.length_map, List.length_replicate]
    omega
  · rw [gS_start, hm]
    have hal : (List.replicate N.length (none : Option Addr)).getD i none = none := by
      rw [List.getD_eq_getElem?_getD, List.getElem?_replicate]
      split <;> rfl
    rw [hal]
    cases q : ds[i]? with
    | none => rfl
    | some d =>
      obtain ⟨v, h1, h2⟩ := rd.get q
      refine ⟨rfl, v, ?_, h2⟩
      unfold L2.start
      rw [List.getD_eq_getElem?_getD, List.getElem?_append_left (by rw [List.length_map]; exact (List.getElem?_eq_some_iff.mp h1).1), List.getElem?_map, h1]
      rfl
  · rw [hm]
    exact rf.2 i a es h1 h2
  · obtain ⟨h1, h2⟩ := o0 a h
    exact ⟨h2, h1, fun m => by rw [ow] at m; cases m⟩
/-- what a def's end gives its caller -/
theorem rel_end {A : Act} {ρ' : List Addr} {al : List (Option Addr)} {σ : List Sl} {R' : RH} {σV : L2.St} {H' : Hp} (r : Rel F A ρ' al σ R' σV H') :
    Ext A.re A.He ρ' H' ∧ ρ'.Nodup ∧ Refs F ρ' R' (mask H' (A.O0 ++ ρ')) H' ∧ ∀ {v : V} {d : D}, RM F A al ρ' H' v d → RD F ρ' (mask H' (A.O0 ++ ρ')) v d := by
  have k : ∀ a o, mask H' (OO A ρ' al) a = some o → mask H' (A.O0 ++ ρ') a = some o := fun a o h => by
    obtain ⟨h1, h2⟩ := mask_some h
    rw [mask_out fun m => h2 (List.mem_append_left _ m)]
    exact h1
  have nil : ∃ e : List Addr, ρ' = ρ' ++ e := ⟨[], by simp⟩
  exact ⟨⟨r.pre, r.newR, r.fr⟩, (List.nodup_append.mp r.nd).1, ⟨r.rl, fun i a ds h1 h2 => let ⟨vs, h3, h4⟩ := r.rf i a ds h1 h2; ⟨vs, h3, h4.mono nil k⟩⟩, fun h => RD.mono nil k h⟩
theorem defs_ok (T : Text P w K mg F G defs) : ∀ (k i : Nat) (d : Df), defs[i]? = some d → ∃ (fa : Addr) (fd : FuncData), mg d.x = some (.ref fa) ∧ F.fa i = some fa ∧ FnOk P w K mg base (L2.CX P w) k fa fd d.ps (spI F (callN defs fu k i) d.ps.length) ∧ PySem.W.keepIn K (.ref fa) = true ∧ Binds K fd d.ps [] ∧ ∃ (oc : Value) (od : Option Addr) (osl : Array (Option Value)), K.lookup fa = some ⟨oc, od, .func fd, osl⟩
  | 0, i, d, h => by
    obtain ⟨fa, fd, pa, bd, sc, h1, h2, h3, h4, h5, h6⟩ := T.df i d h
    refine ⟨fa, fd, h1, h2, ⟨fun vs H Q E q => ?_, fun A outer s H args us vs Q E _ _ _ _ q => ?_⟩, h3.kp, FunD.bindsN h3 (fun kV doc pm an cdv ct us hl => bind_plain h4 kV doc pm an cdv ct us hl), let ⟨oc, od, _, _, _, _, _, _, _, osl, _, lk, _⟩ := h3.ex; ⟨oc, od, osl, lk⟩⟩
    · obtain ⟨O0, ρ, R, ds, _, _, _, _, hl, _⟩ := q
      exact hl
    · obtain ⟨O0, ρ, R, ds, _, _, _, _, hl, z⟩ := q
      exact z.elim
  | k + 1, i, d, h => by
    obtain ⟨fa, fd, pa, bd, sc, h1, h2, h3, h4, h5, h6⟩ := T.df i d h
    have S := fnSc_ok h5
    refine ⟨fa, fd, h1, h2, ?_, h3.kp, FunD.bindsN h3 (fun kV doc pm an cdv ct us hl => bind_plain h4 kV doc pm an cdv ct us hl), let ⟨oc, od, _, _, _, _, _, _, _, osl, _, lk, _⟩ := h3.ex; ⟨oc, od, osl, lk⟩⟩
    refine FunD.ok h3 S (fun vs H Q E q => ?_) fun cdv A outer s H vs Q E hr q => ?_
    · obtain ⟨O0, ρ, R, ds, _, _, _, _, hl, _⟩ := q
      exact hl
    · obtain ⟨O0, ρ, R, ds, nd, o0, rf, rd, hl, z⟩ := q
      -- what is let out
      let W : XW := fun c _ H' => ∀ C, F.ca c = some C → E (.ref C) none H'
      have tk : Takes (cxOf (L2.CX P w) P w K mg base d.N d.x sc fa cdv A outer s H E) (XW.wx F W) := Takes.imp (takes_of rfl rfl rfl rfl) fun cls dd σ H' ⟨c, C, e1, e2, e3, w⟩ => by
        subst e1
        subst e3
        exact w C e2
      have ok : Ok F (callN defs fu k) k W ⟨G, d.N, sc, fun _ => true⟩ (cxOf (L2.CX P w) P w K mg base d.N d.x sc fa cdv A outer s H E) := {
        K := T.hK
        calm := rfl
        N := rfl
        nd := S.nd
        sc := rfl
        fn := rfl
        hu := by have := hr.un; show (A.deeper _).units + 70 < cLine; omega
        room := hr
        tk := tk
        fns := fun j x np e => by
          have e : G.fns[j]? = some (x, np) := e
          rw [T.fns, List.getElem?_map] at e
          cases z : defs[j]? with
          | none => rw [z] at e; cases e
          | some d' =>
            rw [z] at e
            cases e
            obtain ⟨fa', fd', m1, m2, m3, m4, m5, _⟩ := defs_ok T k j d' z
            exact ⟨fa', fd', d'.ps, m1, m3, m4, m5⟩
        fnv := fun j x np e => by
          have e : G.fns[j]? = some (x, np) := e
          rw [T.fns, List.getElem?_map] at e
          cases z : defs[j]? with
          | none => rw [z] at e; cases e
          | some d' =>
            rw [z] at e
            cases e
            obtain ⟨fa', fd', pa', bd', sc', m1, m2, _⟩ := T.df j d' z
            exact ⟨fa', m1, m2⟩
        con := T.con
        free := T.free }
      have O : OkS F (callN defs fu k) k W ⟨G, d.N, sc, fun _ => true⟩ (cxOf (L2.CX P w) P w K mg base d.N d.x sc fa cdv A outer s H E) := ⟨ok, passes_of rfl, fun c x e => by
        obtain ⟨Cc, m1, m2, m3, m4, m5, m6⟩ := T.cls c x e
        exact ⟨Cc, m1, m2, m3, m4, raises_own m5 m6⟩⟩
      refine ⟨tSts F W (callN defs fu k) fu d.code, sndSs d.code O h6, ?_⟩
      have hps : d.ps.length ≤ d.N.length := by
        have := congrArg List.length S.pre
        rw [List.length_take] at this
        omega
      have r0 := rel_start (N := d.N) nd o0 rf rd (by rw [hl]; exact hps)
      refine ⟨⟨O0, H, ρ⟩, ρ, _, _, R, r0, ?_⟩
      have hz : callN defs fu (k + 1) i ds R = runD (callN defs fu k) fu d ds R := by
        show (match defs[i]? with
          | some d => runD (callN defs fu k) fu d ds R
          | none => .bad) = _
        rw [h]
      rw [hz] at z
      unfold runD at z
      have hda : ds.length = d.ps.length := by rw [← rd.length]; exact hl
      rw [if_pos hda] at z
      cases q : execs (callN defs fu k) fu d.code (ds.map Sl.sh ++ List.replicate (d.N.length - ds.length) Sl.no) R with
      | bad => rw [q] at z; exact z
      | exc c R' =>
        rw [q] at z
        intro ρ' al' σ'' σV' H' r' C hc
        obtain ⟨g1, g2, g3, g4⟩ := rel_end r'
        exact z H' ρ' C g1 g2 g3 hc
      | ok a R' =>
        obtain ⟨f, σ'⟩ := a
        rw [q] at z
        cases f with
        | nx =>
          intro ρ' al' σV' H' r'
          obtain ⟨g1, g2, g3, g4⟩ := rel_end r'
          exact z .non H' ρ' g1 g2 g3 .non
        | bk => exact z.elim
        | ct => exact z.elim
        | rt dv =>
          intro v ρ' al' σ'' σV' H' r' q'
          obtain ⟨g1, g2, g3, g4⟩ := rel_end r'
          exact z v H' ρ' g1 g2 g3 (g4 q')
end
end Cw

end
section
/-! CwEnd: the head's facts; the law. -/
namespace Cw
open PySem L2 PyProof.Rows PySem.W
/-! ### constants of the module -/
mutual
def conB (K : PySem.W.Frag) : D → Value → Bool
  | .non, u => (match u with
    | .none => true
    | _ => false)
  | .bl b, u => (match u with
    | .bool c => b == c
    | _ => false)
  | .int i, u => (match u with
    | .int j _ => decide (j = i)
    | _ => false)
  | .str z, u => (match u with
    | .str y _ => decide (y = z)
    | _ => false)
  | .tup ds, u => (match u with
    | .ref a => (match K.lookup a with
      | some ⟨.type c, _, .seq its _, _⟩ => decide (c = "tuple") && (decide (its.size ≤ sizeLine) && conBs K ds its.toList)
      | _ => false)
    | _ => false)
  | _, _ => false
def conBs (K : PySem.W.Frag) : List D → List Value → Bool
  | [], us => us.isEmpty
  | d :: ds, us => (match us with
    | u :: us => conB K d u && conBs K ds us
    | [] => false)
end
mutual
theorem conB_ok {F : Fx} {K : PySem.W.Frag} (hK : F.K = K) : ∀ (d : D) {u : Value}, conB K d u = true → ∃ v, RelV v u ∧ ConOk F v d
  | .non, u, h => by
    unfold conB at h
    split at h
    · exact ⟨.non, rfl, fun _ _ => .non⟩
    · cases h
  | .bl b, u, h => by
    unfold conB at h
    split at h
    · exact ⟨.bl b, by rw [beq_iff_eq.mp h]; rfl, fun _ _ => .bl b⟩
    · cases h
  | .int i, u, h => by
    unfold conB at h
    split at h
    · rw [of_decide_eq_true h]
      exact ⟨.int i, ⟨_, rfl⟩, fun _ _ => .int i⟩
    · cases h
  | .str z, u, h => by
    unfold conB at h
    split at h
    · rw [of_decide_eq_true h]
      exact ⟨.str z, ⟨_, rfl⟩, fun _ _ => .str z⟩
    · cases h
  | .tup ds, u, h => by
    unfold conB at h
    split at h
    · rename_i a
      split at h
      · rename_i c dd its n sl q
        obtain ⟨h1, h2⟩ := band h
        obtain ⟨h2, h3⟩ := band h2
        obtain ⟨vs, r, k⟩ := conBs_ok hK ds h3
        refine ⟨.ref a, rfl, fun ρ H => .tup (vs := vs) ?_ (k ρ H)⟩
        rw [hK]
        exact .inr ⟨_, its, n, q, congrArg Value.type (of_decide_eq_true h1), rfl, of_decide_eq_true h2, r⟩
      · cases h
    · cases h
  | .lst _, u, h => by simp [conB] at h
  | .frz _, u, h => by simp [conB] at h
  | .dK _, u, h => by simp [conB] at h
  | .dT _, u, h => by simp [conB] at h
  | .ref _, u, h => by simp [conB] at h
  | .fn _, u, h => by simp [conB] at h
theorem conBs_ok {F : Fx} {K : PySem.W.Frag} (hK : F.K = K) : ∀ (ds : List D) {us : List Value}, conBs K ds us = true → ∃ vs, Vals vs us ∧ ∀ ρ H, RDs F ρ H vs ds
  | [], us, h => by
    unfold conBs at h
    rw [List.isEmpty_iff.mp h]
    exact ⟨[], .nil, fun _ _ => .nil⟩
  | d :: ds, us, h => by
    unfold conBs at h
    split at h
    · obtain ⟨h1, h2⟩ := band h
      obtain ⟨v, r, k⟩ := conB_ok hK d h1
      obtain ⟨vs, rs, ks⟩ := conBs_ok hK ds h2
      exact ⟨v :: vs, .cons r rs, fun ρ H => .cons (k ρ H) (ks ρ H)⟩
    · cases h
end
def conG (K : PySem.W.Frag) (p : Str × D) : Bool := match PySem.W.nsIn K mainGlobals p.1 with
  | some (some u) => conB K p.2 u
  | _ => false
/-! ### the Hook -/
def exB (G : Gm) (defs : List Df) (K : PySem.W.Frag) : Bool := (defs.all fun d => (He.Fa.glo d.x).ok K) && ((G.free.all fun x => (He.Fa.free x).ok K) && ((G.cls.all fun x => (He.Fa.glo x).ok K && (He.Fa.exc x).ok K) && (G.con.all fun p => conG K p)))
abbrev AlC : Type := He.AlD × Bool
def obsC (n : Nat) (fn : List He.DefD) (ex : PySem.W.Frag → Bool) (g : Addr → Option Obj) : AlC := (He.obsDG n [] fn g, ex (He.frG g (He.asD g n)))
def hookC (n : Nat) (fn : List He.DefD) (ex : PySem.W.Frag → Bool) : PySem.W.Hook where
  α := AlC
  obs := fun s => obsC n fn ex s.heap.get?
  val := fun _ => (He.valD fn, true)
  says := fun _ h => ∃ K : PySem.W.Frag, K.In h ∧ He.SaysD [] fn K ∧ ex K = true
  of := fun _ _ e => ⟨_, He.frG_in, congrArg (fun z : AlC => z.1) e, congrArg (fun z : AlC => z.2) e⟩
  keeps := fun _ _ _ ⟨K, hK, c⟩ k => ⟨K, PySem.W.Frag.In.keeps hK k, c⟩
theorem obsC_eq {n : Nat} {fn : List He.DefD} {ex : PySem.W.Frag → Bool} {g : Addr → Option Obj} {s : Shared} (h : ∀ a, g a = s.heap.get? a) : obsC n fn ex g = (hookC n fn ex).obs s := by
  have e : g = s.heap.get? := funext h
  rw [e] <;> rfl
/-- own defs are the text's -/
def alB (G : Gm) : List Df → List He.DefD → Bool
  | [], [] => true
  | d :: ds, e :: es => (decide (e.at_ = (d.x, none)) && (decide (e.name = d.x) && (decide (e.qual = d.x) && (e.dfl.isEmpty && (e.kwd.isEmpty && (plainP e.params d.ps && (fnScB d.N d.ps e.scope && chSs d.code ⟨G, d.N, e.scope, fun _ => true⟩ e.body))))))) && alB G ds es
  | _, _ => false
def fxOf (K : PySem.W.Frag) (G : Gm) (defs : List Df) : Fx := ⟨K, fun i => (defs[i]?).map fun d => He.ga K d.x, fun c => (G.cls[c]?).map fun x => He.ga K x⟩
theorem alB_at {G : Gm} : ∀ {defs : List Df} {fn : List He.DefD} {i : Nat} {d : Df}, alB G defs fn = true → defs[i]? = some d → ∃ e, fn[i]? = some e ∧ e.at_ = (d.x, none) ∧ e.name = d.x ∧ e.qual = d.x ∧ e.dfl = [] ∧ e.kwd = [] ∧ plainP e.params d.ps = true ∧ fnScB d.N d.ps e.scope = true ∧ chSs d.code ⟨G, d.N, e.scope, fun _ => true⟩ e.body = true
  | [], _, _, _, _, h => by simp at h
  | _ :: _, [], _, _, h, _ => by cases h
  | d :: ds, e :: es, 0, d', h, hd => by
    obtain ⟨h1, _⟩ := band h
    cases hd
    simp only [Bool.and_eq_true, decide_eq_true_eq, List.isEmpty_iff] at h1
    exact ⟨e, rfl, h1⟩
  | d :: ds, e :: es, i + 1, d', h, hd => by
    obtain ⟨_, h2⟩ := band h
    obtain ⟨e', g⟩ := alB_at (i := i) h2 (by simpa using hd)
    exact ⟨e', by simpa using g.1, g.2⟩
theorem text_of {P : Program} {w : World} {K : PySem.W.Frag} {h : Heap} {mg : Str → Option Value} {G : Gm} {defs : List Df} {fn : List He.DefD} (X : K.In h) (N : h.Ns mainGlobals mg) (c : He.SaysD [] fn K) (x : exB G defs K = true) (al : alB G defs fn = true) (hf : G.fns = defs.map fun d => (d.x, d.ps.length)) :
    Text P w K mg (fxOf K G defs) G defs := by
  obtain ⟨x1, x2⟩ := band x
  obtain ⟨x2, x3⟩ := band x2
  obtain ⟨x3, x4⟩ := band x3
  refine ⟨rfl, hf, fun i d hd => ?_, fun y d hy => ?_, fun y hy => ?_, fun i y hy => ?_⟩
  · obtain ⟨e, g0, g1, g2, g3, g4, g5, g6, g7, g8⟩ := alB_at al hd
    obtain ⟨fd, FD⟩ := c.def_ i g0
    refine ⟨He.ga K d.x, fd, e.params, e.body, e.scope, He.glo_ok X N (List.all_eq_true.mp x1 d (List.mem_of_getElem? hd)), ?_, ?_, g6, g7, g8⟩
    · show (defs[i]?).map _ = _
      rw [hd]
      rfl
    · have a1 : He.fAd K e.at_ = He.ga K d.x := by rw [g1]; rfl
      have a2 : e.dvs K = [] := by unfold He.DefD.dvs; rw [g4]; rfl
      have a3 : e.kws K = [] := by unfold He.DefD.kws; rw [g5]; rfl
      rw [a1, a2, a3, g2, g3] at FD
      exact FD
  · have q := List.all_eq_true.mp x4 _ hy
    unfold conG at q
    split at q
    · rename_i u e
      obtain ⟨v, r, k⟩ := conB_ok (F := fxOf K G defs) rfl d q
      exact ⟨v, u, PySem.W.mg_of X N e, r, k⟩
    · cases q
  · exact He.free_ok X N (List.all_eq_true.mp x2 y hy)
  · obtain ⟨q1, q2⟩ := band (List.all_eq_true.mp x3 y (List.mem_of_getElem? hy))
    obtain ⟨z1, z2, z3, z4⟩ := He.exc_ok q2
    refine ⟨He.ga K y, He.glo_ok X N q1, ?_, z1, z2, z3, z4⟩
    show (G.cls[i]?).map _ = _
    rw [hy]
    rfl
/-! ### the end -/
theorem walk_ofX {l : PySem.W.OpenLaw} {n k : Nat} {q : Program} {loose : List Str} {XP : (Str → Option Value) → Heap → Prop} {YP : World → Heap → Prop} {d : DefRec} {x : Str}
    (hn : l.most = some n) (hn2 : n ≤ sizeLine) (hdf : d.params.defaults = []) (hr : Room k callerA)
    (F : ∀ (w : World) (mg : Str → Option Value) (fa : Addr) (h : Heap), YP w h → h.Ns mainGlobals mg → mg d.name = some (.ref fa) →
      ∃ (K : PySem.W.Frag) (fd : FuncData) (sp : Sp), K.In h ∧ (∀ (s : Shared) (u : Value), BindsTo s fd ⟨[u], []⟩ [(x, u)]) ∧
        (∀ (H : Hp) (a : Addr) (ns : List Int), ns.length ≤ n → SqL K H a (ns.map V.int) → sp [.ref a] H (fun v _ => v = .bl true) fun _ _ _ => False) ∧
        ∀ base : Heap, K.In base → base.Ns mainGlobals mg → FnOk l.prog w K mg base (L2.CX l.prog w) k fa fd [x] sp) :
    PySem.W.WalkO q loose XP YP l.row.toRowW d [] (fun f vs => PySem.call f vs) := by
  refine Att.attach_call hn hdf fun w s₀ s₁ mg mb fa o pm cd doc a vs ns G Y ho hd hcd hmg hobj hints hlen hg => ?_
  obtain ⟨K, fd, sp, KX, hb, hsp, hF⟩ := F w mg fa _ Y G.T.g hmg
  exact law_call KX G.T.g G.T.b G.T.builtins G.T.nolimit hg hobj hints (Nat.le_trans hlen hn2) hr hF hb (fun H hO hS => hsp H a ns hlen hS) fun H e s' ⟨_, _, _, _, _, _, _, _, _, _, _, _, z⟩ => z
/-- the law's def answers True -/
def Answers (defs : List Df) (fu k i : Nat) : Prop := ∀ ns : List Int, ns.length ≤ 63 → ∃ R', callN defs fu k i [.frz (ns.map D.int)] [] = .ok (.bl true) R'
theorem law_sp {F : Fx} {defs : List Df} {fu k i : Nat} (h : Answers defs fu k i) {H : Hp} {a : Addr} {ns : List Int} (hl : ns.length ≤ 63) (hS : SqL F.K H a (ns.map V.int)) : spI F (callN defs fu k i) 1 [.ref a] H (fun v _ => v = .bl true) fun _ _ _ => False := by
  obtain ⟨R', e⟩ := h ns hl
  refine ⟨[], [], [], [.frz (ns.map D.int)], List.nodup_nil, (fun _ h => nomatch h), ⟨rfl, (fun i a ds h => by simp at h)⟩, .cons (.frz ?_ (RDs.ofInts ns)) .nil, rfl, ?_⟩
  · exact sqL_mono (fun b o h => by rw [mask_out (by simp)]; exact h) hS
  · rw [e]
    intro v H' ρ' _ _ _ q
    cases q
    rfl
theorem law_end {l : PySem.W.OpenLaw} {q : Program} {loose : List Str} {XP : (Str → Option Value) → Heap → Prop} {d : DefRec} {k i n : Nat} {G : Gm} {defs : List Df} {fn : List He.DefD} {fu : Nat} {df : Df} {x : Str}
    (hn : l.most = some 63) (hdf : d.params.defaults = []) (hr : Room k callerA) (al : alB G defs fn = true) (hf : G.fns = defs.map fun d => (d.x, d.ps.length)) (hi : defs[i]? = some df) (hx : d.name = df.x) (hps : df.ps = [x])
    (h : Answers defs fu k i) : PySem.W.WalkO q loose XP (hookC n fn (exB G defs)).says l.row.toRowW d [] (fun f vs => PySem.call f vs) := by
  refine walk_ofX (x := x) hn (by decide) hdf hr fun w mg fa hp Y N hmg => ?_
  obtain ⟨K, KX, c, x0⟩ := Y
  have T := text_of (P := l.prog) (w := w) KX N c x0 al hf
  obtain ⟨fa', fd, pa, bd, sc, h1, h2, h3, h4, h5, h6⟩ := T.df i df hi
  rw [hx, h1] at hmg
  cases hmg
  refine ⟨K, fd, spI (fxOf K G defs) (callN defs fu k i) 1, KX, fun s u => ?_, fun H a ns hl hS => law_sp h hl hS, fun base KB NB => ?_⟩
  · have := FunD.bindsA h3 (fun kV doc pm an cdv ct us hl => bind_plain h4 kV doc pm an cdv ct us hl) s [u] (by rw [hps]; rfl)
    rw [hps] at this
    exact this
  · obtain ⟨fa2, fd2, m1, m2, m3, _, _, oc, od, osl, lk⟩ := defs_ok (base := base) (fu := fu) T k i df hi
    rw [h1] at m1
    cases m1
    obtain ⟨oc', od', _, _, _, _, _, _, _, osl', _, lk', _⟩ := h3.ex
    rw [lk] at lk'
    cases lk'
    rw [hps] at m3
    exact m3
end Cw

end
section
/-! Cl: plain laws of the evaluator. -/
namespace Cw
open PySem L2
theorem callE {defs : List Df} {fu k i : Nat} {d : Df} {args : List D} {R : RH} (h : defs[i]? = some d) : callN defs fu (k + 1) i args R = runD (callN defs fu k) fu d args R := by
  show (match defs[i]? with
    | some d => runD (callN defs fu k) fu d args R
    | none => .bad) = _
  rw [h]
section
variable {α β : Type} {R : RH}
theorem lcL_map {f : D → RH → Res (Option D)} {enc g : α → D} : ∀ {xs : List α}, (∀ x ∈ xs, f (enc x) R = .ok (some (g x)) R) → lcL f (xs.map enc) R = .ok (xs.map g) R
  | [], _ => rfl
  | x :: xs, h => by
    simp only [List.map_cons, lcL]
    rw [h x List.mem_cons_self]
    simp only
    rw [lcL_map fun y hy => h y (List.mem_cons_of_mem _ hy)]
theorem lcL_fm {f : D → RH → Res (Option D)} {enc : α → D} {o : α → Option D} : ∀ {xs : List α}, (∀ x ∈ xs, f (enc x) R = .ok (o x) R) → lcL f (xs.map enc) R = .ok (xs.filterMap o) R
  | [], _ => rfl
  | x :: xs, h => by
    simp only [List.map_cons, lcL]
    rw [h x List.mem_cons_self]
    simp only
    rw [lcL_fm fun y hy => h y (List.mem_cons_of_mem _ hy)]
    rw [List.filterMap_cons]
    cases o x <;> rfl
/-- a for without an end of its own: S by what is gathered -/
theorem forL_fold {f : D → List Sl → RH → Res (Fl × List Sl)} {enc : α → D} {S : β → List Sl} {step : β → α → β} : ∀ {xs : List α} {b : β}, (∀ b x, x ∈ xs → f (enc x) (S b) R = .ok (.nx, S (step b x)) R) → forL f (xs.map enc) (S b) R = .ok (.nx, S (xs.foldl step b)) R
  | [], b, _ => rfl
  | x :: xs, b, h => by
    simp only [List.map_cons, forL]
    rw [h b x List.mem_cons_self]
    simp only
    exact forL_fold fun b y hy => h b y (List.mem_cons_of_mem _ hy)
/-- a for with what stands: P by what has been walked -/
theorem forL_inv {f : D → List Sl → RH → Res (Fl × List Sl)} {enc : α → D} (P : List α → List Sl → RH → Prop) : ∀ {xs pre : List α} {σ : List Sl} {R : RH}, P pre σ R → (∀ pre' x post σ R, pre ++ xs = pre' ++ x :: post → P pre' σ R → ∃ σ' R', f (enc x) σ R = .ok (.nx, σ') R' ∧ P (pre' ++ [x]) σ' R') →
    ∃ σ' R', forL f (xs.map enc) σ R = .ok (.nx, σ') R' ∧ P (pre ++ xs) σ' R'
  | [], pre, σ, R, h0, _ => ⟨σ, R, rfl, by simpa using h0⟩
  | x :: xs, pre, σ, R, h0, h => by
    obtain ⟨σ1, R1, e1, p1⟩ := h pre x xs σ R rfl h0
    obtain ⟨σ2, R2, e2, p2⟩ := forL_inv P (xs := xs) (pre := pre ++ [x]) p1 fun pre' y post σ R e p => h pre' y post σ R (by rw [← e]; simp) p
    refine ⟨σ2, R2, ?_, by simpa using p2⟩
    simp only [List.map_cons, forL]
    rw [e1]
    exact e2
/-- a for that may answer -/
theorem forL_find {f : D → List Sl → RH → Res (Fl × List Sl)} {enc : α → D} {S : β → List Sl} {p : α → Bool} {r : α → D} : ∀ {xs : List α} {b : β}, (∀ b x, x ∈ xs → (p x = true → ∃ σ', f (enc x) (S b) R = .ok (.rt (r x), σ') R) ∧ (p x = false → ∃ b', f (enc x) (S b) R = .ok (.nx, S b') R)) →
    (match xs.find? p with
      | some x => ∃ σ', forL f (xs.map enc) (S b) R = .ok (.rt (r x), σ') R
      | none => ∃ b', forL f (xs.map enc) (S b) R = .ok (.nx, S b') R)
  | [], b, _ => ⟨b, rfl⟩
  | x :: xs, b, h => by
    rw [List.find?_cons]
    simp only [List.map_cons, forL]
    obtain ⟨h1, h2⟩ := h b x List.mem_cons_self
    cases q : p x with
    | true =>
      obtain ⟨σ', e⟩ := h1 q
      exact ⟨σ', by rw [e]⟩
    | false =>
      obtain ⟨b', e⟩ := h2 q
      have := forL_find (xs := xs) (b := b') fun b y hy => h b y (List.mem_cons_of_mem _ hy)
      rw [e]
      exact this
/-- a while: what stands before each turn, a measure -/
theorem whl_inv {St : Type} {c : List Sl → RH → Res D} {b : List Sl → RH → Res (Fl × List Sl)} (S : St → List Sl) (cond : St → Bool) (next : St → St) (I : St → Prop) (μ : St → Nat)
    (hc : ∀ s, I s → c (S s) R = .ok (.bl (cond s)) R) (hb : ∀ s, I s → cond s = true → b (S s) R = .ok (.nx, S (next s)) R ∧ I (next s) ∧ μ (next s) < μ s) :
    ∀ (n : Nat) (s : St), I s → μ s < n → ∃ s', whlL c b n (S s) R = .ok (.nx, S s') R ∧ I s' ∧ cond s' = false
  | 0, s, _, h => absurd h (Nat.not_lt_zero _)
  | n + 1, s, hi, h => by
    simp only [whlL]
    rw [hc s hi]
    cases q : cond s with
    | false => exact ⟨s, rfl, hi, q⟩
    | true =>
      obtain ⟨h1, h2, h3⟩ := hb s hi q
      simp only
      rw [h1]
      exact whl_inv S cond next I μ hc hb n (next s) h2 (by omega)
theorem ev_lcE {ck : Nat → List D → RH → Res D} {elt : Ex} {tg : Tg} {it : Itr} {cd : Exo} {σ : List Sl} {R R1 R2 : RH} {ds l : List D} (h1 : evi ck it σ R = .ok ds R1) (h2 : lcL (lcF ck elt tg cd σ) ds R1 = .ok l R2) : ev ck (.lc elt tg it cd) σ R = .ok (.lst l) R2 := by
  rw [ev_lc, h1]
  show (lcL (lcF ck elt tg cd σ) ds R1).bind _ = _
  rw [h2]
  rfl
theorem exec_forE {ck : Nat → List D → RH → Res D} {fu : Nat} {tg : Tg} {it : Itr} {b : Sms} {σ : List Sl} {R R1 : RH} {ds : List D} {r : Res (Fl × List Sl)} (h1 : evis ck true it σ R = .ok ds R1) (h2 : forL (forF ck fu tg b) ds σ R1 = r) : exec ck fu (.for_ tg it b) σ R = r := by
  rw [exec_for, h1]
  exact h2
end
/-! values -/
mutual
theorem deq_refl : ∀ d : D, plain d = true → deq d d = true
  | .non, _ => rfl
  | .bl b, _ => by simp [deq]
  | .int i, _ => by simp [deq]
  | .str x, _ => by simp [deq]
  | .tup xs, h => by
    simp only [deq]
    exact deqs_refl xs (by simpa [plain] using h)
  | .lst xs, h => by
    simp only [deq]
    exact deqs_refl xs (by simpa [plain] using h)
  | .dK _, h => by simp [plain] at h
  | .dT _, h => by simp [plain] at h
  | .ref _, h => by simp [plain] at h
  | .fn _, h => by simp [plain] at h
  | .frz _, h => by simp [plain] at h
theorem deqs_refl : ∀ l : List D, plains l = true → deqs l l = true
  | [], _ => rfl
  | x :: l, h => by
    simp only [plains, Bool.and_eq_true] at h
    simp only [deqs, Bool.and_eq_true]
    exact ⟨deq_refl x h.1, deqs_refl l h.2⟩
end
theorem intsD_map : ∀ l : List Int, intsD (l.map D.int) = some l
  | [] => rfl
  | i :: l => by simp [intsD, intsD_map l]
theorem blsD_map : ∀ l : List Bool, blsD (l.map D.bl) = some l
  | [] => rfl
  | i :: l => by simp [blsD, blsD_map l]
theorem intsD_mapf {α : Type} (g : α → Int) : ∀ l : List α, intsD (l.map fun x => D.int (g x)) = some (l.map g)
  | [] => rfl
  | i :: l => by simp [intsD, intsD_mapf g l]
theorem blsD_mapf {α : Type} (g : α → Bool) : ∀ l : List α, blsD (l.map fun x => D.bl (g x)) = some (l.map g)
  | [] => rfl
  | i :: l => by simp [blsD, blsD_mapf g l]
/-- a stretch of numbers -/
def ir (a : Int) (n : Nat) : List Int := (List.range n).map fun i => a + (i : Nat)
theorem rngI_ir (a : Int) (n : Nat) : rngI a n = (ir a n).map D.int := by
  rw [rngI_eq, ir, List.map_map]
  rfl
theorem mem_ir {a : Int} {n : Nat} {x : Int} : x ∈ ir a n ↔ a ≤ x ∧ x < a + n := by
  unfold ir
  rw [List.mem_map]
  constructor
  · rintro ⟨i, hi, rfl⟩
    have := List.mem_range.mp hi
    omega
  · rintro ⟨h1, h2⟩
    exact ⟨(x - a).toNat, List.mem_range.mpr (by omega), by omega⟩
theorem plains_map {α : Type} {f : α → D} (h : ∀ x, plain (f x) = true) : ∀ l : List α, plains (l.map f) = true
  | [] => rfl
  | x :: l => by simp [plains, h x, plains_map h l]
theorem deps_map {α : Type} {f : α → D} {n : Nat} (h : ∀ x, dep (f x) ≤ n) : ∀ l : List α, deps (l.map f) ≤ n
  | [] => Nat.zero_le _
  | x :: l => by
    simp only [List.map_cons, deps]
    exact Nat.max_le.mpr ⟨h x, deps_map h l⟩
theorem deqI (i j : Int) : deq (.int i) (.int j) = decide (i = j) := rfl
theorem deqB (i j : Bool) : deq (.bl i) (.bl j) = decide (i = j) := by cases i <;> cases j <;> rfl
theorem deqS (x y : Str) : deq (.str x) (.str y) = decide (x = y) := by
  simp only [deq]
  by_cases h : x = y
  · subst h; simp
  · simp [h]
theorem deqT (x y : List D) : deq (.tup x) (.tup y) = deqs x y := by simp only [deq]
theorem deqL (x y : List D) : deq (.lst x) (.lst y) = deqs x y := by simp only [deq]
theorem deqNN : deq .non .non = true := rfl
theorem deqNT (x : List D) : deq .non (.tup x) = false := rfl
theorem deqTN (x : List D) : deq (.tup x) .non = false := rfl
theorem deqNI (x : Int) : deq .non (.int x) = false := rfl
theorem deqIN (x : Int) : deq (.int x) .non = false := rfl
theorem stk_var {i : Nat} {σ : List Sl} {r : Res D} : stx (.var i) σ r = if isOw (gS σ i) = true then .bad else r := rfl
theorem stk_con {d : D} {σ : List Sl} {r : Res D} : stx (.con d) σ r = r := rfl
theorem stk_tup {es : Exs} {σ : List Sl} {r : Res D} : stx (.tup es) σ r = r := rfl
theorem stk_lst {es : Exs} {σ : List Sl} {r : Res D} : stx (.lst es) σ r = r := rfl
theorem stk_bin {o : Bop} {a : Ex} {b : Ex} {σ : List Sl} {r : Res D} : stx (.bin o a b) σ r = r := rfl
theorem stk_neg {a : Ex} {σ : List Sl} {r : Res D} : stx (.neg a) σ r = r := rfl
theorem stk_cmp {o : Cop} {a : Ex} {b : Ex} {σ : List Sl} {r : Res D} : stx (.cmp o a b) σ r = r := rfl
theorem stk_ch2 {o : Cop} {p : Cop} {a : Ex} {b : Ex} {c : Ex} {σ : List Sl} {r : Res D} : stx (.ch2 o p a b c) σ r = r := rfl
theorem stk_and {a : Ex} {es : Exs} {σ : List Sl} {r : Res D} : stx (.and a es) σ r = r := rfl
theorem stk_or {a : Ex} {es : Exs} {σ : List Sl} {r : Res D} : stx (.or a es) σ r = r := rfl
theorem stk_not {a : Ex} {σ : List Sl} {r : Res D} : stx (.not a) σ r = r := rfl
theorem stk_ite {c : Ex} {a : Ex} {b : Ex} {σ : List Sl} {r : Res D} : stx (.ite c a b) σ r = r := rfl
theorem stk_call {f : Nat} {es : Exs} {σ : List Sl} {r : Res D} : stx (.call f es) σ r = r := rfl
theorem stk_blt {f : Blt} {es : Exs} {σ : List Sl} {r : Res D} : stx (.blt f es) σ r = r := rfl
theorem stk_isi {ks : List Kd} {a : Ex} {σ : List Sl} {r : Res D} : stx (.isi ks a) σ r = r := rfl
theorem stk_meth {m : Mth} {o : Ex} {es : Exs} {σ : List Sl} {r : Res D} : stx (.meth m o es) σ r = r := rfl
theorem stk_idx {a : Ex} {i : Ex} {σ : List Sl} {r : Res D} : stx (.idx a i) σ r = r := rfl
theorem stk_slc {a : Ex} {lo : Exo} {hi : Exo} {σ : List Sl} {r : Res D} : stx (.slc a lo hi) σ r = r := rfl
theorem stk_rev {a : Ex} {σ : List Sl} {r : Res D} : stx (.rev a) σ r = r := rfl
theorem stk_lc {elt : Ex} {tg : Tg} {it : Itr} {cd : Exo} {σ : List Sl} {r : Res D} : stx (.lc elt tg it cd) σ r = r := rfl
end Cw

end
section
namespace Lw
open PySem PySem.Spec PyProof.Rows L2 Cw
def top (i : Nat) : Stmt := PySem.Challenge.pw_circusweek_k14_whole_beams_that_are_even.main.body.getD i (.Pass ⟨0, 0, 0, 0⟩)
def dOf (x : Str) (i : Nat) : He.DefD := ⟨(x, none), x, x, defArgs (top i), defBody (top i), defScope (top i), [], []⟩
def fn : List He.DefD := ([dOf "is_integer" 1, dOf "is_within" 2, dOf "is_tuple_of" 3, dOf "common_part" 11, dOf "ratio" 12, dOf "is_load" 22, dOf "are_loads" 23, dOf "check_beam" 24, dOf "check_weight" 25, dOf "raw_moment" 26, dOf "moment" 27, dOf "side" 28, dOf "is_on_beam" 29, dOf "place_for" 30, dOf "least_weight" 31, dOf "longer_signs" 32, dOf "balanced_signs" 33, dOf "safe_places" 34, dOf "safe_walk" 35, dOf "middle_of" 36] : List He.DefD) ++ ([dOf "_law_bag" 38, dOf "_law_pick" 39, dOf "_law_some" 40, dOf "_law_shared" 41, dOf "_law_frac" 42, dOf "_law_plus" 43, dOf "_law_times" 44, dOf "_law_moment" 45, dOf "_law_signs" 46, dOf "_law_least_weight" 47, dOf "_law_is_right" 48, dOf "law" 49] : List He.DefD)
def d0 : Df := ⟨"is_integer", ["thing"], (["thing"] : List Str),
    (.cons (.ret (.ex (.and (.isi [.int] (.var 0)) (.cons (.not (.isi [.bool] (.var 0))) .nil))))
    .nil)⟩
def d1 : Df := ⟨"is_within", ["thing", "least", "most"], (["thing", "least", "most"] : List Str),
    (.cons (.ret (.ex (.and (.call 0 (.cons (.var 0) .nil)) (.cons (.ch2 .le .le (.var 1) (.var 0) (.var 2)) .nil))))
    .nil)⟩
def d2 : Df := ⟨"is_tuple_of", ["thing", "size"], (["thing", "size"] : List Str),
    (.cons (.ret (.ex (.and (.isi [.tuple] (.var 0)) (.cons (.cmp .eq (.blt .len (.cons (.var 0) .nil)) (.var 1)) .nil))))
    .nil)⟩
def d3c0 : Ex := (.cmp .ne (.var 1) (.con (.int 0)))
def d3b0 : Sms := (.cons (.par [(0, false), (1, false)] (.cons (.var 1) (.cons (.bin .sub (.var 0) (.bin .mul (.var 1) (.bin .fdiv (.var 0) (.var 1)))) .nil)))
    .nil)
def d3s0 : Sm := .whl d3c0 d3b0
def d3 : Df := ⟨"common_part", ["one", "other"], (["one", "other"] : List Str),
    (.cons (.par [(0, false), (1, false)] (.cons (.blt .abs (.cons (.var 0) .nil)) (.cons (.blt .abs (.cons (.var 1) .nil)) .nil)))
    (.cons d3s0
    (.cons (.ret (.ex (.var 0)))
    .nil)))⟩
def d4 : Df := ⟨"ratio", ["top", "bottom"], (["top", "bottom", "part"] : List Str),
    (.cons (.set 2 (.ex (.call 3 (.cons (.var 0) (.cons (.var 1) .nil)))))
    (.cons (.set 2 (.ex (.ite (.cmp .gt (.var 1) (.con (.int 0))) (.var 2) (.neg (.var 2)))))
    (.cons (.ret (.ex (.tup (.cons (.bin .fdiv (.var 0) (.var 2)) (.cons (.bin .fdiv (.var 1) (.var 2)) .nil)))))
    .nil)))⟩
def d5 : Df := ⟨"is_load", ["length", "thing"], (["length", "thing"] : List Str),
    (.cons (.ret (.ex (.and (.call 2 (.cons (.var 1) (.cons (.con (.int 2)) .nil))) (.cons (.call 1 (.cons (.idx (.var 1) (.con (.int 0))) (.cons (.neg (.var 0)) (.cons (.var 0) .nil)))) (.cons (.call 1 (.cons (.idx (.var 1) (.con (.int 1))) (.cons (.con (.int 1)) (.cons (.con (.int 1000)) .nil)))) .nil)))))
    .nil)⟩
def d6x0 : Ex := .lc (.call 5 (.cons (.var 0) (.cons (.var 2) .nil))) (.nm 2) (.ex (.var 1)) .no
theorem d6x0s {σ : List Sl} {r : Res D} : stx d6x0 σ r = r := rfl
def d6 : Df := ⟨"are_loads", ["length", "thing"], (["length", "thing", "one"] : List Str),
    (.cons (.ret (.ex (.and (.isi [.tuple] (.var 1)) (.cons (.cmp .le (.blt .len (.cons (.var 1) .nil)) (.con (.int 10))) (.cons (.blt .all (.cons d6x0 .nil)) .nil)))))
    .nil)⟩
def d7 : Df := ⟨"check_beam", ["length", "loads"], (["length", "loads"] : List Str),
    (.cons (.ite (.not (.call 1 (.cons (.var 0) (.cons (.con (.int 1)) (.cons (.con (.int 100)) .nil))))) (.cons (.raise 0)
    .nil) .nil)
    (.cons (.ite (.not (.call 6 (.cons (.var 0) (.cons (.var 1) .nil)))) (.cons (.raise 1)
    .nil) .nil)
    .nil))⟩
def d8 : Df := ⟨"check_weight", ["weight"], (["weight"] : List Str),
    (.cons (.ite (.not (.call 1 (.cons (.var 0) (.cons (.con (.int 1)) (.cons (.con (.int 1000)) .nil))))) (.cons (.raise 2)
    .nil) .nil)
    .nil)⟩
def d9x0 : Ex := .lc (.bin .mul (.var 1) (.var 2)) (.tp (.cons (.nm 1) (.cons (.nm 2) .nil))) (.ex (.var 0)) .no
theorem d9x0s {σ : List Sl} {r : Res D} : stx d9x0 σ r = r := rfl
def d9 : Df := ⟨"raw_moment", ["loads"], (["loads", "place", "weight"] : List Str),
    (.cons (.ret (.ex (.blt .sum (.cons d9x0 .nil))))
    .nil)⟩
def d10 : Df := ⟨"moment", ["length", "loads"], (["length", "loads"] : List Str),
    (.cons (.xpr (.ex (.call 7 (.cons (.var 0) (.cons (.var 1) .nil)))))
    (.cons (.ret (.ex (.call 9 (.cons (.var 1) .nil))))
    .nil))⟩
def d11 : Df := ⟨"side", ["length", "loads"], (["length", "loads", "whole"] : List Str),
    (.cons (.xpr (.ex (.call 7 (.cons (.var 0) (.cons (.var 1) .nil)))))
    (.cons (.set 2 (.ex (.call 9 (.cons (.var 1) .nil))))
    (.cons (.ite (.cmp .eq (.var 2) (.con (.int 0))) (.cons (.ret (.ex (.con (.str "even"))))
    .nil) .nil)
    (.cons (.ret (.ex (.ite (.cmp .lt (.var 2) (.con (.int 0))) (.con (.str "left")) (.con (.str "right")))))
    .nil))))⟩
def d12 : Df := ⟨"is_on_beam", ["length", "place"], (["length", "place"] : List Str),
    (.cons (.ret (.ex (.ch2 .le .le (.bin .mul (.neg (.var 0)) (.idx (.var 1) (.con (.int 1)))) (.idx (.var 1) (.con (.int 0))) (.bin .mul (.var 0) (.idx (.var 1) (.con (.int 1)))))))
    .nil)⟩
def d13 : Df := ⟨"place_for", ["length", "loads", "weight"], (["length", "loads", "weight", "place"] : List Str),
    (.cons (.xpr (.ex (.call 7 (.cons (.var 0) (.cons (.var 1) .nil)))))
    (.cons (.xpr (.ex (.call 8 (.cons (.var 2) .nil))))
    (.cons (.set 3 (.ex (.call 4 (.cons (.neg (.call 9 (.cons (.var 1) .nil))) (.cons (.var 2) .nil)))))
    (.cons (.ret (.ex (.ite (.call 12 (.cons (.var 0) (.cons (.var 3) .nil))) (.var 3) (.con .non))))
    .nil))))⟩
def d14b0 : Sms := (.cons (.set 4 (.ex (.call 4 (.cons (.neg (.var 2)) (.cons (.var 3) .nil)))))
    (.cons (.ite (.and (.cmp .eq (.idx (.var 4) (.con (.int 1))) (.con (.int 1))) (.cons (.call 12 (.cons (.var 0) (.cons (.var 4) .nil))) .nil)) (.cons (.ret (.ex (.tup (.cons (.var 3) (.cons (.idx (.var 4) (.con (.int 0))) .nil)))))
    .nil) .nil)
    .nil))
def d14s0 : Sm := .for_ (.nm 3) (.rng2 (.con (.int 1)) (.bin .add (.con (.int 1000)) (.con (.int 1)))) d14b0
def d14 : Df := ⟨"least_weight", ["length", "loads"], (["length", "loads", "whole", "weight", "place"] : List Str),
    (.cons (.xpr (.ex (.call 7 (.cons (.var 0) (.cons (.var 1) .nil)))))
    (.cons (.set 2 (.ex (.call 9 (.cons (.var 1) .nil))))
    (.cons (.ite (.cmp .eq (.var 2) (.con (.int 0))) (.cons (.ret (.ex (.tup (.cons (.con (.int 0)) (.cons (.con (.int 0)) .nil)))))
    .nil) .nil)
    (.cons d14s0
    (.cons (.ret (.ex (.con .non)))
    .nil)))))⟩
def d15x0 : Ex := .lc (.tup (.cons (.bin .add (.var 3) (.tup (.cons (.var 5) .nil))) (.cons (.bin .add (.var 4) (.bin .mul (.bin .mul (.var 5) (.idx (.var 1) (.con (.int 0)))) (.idx (.var 1) (.con (.int 1))))) .nil))) (.nm 5) (.ex (.con (.tup [(.int (-1)), (.int 1)]))) .no
theorem d15x0s {σ : List Sl} {r : Res D} : stx d15x0 σ r = r := rfl
def d15b0 : Sms := (.cons (.ext 2 d15x0)
    .nil)
def d15s0 : Sm := .for_ (.tp (.cons (.nm 3) (.cons (.nm 4) .nil))) (.ex (.var 0)) d15b0
def d15 : Df := ⟨"longer_signs", ["rows", "load"], (["rows", "load", "found", "signs", "whole", "sign"] : List Str),
    (.cons (.own 2 (.lst .nil))
    (.cons d15s0
    (.cons (.ret (.ex (.var 2)))
    .nil)))⟩
def d16b0 : Sms := (.cons (.set 2 (.ex (.call 15 (.cons (.var 2) (.cons (.var 3) .nil)))))
    .nil)
def d16s0 : Sm := .for_ (.nm 3) (.ex (.var 1)) d16b0
def d16x0 : Ex := .lc (.var 5) (.tp (.cons (.nm 5) (.cons (.nm 6) .nil))) (.ex (.var 2)) (.so (.cmp .eq (.var 6) (.con (.int 0))))
theorem d16x0s {σ : List Sl} {r : Res D} : stx d16x0 σ r = r := rfl
def d16 : Df := ⟨"balanced_signs", ["length", "loads"], (["length", "loads", "rows", "load", "some", "signs", "whole"] : List Str),
    (.cons (.xpr (.ex (.call 7 (.cons (.var 0) (.cons (.var 1) .nil)))))
    (.cons (.set 2 (.ex (.lst (.cons (.tup (.cons (.tup .nil) (.cons (.con (.int 0)) .nil))) .nil))))
    (.cons d16s0
    (.cons (.set 4 (.ex d16x0))
    (.cons (.ret (.ex (.ite (.cmp .gt (.blt .len (.cons (.var 4) .nil)) (.con (.int 0))) (.idx (.var 4) (.con (.int 0))) (.con .non))))
    .nil)))))⟩
def d17x0 : Ex := .lc (.var 4) (.nm 4) (.rng2 (.neg (.var 0)) (.bin .add (.var 0) (.con (.int 1)))) (.so (.cmp .le (.blt .abs (.cons (.bin .add (.var 1) (.bin .mul (.var 4) (.var 2))) .nil)) (.var 3)))
theorem d17x0s {σ : List Sl} {r : Res D} : stx d17x0 σ r = r := rfl
def d17 : Df := ⟨"safe_places", ["length", "whole", "weight", "bend"], (["length", "whole", "weight", "bend", "place"] : List Str),
    (.cons (.ret (.ex d17x0))
    .nil)⟩
def d18 : Df := ⟨"safe_walk", ["length", "loads", "weight", "bend"], (["length", "loads", "weight", "bend", "some"] : List Str),
    (.cons (.xpr (.ex (.call 7 (.cons (.var 0) (.cons (.var 1) .nil)))))
    (.cons (.xpr (.ex (.call 8 (.cons (.var 2) .nil))))
    (.cons (.ite (.not (.call 1 (.cons (.var 3) (.cons (.con (.int 0)) (.cons (.con (.int 1000000)) .nil))))) (.cons (.raise 3)
    .nil) .nil)
    (.cons (.set 4 (.ex (.call 17 (.cons (.var 0) (.cons (.call 9 (.cons (.var 1) .nil)) (.cons (.var 2) (.cons (.var 3) .nil)))))))
    (.cons (.ret (.ex (.ite (.cmp .gt (.blt .len (.cons (.var 4) .nil)) (.con (.int 0))) (.tup (.cons (.idx (.var 4) (.con (.int 0))) (.cons (.idx (.var 4) (.neg (.con (.int 1)))) .nil))) (.con .non))))
    .nil)))))⟩
def d19x0 : Ex := .lc (.var 2) (.tp (.cons (.nm 1) (.cons (.nm 2) .nil))) (.ex (.var 0)) .no
theorem d19x0s {σ : List Sl} {r : Res D} : stx d19x0 σ r = r := rfl
def d19 : Df := ⟨"middle_of", ["loads_told"], (["loads_told", "place", "weight"] : List Str),
    (.cons (.ite (.or (.not (.call 6 (.cons (.con (.int 100)) (.cons (.var 0) .nil)))) (.cons (.cmp .eq (.blt .len (.cons (.var 0) .nil)) (.con (.int 0))) .nil)) (.cons (.raise 1)
    .nil) .nil)
    (.cons (.ret (.ex (.call 4 (.cons (.call 9 (.cons (.var 0) .nil)) (.cons (.blt .sum (.cons d19x0 .nil)) .nil)))))
    .nil))⟩
def d20x0 : Ex := .lc (.blt .abs (.cons (.blt .int (.cons (.var 3) .nil)) .nil)) (.nm 3) (.ex (.slc (.var 0) .no (.so (.con (.int 63))))) (.so (.cmp .ge (.blt .abs (.cons (.blt .int (.cons (.var 3) .nil)) .nil)) (.bin .pow (.con (.int 10)) (.con (.int 18)))))
theorem d20x0s {σ : List Sl} {r : Res D} : stx d20x0 σ r = r := rfl
def d20b0 : Sms := (.cons (.set 2 (.ex (.bin .mod (.blt .int (.cons (.bin .add (.bin .add (.bin .add (.bin .mul (.var 2) (.con (.int 69621))) (.bin .mul (.blt .abs (.cons (.blt .int (.cons (.var 3) .nil)) .nil)) (.con (.int 2)))) (.blt .int (.cons (.cmp .lt (.blt .int (.cons (.var 3) .nil)) (.con (.int 0))) .nil))) (.con (.int 17))) .nil)) (.con (.int 2147483629)))))
    .nil)
def d20s0 : Sm := .for_ (.nm 3) (.ex (.slc (.var 0) .no (.so (.con (.int 63))))) d20b0
def d20 : Df := ⟨"_law_bag", ["script"], (["script", "great", "seed", "cell"] : List Str),
    (.cons (.set 1 (.nref d20x0))
    (.cons (.set 2 (.ex (.con (.int 4914))))
    (.cons d20s0
    (.cons (.ret (.nref (.lst (.cons (.var 1) (.cons (.var 2) (.cons (.blt .len (.cons (.var 0) .nil)) (.cons (.con (.int 0)) .nil)))))))
    .nil))))⟩
def d21 : Df := ⟨"_law_pick", ["bag", "many"], (["bag", "many", "number"] : List Str),
    (.cons (.ite (.cmp .eq (.idx (.var 0) (.con (.int 2))) (.con (.int 0))) (.cons (.ret (.ex (.con (.int 0))))
    .nil) .nil)
    (.cons (.ite (.cmp .gt (.blt .len (.cons (.idx (.var 0) (.con (.int 0))) .nil)) (.con (.int 0))) (.cons (.set 2 (.ex (.idx (.idx (.var 0) (.con (.int 0))) (.con (.int 0)))))
    (.cons (.rsb (.idx (.var 0) (.con (.int 0))) (.con (.int 0)) (.bin .fdiv (.var 2) (.var 1)))
    (.cons (.ite (.cmp .lt (.var 2) (.var 1)) (.cons (.rpp (.idx (.var 0) (.con (.int 0))) (.con (.int 0)))
    .nil) .nil)
    (.cons (.ret (.ex (.bin .mod (.blt .int (.cons (.var 2) .nil)) (.var 1))))
    .nil)))) .nil)
    (.cons (.rsb (.var 0) (.con (.int 3)) (.bin .add (.idx (.var 0) (.con (.int 3))) (.con (.int 1))))
    (.cons (.set 2 (.ex (.bin .mod (.blt .int (.cons (.bin .add (.bin .mul (.bin .add (.idx (.var 0) (.con (.int 1))) (.bin .mul (.con (.int 7919)) (.idx (.var 0) (.con (.int 3))))) (.con (.int 48271))) (.con (.int 11))) .nil)) (.con (.int 2147483647)))))
    (.cons (.set 2 (.ex (.bin .mod (.blt .int (.cons (.bin .add (.bin .mul (.var 2) (.bin .add (.bin .fdiv (.var 2) (.con (.int 1009))) (.con (.int 69621)))) (.idx (.var 0) (.con (.int 3)))) .nil)) (.con (.int 2147483399)))))
    (.cons (.rsb (.var 0) (.con (.int 1)) (.bin .mod (.blt .int (.cons (.bin .add (.idx (.var 0) (.con (.int 1))) (.var 2)) .nil)) (.con (.int 2147483629))))
    (.cons (.ret (.ex (.bin .mod (.blt .int (.cons (.bin .fdiv (.var 2) (.con (.int 16))) .nil)) (.var 1))))
    .nil)))))))⟩
def d22 : Df := ⟨"_law_some", ["bag", "things"], (["bag", "things"] : List Str),
    (.cons (.ret (.ex (.idx (.var 1) (.call 21 (.cons (.var 0) (.cons (.blt .len (.cons (.var 1) .nil)) .nil))))))
    .nil)⟩
def d23c0 : Ex := (.cmp .ne (.var 1) (.con (.int 0)))
def d23b0 : Sms := (.cons (.par [(0, false), (1, false)] (.cons (.var 1) (.cons (.bin .mod (.blt .int (.cons (.var 0) .nil)) (.var 1)) .nil)))
    .nil)
def d23s0 : Sm := .whl d23c0 d23b0
def d23 : Df := ⟨"_law_shared", ["one", "other"], (["one", "other"] : List Str),
    (.cons d23s0
    (.cons (.ret (.ex (.blt .max (.cons (.con (.int 1)) (.cons (.blt .abs (.cons (.var 0) .nil)) .nil)))))
    .nil))⟩
def d24 : Df := ⟨"_law_frac", ["top", "bottom"], (["top", "bottom", "part"] : List Str),
    (.cons (.set 2 (.ex (.call 23 (.cons (.var 0) (.cons (.var 1) .nil)))))
    (.cons (.ret (.ex (.tup (.cons (.bin .fdiv (.var 0) (.var 2)) (.cons (.bin .fdiv (.var 1) (.var 2)) .nil)))))
    .nil))⟩
def d25 : Df := ⟨"_law_plus", ["one", "other"], (["one", "other"] : List Str),
    (.cons (.ret (.ex (.call 24 (.cons (.bin .add (.bin .mul (.idx (.var 0) (.con (.int 0))) (.idx (.var 1) (.con (.int 1)))) (.bin .mul (.idx (.var 1) (.con (.int 0))) (.idx (.var 0) (.con (.int 1))))) (.cons (.bin .mul (.idx (.var 0) (.con (.int 1))) (.idx (.var 1) (.con (.int 1)))) .nil)))))
    .nil)⟩
def d26 : Df := ⟨"_law_times", ["one", "other"], (["one", "other"] : List Str),
    (.cons (.ret (.ex (.call 24 (.cons (.bin .mul (.idx (.var 0) (.con (.int 0))) (.idx (.var 1) (.con (.int 0)))) (.cons (.bin .mul (.idx (.var 0) (.con (.int 1))) (.idx (.var 1) (.con (.int 1)))) .nil)))))
    .nil)⟩
def d27x0 : Ex := .lc (.bin .mul (.var 1) (.var 2)) (.tp (.cons (.nm 1) (.cons (.nm 2) .nil))) (.ex (.var 0)) .no
theorem d27x0s {σ : List Sl} {r : Res D} : stx d27x0 σ r = r := rfl
def d27 : Df := ⟨"_law_moment", ["loads_now"], (["loads_now", "place", "weight"] : List Str),
    (.cons (.ret (.ex (.blt .sum (.cons d27x0 .nil))))
    .nil)⟩
def d28b1 : Sms := (.cons (.ext 3 (.lst (.cons (.bin .add (.var 4) (.tup (.cons (.neg (.con (.int 1))) .nil))) (.cons (.bin .add (.var 4) (.tup (.cons (.con (.int 1)) .nil))) .nil))))
    .nil)
def d28s1 : Sm := .for_ (.nm 4) (.ex (.var 1)) d28b1
def d28b0 : Sms := (.cons (.own 3 (.lst .nil))
    (.cons d28s1
    (.cons (.esc [3])
    (.cons (.set 1 (.ex (.var 3)))
    .nil))))
def d28s0 : Sm := .for_ (.nm 2) (.rng (.var 0)) d28b0
def d28 : Df := ⟨"_law_signs", ["many"], (["many", "found", "lap", "longer", "row"] : List Str),
    (.cons (.set 1 (.ex (.lst (.cons (.tup .nil) .nil))))
    (.cons d28s0
    (.cons (.ret (.ex (.var 1)))
    .nil)))⟩
def d29b0 : Sms := (.cons (.ite (.and (.cmp .eq (.bin .mod (.blt .int (.cons (.var 1) .nil)) (.var 2)) (.con (.int 0))) (.cons (.cmp .le (.bin .fdiv (.blt .abs (.cons (.var 1) .nil)) (.var 2)) (.var 0)) .nil)) (.cons (.ret (.ex (.tup (.cons (.var 2) (.cons (.bin .sub (.con (.int 0)) (.bin .fdiv (.var 1) (.var 2))) .nil)))))
    .nil) .nil)
    .nil)
def d29s0 : Sm := .for_ (.nm 2) (.rng2 (.con (.int 1)) (.con (.int 1001))) d29b0
def d29 : Df := ⟨"_law_least_weight", ["length", "whole"], (["length", "whole", "weight"] : List Str),
    (.cons (.ite (.cmp .eq (.var 1) (.con (.int 0))) (.cons (.ret (.ex (.tup (.cons (.con (.int 0)) (.cons (.con (.int 0)) .nil)))))
    .nil) .nil)
    (.cons d29s0
    (.cons (.ret (.ex (.con .non)))
    .nil)))⟩
def d30x0 : Ex := .lc (.bin .mul (.bin .mul (.var 14) (.var 12)) (.var 10)) (.tp (.cons (.nm 14) (.cons (.tp (.cons (.nm 12) (.cons (.nm 10) .nil))) .nil))) (.zip (.var 7) (.var 2)) .no
theorem d30x0s {σ : List Sl} {r : Res D} : stx d30x0 σ r = r := rfl
def d30b0 : Sms := (.cons (.ite (.cmp .eq (.blt .sum (.cons d30x0 .nil)) (.con (.int 0))) (.cons (.app 6 (.ex (.var 7)))
    .nil) .nil)
    .nil)
def d30s0 : Sm := .for_ (.nm 7) (.ex (.call 28 (.cons (.blt .len (.cons (.var 2) .nil)) .nil))) d30b0
def d30x1 : Ex := .lc (.var 12) (.nm 12) (.rng2 (.bin .sub (.con (.int 0)) (.var 1)) (.bin .add (.var 1) (.con (.int 1)))) (.so (.cmp .le (.blt .abs (.cons (.bin .add (.var 3) (.bin .mul (.var 12) (.var 4))) .nil)) (.var 8)))
theorem d30x1s {σ : List Sl} {r : Res D} : stx d30x1 σ r = r := rfl
def d30x2 : Ex := .lc (.var 13) (.tp (.cons (.nm 12) (.cons (.nm 13) .nil))) (.ex (.var 2)) .no
theorem d30x2s {σ : List Sl} {r : Res D} : stx d30x2 σ r = r := rfl
def d30t0 : Sm := (.set 3 (.ex (.call 27 (.cons (.var 2) .nil))))
def d30t1 : Sm := (.ite (.cmp .ne (.call 10 (.cons (.var 1) (.cons (.var 2) .nil))) (.var 3)) (.cons (.ret (.ex (.con (.bl false))))
    .nil) .nil)
def d30t2 : Sm := (.ite (.cmp .ne (.call 11 (.cons (.var 1) (.cons (.var 2) .nil))) (.ite (.cmp .eq (.var 3) (.con (.int 0))) (.con (.str "even")) (.ite (.cmp .lt (.var 3) (.con (.int 0))) (.con (.str "left")) (.con (.str "right"))))) (.cons (.ret (.ex (.con (.bl false))))
    .nil) .nil)
def d30t3 : Sm := (.set 4 (.ex (.bin .add (.con (.int 1)) (.call 21 (.cons (.var 0) (.cons (.con (.int 60)) .nil))))))
def d30t4 : Sm := (.set 5 (.ex (.call 24 (.cons (.bin .sub (.con (.int 0)) (.var 3)) (.cons (.var 4) .nil)))))
def d30t5 : Sm := (.ite (.cmp .ne (.call 13 (.cons (.var 1) (.cons (.var 2) (.cons (.var 4) .nil)))) (.ite (.cmp .le (.blt .abs (.cons (.idx (.var 5) (.con (.int 0))) .nil)) (.bin .mul (.var 1) (.idx (.var 5) (.con (.int 1))))) (.var 5) (.con .non))) (.cons (.ret (.ex (.con (.bl false))))
    .nil) .nil)
def d30t6 : Sm := (.ite (.cmp .ne (.call 14 (.cons (.var 1) (.cons (.var 2) .nil))) (.call 29 (.cons (.var 1) (.cons (.var 3) .nil)))) (.cons (.ret (.ex (.con (.bl false))))
    .nil) .nil)
def d30t7 : Sm := (.own 6 (.lst .nil))
def d30t9 : Sm := (.ite (.cmp .ne (.call 16 (.cons (.var 1) (.cons (.var 2) .nil))) (.ite (.cmp .ne (.var 6) (.lst .nil)) (.idx (.var 6) (.con (.int 0))) (.con .non))) (.cons (.ret (.ex (.con (.bl false))))
    .nil) .nil)
def d30t10 : Sm := (.set 8 (.ex (.call 21 (.cons (.var 0) (.cons (.con (.int 500)) .nil)))))
def d30t11 : Sm := (.set 9 (.ex d30x1))
def d30t12 : Sm := (.ite (.cmp .ne (.call 18 (.cons (.var 1) (.cons (.var 2) (.cons (.var 4) (.cons (.var 8) .nil))))) (.ite (.cmp .ne (.var 9) (.lst .nil)) (.tup (.cons (.idx (.var 9) (.con (.int 0))) (.cons (.idx (.var 9) (.neg (.con (.int 1)))) .nil))) (.con .non))) (.cons (.ret (.ex (.con (.bl false))))
    .nil) .nil)
def d30t13 : Sm := (.ite (.cmp .eq (.var 2) (.tup .nil)) (.cons (.ret (.ex (.con (.bl true))))
    .nil) .nil)
def d30t14 : Sm := (.set 10 (.ex (.blt .sum (.cons d30x2 .nil))))
def d30t15 : Sm := (.set 11 (.ex (.call 19 (.cons (.var 2) .nil))))
def d30t16 : Sm := (.ret (.ex (.and (.cmp .eq (.var 11) (.call 24 (.cons (.var 3) (.cons (.var 10) .nil)))) (.cons (.cmp .eq (.bin .mul (.var 3) (.idx (.var 11) (.con (.int 1)))) (.bin .mul (.idx (.var 11) (.con (.int 0))) (.var 10))) .nil))))
def d30 : Df := ⟨"_law_is_right", ["bag", "length", "loads_now"], (["bag", "length", "loads_now", "whole", "weight", "due", "signs", "row", "bend", "safe", "heavy", "told", "place", "one", "sign"] : List Str),
    (.cons d30t0
    (.cons d30t1
    (.cons d30t2
    (.cons d30t3
    (.cons d30t4
    (.cons d30t5
    (.cons d30t6
    (.cons d30t7
    (.cons d30s0
    (.cons d30t9
    (.cons d30t10
    (.cons d30t11
    (.cons d30t12
    (.cons d30t13
    (.cons d30t14
    (.cons d30t15
    (.cons d30t16
    .nil)))))))))))))))))⟩
def d31b1 : Sms := (.cons (.app 4 (.ex (.tup (.cons (.bin .sub (.call 21 (.cons (.var 1) (.cons (.bin .add (.bin .mul (.con (.int 2)) (.var 3)) (.con (.int 1))) .nil))) (.var 3)) (.cons (.bin .add (.con (.int 1)) (.call 21 (.cons (.var 1) (.cons (.con (.int 30)) .nil)))) .nil)))))
    .nil)
def d31s1 : Sm := .for_ (.nm 5) (.rng (.call 21 (.cons (.var 1) (.cons (.con (.int 6)) .nil)))) d31b1
def d31b0 : Sms := (.cons (.set 3 (.ex (.bin .add (.con (.int 1)) (.call 21 (.cons (.var 1) (.cons (.con (.int 14)) .nil))))))
    (.cons (.own 4 (.lst .nil))
    (.cons d31s1
    (.cons (.ite (.not (.call 30 (.cons (.var 1) (.cons (.var 3) (.cons (.blt .tuple (.cons (.var 4) .nil)) .nil))))) (.cons (.ret (.ex (.con (.bl false))))
    .nil) .nil)
    .nil))))
def d31s0 : Sm := .for_ (.nm 2) (.rng (.con (.int 5))) d31b0
def d31t0 : Sm := (.set 1 (.ex (.call 20 (.cons (.var 0) .nil))))
def d31t1 : Sm := (.ite (.or (.cmp .ne (.call 11 (.cons (.con (.int 5)) (.cons (.tup (.cons (.tup (.cons (.con (.int 2)) (.cons (.con (.int 3)) .nil))) (.cons (.tup (.cons (.neg (.con (.int 3))) (.cons (.con (.int 2)) .nil))) .nil))) .nil))) (.con (.str "even"))) (.cons (.cmp .ne (.call 13 (.cons (.con (.int 5)) (.cons (.tup (.cons (.tup (.cons (.con (.int 2)) (.cons (.con (.int 3)) .nil))) .nil)) (.cons (.con (.int 4)) .nil)))) (.tup (.cons (.neg (.con (.int 3))) (.cons (.con (.int 2)) .nil)))) .nil)) (.cons (.ret (.ex (.con (.bl false))))
    .nil) .nil)
def d31t2 : Sm := (.ite (.cmp .ne (.call 19 (.cons (.tup (.cons (.tup (.cons (.con (.int 0)) (.cons (.con (.int 1)) .nil))) (.cons (.tup (.cons (.con (.int 4)) (.cons (.con (.int 3)) .nil))) .nil))) .nil)) (.tup (.cons (.con (.int 3)) (.cons (.con (.int 1)) .nil)))) (.cons (.ret (.ex (.con (.bl false))))
    .nil) .nil)
def d31t3 : Sm := (.ite (.or (.cmp .ne (.call 14 (.cons (.con (.int 2)) (.cons (.tup (.cons (.tup (.cons (.con (.int 1)) (.cons (.con (.int 6)) .nil))) .nil)) .nil))) (.tup (.cons (.con (.int 3)) (.cons (.neg (.con (.int 2))) .nil)))) (.cons (.cmp .ne (.call 16 (.cons (.con (.int 9)) (.cons (.tup (.cons (.tup (.cons (.con (.int 1)) (.cons (.con (.int 3)) .nil))) (.cons (.tup (.cons (.con (.int 3)) (.cons (.con (.int 1)) .nil))) .nil))) .nil))) (.tup (.cons (.neg (.con (.int 1))) (.cons (.con (.int 1)) .nil)))) .nil)) (.cons (.ret (.ex (.con (.bl false))))
    .nil) .nil)
def d31t5 : Sm := (.ret (.ex (.con (.bl true))))
def d31 : Df := ⟨"law", ["script"], (["script", "bag", "lap", "length", "rows", "turn"] : List Str),
    (.cons d31t0
    (.cons d31t1
    (.cons d31t2
    (.cons d31t3
    (.cons d31s0
    (.cons d31t5
    .nil))))))⟩
def defs : List Df := ([d0, d1, d2, d3, d4, d5, d6, d7, d8, d9, d10, d11, d12, d13, d14, d15, d16, d17, d18, d19] : List Df) ++ ([d20, d21, d22, d23, d24, d25, d26, d27, d28, d29, d30, d31] : List Df)
def G : Gm := ⟨([("is_integer", 1), ("is_within", 3), ("is_tuple_of", 2), ("common_part", 2), ("ratio", 2), ("is_load", 2), ("are_loads", 2), ("check_beam", 2), ("check_weight", 1), ("raw_moment", 1), ("moment", 2), ("side", 2), ("is_on_beam", 2), ("place_for", 3), ("least_weight", 2), ("longer_signs", 2), ("balanced_signs", 2), ("safe_places", 4), ("safe_walk", 4), ("middle_of", 1)] : List (Str × Nat)) ++ ([("_law_bag", 1), ("_law_pick", 2), ("_law_some", 2), ("_law_shared", 2), ("_law_frac", 2), ("_law_plus", 2), ("_law_times", 2), ("_law_moment", 1), ("_law_signs", 1), ("_law_least_weight", 2), ("_law_is_right", 3), ("law", 1)] : List (Str × Nat)), (["NoLength", "NoLoads", "NoWeight", "NoBend"] : List Str), ([("MOST_WEIGHT", (.int 1000)), ("MOST_LOADS", (.int 10)), ("MOST_LENGTH", (.int 100)), ("EVEN", (.str "even")), ("LEFT", (.str "left")), ("RIGHT", (.str "right")), ("SIGNS", (.tup [(.int (-1)), (.int 1)])), ("MOST_BEND", (.int 1000000))] : List (Str × D)), (["ValueError", "abs", "all", "bool", "int", "isinstance", "len", "max", "range", "sum", "tuple", "zip"] : List Str)⟩
theorem al : alB G defs fn = true := by kernel_rfl
abbrev R : PySem.W.OpenRow := PySem.W.OpenLaw.row PySem.Challenge.rw_circusweek_k14_whole_beams_that_are_even
abbrev hk : PySem.W.Hook := hookC 4 fn (exB G defs)
def ob (s : PySem.W.SharedT) : AlC := obsC 4 fn (exB G defs) (HandSHeadRun.getT s)
theorem ob_eq (s : PySem.W.SharedT) : ob s = hk.obs s.abs := obsC_eq (HandSHeadRun.getT_eq s)
def loose : List Str := (["__name__", "is_integer", "is_within", "is_tuple_of", "CircusError", "NoLength", "NoLoads", "NoWeight", "NoBend", "common_part", "ratio", "MOST_LENGTH", "MOST_LOADS", "MOST_WEIGHT", "MOST_BEND", "LEFT", "RIGHT", "EVEN", "SIGNS", "is_load"] : List Str) ++ (["are_loads", "check_beam", "check_weight", "raw_moment", "moment", "side", "is_on_beam", "place_for", "least_weight", "longer_signs", "balanced_signs", "safe_places", "safe_walk", "middle_of", "_law_bag", "_law_pick", "_law_some", "_law_shared", "_law_frac", "_law_plus"] : List Str) ++ (["_law_times", "_law_moment", "_law_signs", "_law_least_weight", "_law_is_right"] : List Str)
theorem run (w : World) : HandSHeadRun.RunEq R (PySem.W.view R.prog [49]) hk ob 6000 loose w := by
  intro os
  kernel_rfl
end Lw
open PySem PySem.W PySem.Calls PyProof.Rows
theorem law_holds (h : Cw.Answers Lw.defs 1000000000000 100 31) : PySem.Challenge.rw_circusweek_k14_whole_beams_that_are_even.Holds := by
  w_on; o_law
  refine HandSHeadRun.head_any (r := OpenLaw.row PySem.Challenge.rw_circusweek_k14_whole_beams_that_are_even) (q := view (OpenLaw.row PySem.Challenge.rw_circusweek_k14_whole_beams_that_are_even).prog [49]) (H := Lw.hk) (ob := Lw.ob) (M := 6000) (loose := Lw.loose) (d := HandSHeadRun.topDef (OpenLaw.row PySem.Challenge.rw_circusweek_k14_whole_beams_that_are_even).prog 49) (kwd := []) Lw.ob_eq
    (by kernel_rfl) (fun s => by kernel_rfl) Lw.run (by kernel_rfl) (by kernel_rfl) (by kernel_rfl) (by rfl) (by first | assumption | decide +kernel) (by decide +kernel) ⟨rfl, rfl, rfl, rfl, rfl, by decide +kernel⟩ ?hw ?hc
  case hw => w_witness2
  case hc =>
    exact Cw.law_end (l := PySem.Challenge.rw_circusweek_k14_whole_beams_that_are_even) (k := 100) (i := 31) (G := Lw.G) (defs := Lw.defs) (fn := Lw.fn) (fu := 1000000000000) (df := Lw.d31) (x := "script") rfl (by kernel_rfl) ⟨rfl, by decide, by decide⟩ Lw.al (by kernel_rfl) rfl (by kernel_rfl) rfl h

end
section
namespace Lw
open Cw
def FU : Nat := 1000000000000
def cl (k : Nat) : Nat → List D → RH → Res D := callN defs FU k
theorem clE {k i : Nat} {d : Df} {args : List D} {R : RH} (h : defs[i]? = some d) : cl (k + 1) i args R = runD (cl k) FU d args R := callE h
def isI : D → Bool
  | .int _ => true
  | _ => false
theorem e0 {k : Nat} {d : D} {R : RH} (h : ∀ i, d ≠ .fn i) : cl (k + 1) 0 [d] R = .ok (.bl (isI d)) R := by
  rw [clE (d := d0) rfl]
  cases d <;> first | exact absurd rfl (h _) | simp [runD, execs, exec, sqK, ev, evs, evb, evAnd, evOr, evo, evc, evi, evis, evX, evSE, evP, setP, stk_var, stk_con, stk_tup, stk_lst, stk_bin, stk_neg, stk_cmp, stk_ch2, stk_and, stk_or, stk_not, stk_ite, stk_call, stk_blt, stk_isi, stk_meth, stk_idx, stk_slc, stk_rev, stk_lc, Res.bind, Res.of, gS, sS, Sl.val, isOw, bltD, idxD, cmpD, binD, notD, negD, isKs, isK, lenR, slcD, itmD, rngD, rngD2, setT, setTs, tgs, tgss, killS, setC, isNon, ownable, putD, augD, extD, ofS, popD, deqI, deqB, deqS, deqT, deqL, deqs, deqNN, deqNT, deqTN, deqNI, deqIN, cmpb, dlt, flt, plain, plains, dep, deps, d0, isI]
theorem e1 {k : Nat} {x a b : Int} {R : RH} : cl (k + 2) 1 [.int x, .int a, .int b] R = .ok (.bl (decide (a ≤ x) && decide (x ≤ b))) R := by
  rw [clE (d := d1) rfl]
  by_cases h : a ≤ x <;> simp [runD, execs, exec, sqK, ev, evs, evb, evAnd, evOr, evo, evc, evi, evis, evX, evSE, evP, setP, stk_var, stk_con, stk_tup, stk_lst, stk_bin, stk_neg, stk_cmp, stk_ch2, stk_and, stk_or, stk_not, stk_ite, stk_call, stk_blt, stk_isi, stk_meth, stk_idx, stk_slc, stk_rev, stk_lc, Res.bind, Res.of, gS, sS, Sl.val, isOw, bltD, idxD, cmpD, binD, notD, negD, isKs, isK, lenR, slcD, itmD, rngD, rngD2, setT, setTs, tgs, tgss, killS, setC, isNon, ownable, putD, augD, extD, ofS, popD, deqI, deqB, deqS, deqT, deqL, deqs, deqNN, deqNT, deqTN, deqNI, deqIN, cmpb, dlt, flt, plain, plains, dep, deps, d1, e0, isI, h]
theorem e2 {k : Nat} {l : List D} {n : Int} {R : RH} : cl (k + 1) 2 [.tup l, .int n] R = .ok (.bl (decide ((l.length : Int) = n))) R := by
  rw [clE (d := d2) rfl]
  simp [runD, execs, exec, sqK, ev, evs, evb, evAnd, evOr, evo, evc, evi, evis, evX, evSE, evP, setP, stk_var, stk_con, stk_tup, stk_lst, stk_bin, stk_neg, stk_cmp, stk_ch2, stk_and, stk_or, stk_not, stk_ite, stk_call, stk_blt, stk_isi, stk_meth, stk_idx, stk_slc, stk_rev, stk_lc, Res.bind, Res.of, gS, sS, Sl.val, isOw, bltD, idxD, cmpD, binD, notD, negD, isKs, isK, lenR, slcD, itmD, rngD, rngD2, setT, setTs, tgs, tgss, killS, setC, isNon, ownable, putD, augD, extD, ofS, popD, deqI, deqB, deqS, deqT, deqL, deqs, deqNN, deqNT, deqTN, deqNI, deqIN, cmpb, dlt, flt, plain, plains, dep, deps, d2]
theorem gcd_step {a b : Int} : a - b * a.fdiv b = a.fmod b := by
  have := Int.mul_fdiv_add_fmod a b
  omega
theorem fmod_emod {a b : Int} (hb : 0 < b) : a.fmod b = a % b := Int.fmod_eq_emod_of_nonneg a (Int.le_of_lt hb)
theorem gcd_mod {a b : Int} (ha : 0 ≤ a) (hb : 0 < b) : Int.gcd b (a.fmod b) = Int.gcd a b := by
  rw [fmod_emod hb]
  obtain ⟨m, rfl⟩ := Int.eq_ofNat_of_zero_le ha
  obtain ⟨n, rfl⟩ := Int.eq_ofNat_of_zero_le (Int.le_of_lt hb)
  rw [← Int.natCast_emod]
  show Nat.gcd n (m % n) = Nat.gcd m n
  rw [Nat.gcd_comm m n, Nat.gcd_rec n m, Nat.gcd_comm]
/-- two that are measured against each other -/
def I3 (g : Nat) (s : Int × Int) : Prop := 0 ≤ s.1 ∧ 0 ≤ s.2 ∧ s.1 < 2 ^ 60 ∧ s.2 < 2 ^ 30 ∧ Int.gcd s.1 s.2 = g
def S3 (s : Int × Int) : List Sl := [.sh (.int s.1), .sh (.int s.2)]
theorem s3 {ck : Nat → List D → RH → Res D} {R : RH} {a b : Int} (h1 : 0 ≤ a) (h2 : 0 ≤ b) (h3 : a < 2 ^ 60) (h4 : b < 2 ^ 30) : exec ck FU d3s0 [.sh (.int a), .sh (.int b)] R = .ok (.nx, [.sh (.int (Int.gcd a b)), .sh (.int 0)]) R := by
  obtain ⟨s', e, i, c⟩ := whl_inv (R := R) (c := fun σ R => ev ck d3c0 σ R) (b := fun σ R => execs ck FU d3b0 σ R) S3 (fun s => !decide (s.2 = 0)) (fun s => (s.2, s.1.fmod s.2)) (I3 (Int.gcd a b)) (fun s => s.2.toNat) (fun s i => by
      obtain ⟨x, y⟩ := s
      simp [runD, execs, exec, sqK, ev, evs, evb, evAnd, evOr, evo, evc, evi, evis, evX, evSE, evP, setP, stk_var, stk_con, stk_tup, stk_lst, stk_bin, stk_neg, stk_cmp, stk_ch2, stk_and, stk_or, stk_not, stk_ite, stk_call, stk_blt, stk_isi, stk_meth, stk_idx, stk_slc, stk_rev, stk_lc, Res.bind, Res.of, gS, sS, Sl.val, isOw, bltD, idxD, cmpD, binD, notD, negD, isKs, isK, lenR, slcD, itmD, rngD, rngD2, setT, setTs, tgs, tgss, killS, setC, isNon, ownable, putD, augD, extD, ofS, popD, deqI, deqB, deqS, deqT, deqL, deqs, deqNN, deqNT, deqTN, deqNI, deqIN, cmpb, dlt, flt, plain, plains, dep, deps, d3c0, S3]) (fun s i hc => by
      obtain ⟨x, y⟩ := s
      obtain ⟨i1, i2, i3, i4, i5⟩ := i
      simp only at i1 i2 i3 i4 i5
      have h0 : y ≠ 0 := by simpa using hc
      have hp : 0 < y := by omega
      have hm : 0 ≤ x.fmod y := by rw [fmod_emod hp]; exact Int.emod_nonneg _ h0
      have hl : x.fmod y < y := by rw [fmod_emod hp]; exact Int.emod_lt_of_pos _ hp
      have c1 : L2.CDivN x y := ⟨h0, by omega⟩
      have c2 : L2.CMul y (x.fdiv y) := .inl ⟨by omega, by omega⟩
      refine ⟨?_, ⟨i2, hm, by show y < _; omega, by show x.fmod y < _; omega, ?_⟩, by show (x.fmod y).toNat < y.toNat; omega⟩
      · simp [runD, execs, exec, sqK, ev, evs, evb, evAnd, evOr, evo, evc, evi, evis, evX, evSE, evP, setP, stk_var, stk_con, stk_tup, stk_lst, stk_bin, stk_neg, stk_cmp, stk_ch2, stk_and, stk_or, stk_not, stk_ite, stk_call, stk_blt, stk_isi, stk_meth, stk_idx, stk_slc, stk_rev, stk_lc, Res.bind, Res.of, gS, sS, Sl.val, isOw, bltD, idxD, cmpD, binD, notD, negD, isKs, isK, lenR, slcD, itmD, rngD, rngD2, setT, setTs, tgs, tgss, killS, setC, isNon, ownable, putD, augD, extD, ofS, popD, deqI, deqB, deqS, deqT, deqL, deqs, deqNN, deqNT, deqTN, deqNI, deqIN, cmpb, dlt, flt, plain, plains, dep, deps, d3b0, S3, c1, c2, gcd_step]
      · show Int.gcd y (x.fmod y) = _
        rw [gcd_mod i1 hp]
        exact i5) FU (a, b) ⟨h1, h2, h3, h4, rfl⟩ (by show b.toNat < FU; unfold FU; omega)
  have e2 : s'.2 = 0 := by simpa using c
  obtain ⟨i1, i2, i3, i4, i5⟩ := i
  obtain ⟨x, y⟩ := s'
  simp only at e2 i5 i1
  subst e2
  have : x = (Int.gcd a b : Int) := by
    rw [← i5, Int.gcd_zero_right]
    omega
  subst this
  exact e
theorem e3 {k : Nat} {a b : Int} {R : RH} (h1 : a.natAbs < 2 ^ 60) (h2 : b.natAbs < 2 ^ 30) : cl (k + 1) 3 [.int a, .int b] R = .ok (.int (Int.gcd a b)) R := by
  rw [clE (d := d3) rfl]
  have e : ∀ x : Int, (if x < 0 then -x else x) = (x.natAbs : Int) := fun x => by omega
  have s := s3 (ck := cl k) (R := R) (a := (a.natAbs : Int)) (b := (b.natAbs : Int)) (by omega) (by omega) (by omega) (by omega)
  have g : Int.gcd (a.natAbs : Int) (b.natAbs : Int) = Int.gcd a b := by simp [Int.gcd]
  rw [g] at s
  simp [runD, execs, exec, sqK, ev, evs, evb, evAnd, evOr, evo, evc, evi, evis, evX, evSE, evP, setP, stk_var, stk_con, stk_tup, stk_lst, stk_bin, stk_neg, stk_cmp, stk_ch2, stk_and, stk_or, stk_not, stk_ite, stk_call, stk_blt, stk_isi, stk_meth, stk_idx, stk_slc, stk_rev, stk_lc, Res.bind, Res.of, gS, sS, Sl.val, isOw, bltD, idxD, cmpD, binD, notD, negD, isKs, isK, lenR, slcD, itmD, rngD, rngD2, setT, setTs, tgs, tgss, killS, setC, isNon, ownable, putD, augD, extD, ofS, popD, deqI, deqB, deqS, deqT, deqL, deqs, deqNN, deqNT, deqTN, deqNI, deqIN, cmpb, dlt, flt, plain, plains, dep, deps, d3, e, s]
end Lw

end
section
namespace Lw
open Cw
abbrev Ld : Type := Int × Int
def encL (l : Ld) : D := .tup [.int l.1, .int l.2]
def encLs (l : List Ld) : D := .tup (l.map encL)
def frac (a b : Int) : Int × Int := (a.fdiv (Int.gcd a b : Int), b.fdiv (Int.gcd a b : Int))
theorem gcd_pos {a b : Int} (h : 0 < b) : 0 < (Int.gcd a b : Int) ∧ (Int.gcd a b : Int) ≤ b := by
  have h1 : 0 < Int.gcd a b := Int.gcd_pos_of_ne_zero_right a (by omega)
  have h2 : Int.gcd a b ∣ b.natAbs := Nat.gcd_dvd_right _ _
  have h3 := Nat.le_of_dvd (by omega) h2
  omega
theorem e4 {k : Nat} {a b : Int} {R : RH} (h1 : a.natAbs < 2 ^ 60) (h2 : 0 < b) (h3 : b < 2 ^ 30) : cl (k + 2) 4 [.int a, .int b] R = .ok (encL (frac a b)) R := by
  rw [clE (d := d4) rfl]
  obtain ⟨g1, g2⟩ := gcd_pos (a := a) h2
  have c1 : L2.CDivN a (Int.gcd a b : Int) := ⟨by omega, by omega⟩
  have c2 : L2.CDivN b (Int.gcd a b : Int) := ⟨by omega, by omega⟩
  have e := e3 (k := k) (R := R) h1 (show b.natAbs < 2 ^ 30 by omega)
  simp [runD, execs, exec, sqK, ev, evs, evb, evAnd, evOr, evo, evc, evi, evis, evX, evSE, evP, setP, stk_var, stk_con, stk_tup, stk_lst, stk_bin, stk_neg, stk_cmp, stk_ch2, stk_and, stk_or, stk_not, stk_ite, stk_call, stk_blt, stk_isi, stk_meth, stk_idx, stk_slc, stk_rev, stk_lc, Res.bind, Res.of, gS, sS, Sl.val, isOw, bltD, idxD, cmpD, binD, notD, negD, isKs, isK, lenR, slcD, itmD, rngD, rngD2, setT, setTs, tgs, tgss, killS, setC, isNon, ownable, putD, augD, extD, ofS, popD, deqI, deqB, deqS, deqT, deqL, deqs, deqNN, deqNT, deqTN, deqNI, deqIN, cmpb, dlt, flt, plain, plains, dep, deps, d4, e, h2, c1, c2, encL, frac]
def okL (n : Int) (l : Ld) : Bool := decide (-n ≤ l.1) && decide (l.1 ≤ n) && (decide (1 ≤ l.2) && decide (l.2 ≤ 1000))
theorem e5 {k : Nat} {n : Int} {l : Ld} {R : RH} : cl (k + 3) 5 [.int n, encL l] R = .ok (.bl (okL n l)) R := by
  rw [clE (d := d5) rfl]
  have i0 : L2.atI [D.int l.1, D.int l.2] 0 = some (.int l.1) := rfl
  have i1 : L2.atI [D.int l.1, D.int l.2] 1 = some (.int l.2) := rfl
  unfold okL encL
  cases q : (decide (-n ≤ l.1) && decide (l.1 ≤ n)) <;> simp [runD, execs, exec, sqK, ev, evs, evb, evAnd, evOr, evo, evc, evi, evis, evX, evSE, evP, setP, stk_var, stk_con, stk_tup, stk_lst, stk_bin, stk_neg, stk_cmp, stk_ch2, stk_and, stk_or, stk_not, stk_ite, stk_call, stk_blt, stk_isi, stk_meth, stk_idx, stk_slc, stk_rev, stk_lc, Res.bind, Res.of, gS, sS, Sl.val, isOw, bltD, idxD, cmpD, binD, notD, negD, isKs, isK, lenR, slcD, itmD, rngD, rngD2, setT, setTs, tgs, tgss, killS, setC, isNon, ownable, putD, augD, extD, ofS, popD, deqI, deqB, deqS, deqT, deqL, deqs, deqNN, deqNT, deqTN, deqNI, deqIN, cmpb, dlt, flt, plain, plains, dep, deps, d5, e2, e1, i0, i1, q]
theorem x6 {k : Nat} {n : Int} {ls : List Ld} {R : RH} : ev (cl (k + 3)) d6x0 [.sh (.int n), .sh (encLs ls), .no] R = .ok (.lst (ls.map fun l => .bl (okL n l))) R := by
  refine ev_lcE (ds := ls.map encL) (R1 := R) rfl (lcL_map fun x _ => ?_)
  unfold lcF
  simp [runD, execs, exec, sqK, ev, evs, evb, evAnd, evOr, evo, evc, evi, evis, evX, evSE, evP, setP, stk_var, stk_con, stk_tup, stk_lst, stk_bin, stk_neg, stk_cmp, stk_ch2, stk_and, stk_or, stk_not, stk_ite, stk_call, stk_blt, stk_isi, stk_meth, stk_idx, stk_slc, stk_rev, stk_lc, Res.bind, Res.of, gS, sS, Sl.val, isOw, bltD, idxD, cmpD, binD, notD, negD, isKs, isK, lenR, slcD, itmD, rngD, rngD2, setT, setTs, tgs, tgss, killS, setC, isNon, ownable, putD, augD, extD, ofS, popD, deqI, deqB, deqS, deqT, deqL, deqs, deqNN, deqNT, deqTN, deqNI, deqIN, cmpb, dlt, flt, plain, plains, dep, deps, e5]
def okLs (n : Int) (ls : List Ld) : Bool := decide (ls.length ≤ 10) && ls.all (okL n)
theorem e6 {k : Nat} {n : Int} {ls : List Ld} {R : RH} : cl (k + 4) 6 [.int n, encLs ls] R = .ok (.bl (okLs n ls)) R := by
  rw [clE (d := d6) rfl]
  have x := x6 (k := k) (n := n) (ls := ls) (R := R)
  have b := blsD_mapf (okL n) ls
  unfold encLs at x ⊢
  unfold okLs
  by_cases q : ls.length ≤ 10
  · have q2 : (ls.length : Int) ≤ 10 := by omega
    simp [runD, execs, exec, sqK, ev, evs, evb, evAnd, evOr, evo, evc, evi, evis, evX, evSE, evP, setP, stk_var, stk_con, stk_tup, stk_lst, stk_bin, stk_neg, stk_cmp, stk_ch2, stk_and, stk_or, stk_not, stk_ite, stk_call, stk_blt, stk_isi, stk_meth, stk_idx, stk_slc, stk_rev, stk_lc, Res.bind, Res.of, gS, sS, Sl.val, isOw, bltD, idxD, cmpD, binD, notD, negD, isKs, isK, lenR, slcD, itmD, rngD, rngD2, setT, setTs, tgs, tgss, killS, setC, isNon, ownable, putD, augD, extD, ofS, popD, deqI, deqB, deqS, deqT, deqL, deqs, deqNN, deqNT, deqTN, deqNI, deqIN, cmpb, dlt, flt, plain, plains, dep, deps, d6, x, b, q, q2]
  · have q2 : ¬ (ls.length : Int) ≤ 10 := by omega
    simp [runD, execs, exec, sqK, ev, evs, evb, evAnd, evOr, evo, evc, evi, evis, evX, evSE, evP, setP, stk_var, stk_con, stk_tup, stk_lst, stk_bin, stk_neg, stk_cmp, stk_ch2, stk_and, stk_or, stk_not, stk_ite, stk_call, stk_blt, stk_isi, stk_meth, stk_idx, stk_slc, stk_rev, stk_lc, Res.bind, Res.of, gS, sS, Sl.val, isOw, bltD, idxD, cmpD, binD, notD, negD, isKs, isK, lenR, slcD, itmD, rngD, rngD2, setT, setTs, tgs, tgss, killS, setC, isNon, ownable, putD, augD, extD, ofS, popD, deqI, deqB, deqS, deqT, deqL, deqs, deqNN, deqNT, deqTN, deqNI, deqIN, cmpb, dlt, flt, plain, plains, dep, deps, d6, x, b, q, q2]
/-- a beam with loads -/
structure Bm (n : Int) (ls : List Ld) : Prop where
  n1 : 1 ≤ n
  n2 : n ≤ 100
  ls : okLs n ls = true
theorem e7 {k : Nat} {n : Int} {ls : List Ld} {R : RH} (h : Bm n ls) : cl (k + 5) 7 [.int n, encLs ls] R = .ok .non R := by
  rw [clE (d := d7) rfl]
  simp [runD, execs, exec, sqK, ev, evs, evb, evAnd, evOr, evo, evc, evi, evis, evX, evSE, evP, setP, stk_var, stk_con, stk_tup, stk_lst, stk_bin, stk_neg, stk_cmp, stk_ch2, stk_and, stk_or, stk_not, stk_ite, stk_call, stk_blt, stk_isi, stk_meth, stk_idx, stk_slc, stk_rev, stk_lc, Res.bind, Res.of, gS, sS, Sl.val, isOw, bltD, idxD, cmpD, binD, notD, negD, isKs, isK, lenR, slcD, itmD, rngD, rngD2, setT, setTs, tgs, tgss, killS, setC, isNon, ownable, putD, augD, extD, ofS, popD, deqI, deqB, deqS, deqT, deqL, deqs, deqNN, deqNT, deqTN, deqNI, deqIN, cmpb, dlt, flt, plain, plains, dep, deps, d7, e1, e6, h.n1, h.n2, h.ls]
theorem e8 {k : Nat} {w : Int} {R : RH} (h1 : 1 ≤ w) (h2 : w ≤ 1000) : cl (k + 3) 8 [.int w] R = .ok .non R := by
  rw [clE (d := d8) rfl]
  simp [runD, execs, exec, sqK, ev, evs, evb, evAnd, evOr, evo, evc, evi, evis, evX, evSE, evP, setP, stk_var, stk_con, stk_tup, stk_lst, stk_bin, stk_neg, stk_cmp, stk_ch2, stk_and, stk_or, stk_not, stk_ite, stk_call, stk_blt, stk_isi, stk_meth, stk_idx, stk_slc, stk_rev, stk_lc, Res.bind, Res.of, gS, sS, Sl.val, isOw, bltD, idxD, cmpD, binD, notD, negD, isKs, isK, lenR, slcD, itmD, rngD, rngD2, setT, setTs, tgs, tgss, killS, setC, isNon, ownable, putD, augD, extD, ofS, popD, deqI, deqB, deqS, deqT, deqL, deqs, deqNN, deqNT, deqTN, deqNI, deqIN, cmpb, dlt, flt, plain, plains, dep, deps, d8, e1, h1, h2]
def mom (ls : List Ld) : Int := (ls.map fun l => l.1 * l.2).sum
theorem Bm.at {n : Int} {ls : List Ld} (h : Bm n ls) {l : Ld} (hl : l ∈ ls) : -n ≤ l.1 ∧ l.1 ≤ n ∧ 1 ≤ l.2 ∧ l.2 ≤ 1000 := by
  have := h.ls
  unfold okLs at this
  simp only [Bool.and_eq_true, decide_eq_true_eq, List.all_eq_true] at this
  have := this.2 l hl
  unfold okL at this
  simpa [and_assoc] using this
theorem Bm.len {n : Int} {ls : List Ld} (h : Bm n ls) : ls.length ≤ 10 := by
  have := h.ls
  unfold okLs at this
  simp only [Bool.and_eq_true, decide_eq_true_eq] at this
  exact this.1
theorem mom_bound {n : Int} : ∀ {ls : List Ld}, n ≤ 100 → (∀ l ∈ ls, -n ≤ l.1 ∧ l.1 ≤ n ∧ 1 ≤ l.2 ∧ l.2 ≤ 1000) → (mom ls).natAbs ≤ ls.length * 100000
  | [], _, _ => by simp [mom]
  | l :: ls, hn, h => by
    have ih := mom_bound (ls := ls) hn fun x hx => h x (List.mem_cons_of_mem _ hx)
    obtain ⟨h1, h2, h3, h4⟩ := h l List.mem_cons_self
    have e : mom (l :: ls) = l.1 * l.2 + mom ls := by simp [mom]
    have b : (l.1 * l.2).natAbs ≤ 100 * 1000 := by
      rw [Int.natAbs_mul]
      exact Nat.mul_le_mul (by omega) (by omega)
    rw [e, List.length_cons]
    omega
theorem Bm.mom {n : Int} {ls : List Ld} (h : Bm n ls) : (mom ls).natAbs ≤ 1000000 := by
  have := mom_bound h.n2 fun l hl => h.at hl
  have := h.len
  omega
theorem mulOk {a b : Int} (h : a.natAbs ≤ 1000000000) : L2.CMul a b := .inl ⟨by omega, by omega⟩
theorem x9 {k : Nat} {n : Int} {ls : List Ld} {R : RH} (h : Bm n ls) : ev (cl k) d9x0 [.sh (encLs ls), .no, .no] R = .ok (.lst (ls.map fun l => .int (l.1 * l.2))) R := by
  refine ev_lcE (ds := ls.map encL) (R1 := R) rfl (lcL_map fun l hl => ?_)
  obtain ⟨h1, h2, h3, h4⟩ := h.at hl
  have := h.n2
  have c : L2.CMul l.1 l.2 := mulOk (by omega)
  unfold lcF
  simp [runD, execs, exec, sqK, ev, evs, evb, evAnd, evOr, evo, evc, evi, evis, evX, evSE, evP, setP, stk_var, stk_con, stk_tup, stk_lst, stk_bin, stk_neg, stk_cmp, stk_ch2, stk_and, stk_or, stk_not, stk_ite, stk_call, stk_blt, stk_isi, stk_meth, stk_idx, stk_slc, stk_rev, stk_lc, Res.bind, Res.of, gS, sS, Sl.val, isOw, bltD, idxD, cmpD, binD, notD, negD, isKs, isK, lenR, slcD, itmD, rngD, rngD2, setT, setTs, tgs, tgss, killS, setC, isNon, ownable, putD, augD, extD, ofS, popD, deqI, deqB, deqS, deqT, deqL, deqs, deqNN, deqNT, deqTN, deqNI, deqIN, cmpb, dlt, flt, plain, plains, dep, deps, encL, c]
theorem e9 {k : Nat} {n : Int} {ls : List Ld} {R : RH} (h : Bm n ls) : cl (k + 1) 9 [encLs ls] R = .ok (.int (mom ls)) R := by
  rw [clE (d := d9) rfl]
  have b := intsD_mapf (fun l : Ld => l.1 * l.2) ls
  simp [runD, execs, exec, sqK, ev, evs, evb, evAnd, evOr, evo, evc, evi, evis, evX, evSE, evP, setP, stk_var, stk_con, stk_tup, stk_lst, stk_bin, stk_neg, stk_cmp, stk_ch2, stk_and, stk_or, stk_not, stk_ite, stk_call, stk_blt, stk_isi, stk_meth, stk_idx, stk_slc, stk_rev, stk_lc, Res.bind, Res.of, gS, sS, Sl.val, isOw, bltD, idxD, cmpD, binD, notD, negD, isKs, isK, lenR, slcD, itmD, rngD, rngD2, setT, setTs, tgs, tgss, killS, setC, isNon, ownable, putD, augD, extD, ofS, popD, deqI, deqB, deqS, deqT, deqL, deqs, deqNN, deqNT, deqTN, deqNI, deqIN, cmpb, dlt, flt, plain, plains, dep, deps, d9, x9 h, b, mom]
theorem e10 {k : Nat} {n : Int} {ls : List Ld} {R : RH} (h : Bm n ls) : cl (k + 6) 10 [.int n, encLs ls] R = .ok (.int (mom ls)) R := by
  rw [clE (d := d10) rfl]
  simp [runD, execs, exec, sqK, ev, evs, evb, evAnd, evOr, evo, evc, evi, evis, evX, evSE, evP, setP, stk_var, stk_con, stk_tup, stk_lst, stk_bin, stk_neg, stk_cmp, stk_ch2, stk_and, stk_or, stk_not, stk_ite, stk_call, stk_blt, stk_isi, stk_meth, stk_idx, stk_slc, stk_rev, stk_lc, Res.bind, Res.of, gS, sS, Sl.val, isOw, bltD, idxD, cmpD, binD, notD, negD, isKs, isK, lenR, slcD, itmD, rngD, rngD2, setT, setTs, tgs, tgss, killS, setC, isNon, ownable, putD, augD, extD, ofS, popD, deqI, deqB, deqS, deqT, deqL, deqs, deqNN, deqNT, deqTN, deqNI, deqIN, cmpb, dlt, flt, plain, plains, dep, deps, d10, e7 h, e9 h]
def sideS (m : Int) : D := if m = 0 then .str "even" else if m < 0 then .str "left" else .str "right"
theorem e11 {k : Nat} {n : Int} {ls : List Ld} {R : RH} (h : Bm n ls) : cl (k + 6) 11 [.int n, encLs ls] R = .ok (sideS (mom ls)) R := by
  rw [clE (d := d11) rfl]
  by_cases h0 : mom ls = 0
  · simp [runD, execs, exec, sqK, ev, evs, evb, evAnd, evOr, evo, evc, evi, evis, evX, evSE, evP, setP, stk_var, stk_con, stk_tup, stk_lst, stk_bin, stk_neg, stk_cmp, stk_ch2, stk_and, stk_or, stk_not, stk_ite, stk_call, stk_blt, stk_isi, stk_meth, stk_idx, stk_slc, stk_rev, stk_lc, Res.bind, Res.of, gS, sS, Sl.val, isOw, bltD, idxD, cmpD, binD, notD, negD, isKs, isK, lenR, slcD, itmD, rngD, rngD2, setT, setTs, tgs, tgss, killS, setC, isNon, ownable, putD, augD, extD, ofS, popD, deqI, deqB, deqS, deqT, deqL, deqs, deqNN, deqNT, deqTN, deqNI, deqIN, cmpb, dlt, flt, plain, plains, dep, deps, d11, e7 h, e9 h, h0, sideS]
  · by_cases h1 : mom ls < 0 <;> simp [runD, execs, exec, sqK, ev, evs, evb, evAnd, evOr, evo, evc, evi, evis, evX, evSE, evP, setP, stk_var, stk_con, stk_tup, stk_lst, stk_bin, stk_neg, stk_cmp, stk_ch2, stk_and, stk_or, stk_not, stk_ite, stk_call, stk_blt, stk_isi, stk_meth, stk_idx, stk_slc, stk_rev, stk_lc, Res.bind, Res.of, gS, sS, Sl.val, isOw, bltD, idxD, cmpD, binD, notD, negD, isKs, isK, lenR, slcD, itmD, rngD, rngD2, setT, setTs, tgs, tgss, killS, setC, isNon, ownable, putD, augD, extD, ofS, popD, deqI, deqB, deqS, deqT, deqL, deqs, deqNN, deqNT, deqTN, deqNI, deqIN, cmpb, dlt, flt, plain, plains, dep, deps, d11, e7 h, e9 h, h0, h1, sideS]
def onB (n : Int) (p : Int × Int) : Bool := decide (-n * p.2 ≤ p.1) && decide (p.1 ≤ n * p.2)
theorem e12 {k : Nat} {n : Int} {p : Int × Int} {R : RH} (h : n.natAbs ≤ 1000) : cl (k + 1) 12 [.int n, encL p] R = .ok (.bl (onB n p)) R := by
  rw [clE (d := d12) rfl]
  have i0 : L2.atI [D.int p.1, D.int p.2] 0 = some (.int p.1) := rfl
  have i1 : L2.atI [D.int p.1, D.int p.2] 1 = some (.int p.2) := rfl
  have c1 : L2.CMul (-n) p.2 := mulOk (by omega)
  have c2 : L2.CMul n p.2 := mulOk (by omega)
  unfold onB encL
  by_cases q : -n * p.2 ≤ p.1 <;> simp [runD, execs, exec, sqK, ev, evs, evb, evAnd, evOr, evo, evc, evi, evis, evX, evSE, evP, setP, stk_var, stk_con, stk_tup, stk_lst, stk_bin, stk_neg, stk_cmp, stk_ch2, stk_and, stk_or, stk_not, stk_ite, stk_call, stk_blt, stk_isi, stk_meth, stk_idx, stk_slc, stk_rev, stk_lc, Res.bind, Res.of, gS, sS, Sl.val, isOw, bltD, idxD, cmpD, binD, notD, negD, isKs, isK, lenR, slcD, itmD, rngD, rngD2, setT, setTs, tgs, tgss, killS, setC, isNon, ownable, putD, augD, extD, ofS, popD, deqI, deqB, deqS, deqT, deqL, deqs, deqNN, deqNT, deqTN, deqNI, deqIN, cmpb, dlt, flt, plain, plains, dep, deps, d12, i0, i1, c1, c2, q]
def orN (b : Bool) (d : D) : D := if b = true then d else .non
theorem e13 {k : Nat} {n w : Int} {ls : List Ld} {R : RH} (h : Bm n ls) (h1 : 1 ≤ w) (h2 : w ≤ 1000) : cl (k + 6) 13 [.int n, encLs ls, .int w] R = .ok (orN (onB n (frac (-mom ls) w)) (encL (frac (-mom ls) w))) R := by
  rw [clE (d := d13) rfl]
  have m := h.mom
  have a := e4 (k := k + 3) (a := -mom ls) (b := w) (R := R) (by omega) (by omega) (by omega)
  have b := e12 (k := k + 4) (n := n) (p := frac (-mom ls) w) (R := R) (by have := h.n1; have := h.n2; omega)
  unfold orN
  cases q : onB n (frac (-mom ls) w) <;> simp [runD, execs, exec, sqK, ev, evs, evb, evAnd, evOr, evo, evc, evi, evis, evX, evSE, evP, setP, stk_var, stk_con, stk_tup, stk_lst, stk_bin, stk_neg, stk_cmp, stk_ch2, stk_and, stk_or, stk_not, stk_ite, stk_call, stk_blt, stk_isi, stk_meth, stk_idx, stk_slc, stk_rev, stk_lc, Res.bind, Res.of, gS, sS, Sl.val, isOw, bltD, idxD, cmpD, binD, notD, negD, isKs, isK, lenR, slcD, itmD, rngD, rngD2, setT, setTs, tgs, tgss, killS, setC, isNon, ownable, putD, augD, extD, ofS, popD, deqI, deqB, deqS, deqT, deqL, deqs, deqNN, deqNT, deqTN, deqNI, deqIN, cmpb, dlt, flt, plain, plains, dep, deps, d13, e7 h, e8 h1 h2, e9 h, a, b, q]
end Lw

end
section
namespace Lw
open Cw
/-! least_weight -/
def p14 (n m : Int) (w : Int) : Bool := decide ((frac (-m) w).2 = 1) && onB n (frac (-m) w)
def r14 (m : Int) (w : Int) : D := .tup [.int w, .int (frac (-m) w).1]
def S14 (n : Int) (ls : List Ld) (m : Int) (b : Sl × Sl) : List Sl := [.sh (.int n), .sh (encLs ls), .sh (.int m), b.1, b.2]
theorem b14 {k : Nat} {n m w : Int} {ls : List Ld} {b : Sl × Sl} {R : RH} (hn : n.natAbs ≤ 1000) (hm : m.natAbs ≤ 1000000) (h1 : 1 ≤ w) (h2 : w ≤ 1000) :
    (p14 n m w = true → ∃ σ', forF (cl (k + 2)) FU (.nm 3) d14b0 (.int w) (S14 n ls m b) R = .ok (.rt (r14 m w), σ') R) ∧ (p14 n m w = false → ∃ b', forF (cl (k + 2)) FU (.nm 3) d14b0 (.int w) (S14 n ls m b) R = .ok (.nx, S14 n ls m b') R) := by
  have a := e4 (k := k) (a := -m) (b := w) (R := R) (by omega) (by omega) (by omega)
  have c := e12 (k := k + 1) (n := n) (p := frac (-m) w) (R := R) hn
  have i0 : L2.atI [D.int (frac (-m) w).1, D.int (frac (-m) w).2] 0 = some (.int (frac (-m) w).1) := rfl
  have i1 : L2.atI [D.int (frac (-m) w).1, D.int (frac (-m) w).2] 1 = some (.int (frac (-m) w).2) := rfl
  unfold encL at a c
  unfold p14 r14 forF S14
  by_cases q1 : (frac (-m) w).2 = 1
  · rw [q1] at a c i0 i1
    cases q2 : onB n (frac (-m) w) with
    | true => exact ⟨fun _ => ⟨_, by simp [runD, execs, exec, sqK, ev, evs, evb, evAnd, evOr, evo, evc, evi, evis, evX, evSE, evP, setP, stk_var, stk_con, stk_tup, stk_lst, stk_bin, stk_neg, stk_cmp, stk_ch2, stk_and, stk_or, stk_not, stk_ite, stk_call, stk_blt, stk_isi, stk_meth, stk_idx, stk_slc, stk_rev, stk_lc, Res.bind, Res.of, gS, sS, Sl.val, isOw, bltD, idxD, cmpD, binD, notD, negD, isKs, isK, lenR, slcD, itmD, rngD, rngD2, setT, setTs, tgs, tgss, killS, setC, isNon, ownable, putD, augD, extD, ofS, popD, deqI, deqB, deqS, deqT, deqL, deqs, deqNN, deqNT, deqTN, deqNI, deqIN, cmpb, dlt, flt, plain, plains, dep, deps, d14b0, a, c, i0, i1, q1, q2]; rfl⟩, fun h => by simp [q1] at h⟩
    | false => exact ⟨fun h => by simp at h, fun _ => ⟨(_, _), by simp [runD, execs, exec, sqK, ev, evs, evb, evAnd, evOr, evo, evc, evi, evis, evX, evSE, evP, setP, stk_var, stk_con, stk_tup, stk_lst, stk_bin, stk_neg, stk_cmp, stk_ch2, stk_and, stk_or, stk_not, stk_ite, stk_call, stk_blt, stk_isi, stk_meth, stk_idx, stk_slc, stk_rev, stk_lc, Res.bind, Res.of, gS, sS, Sl.val, isOw, bltD, idxD, cmpD, binD, notD, negD, isKs, isK, lenR, slcD, itmD, rngD, rngD2, setT, setTs, tgs, tgss, killS, setC, isNon, ownable, putD, augD, extD, ofS, popD, deqI, deqB, deqS, deqT, deqL, deqs, deqNN, deqNT, deqTN, deqNI, deqIN, cmpb, dlt, flt, plain, plains, dep, deps, d14b0, a, c, i0, i1, q1, q2]; exact ⟨rfl, rfl⟩⟩⟩
  · exact ⟨fun h => by simp [q1] at h, fun _ => ⟨(_, _), by simp [runD, execs, exec, sqK, ev, evs, evb, evAnd, evOr, evo, evc, evi, evis, evX, evSE, evP, setP, stk_var, stk_con, stk_tup, stk_lst, stk_bin, stk_neg, stk_cmp, stk_ch2, stk_and, stk_or, stk_not, stk_ite, stk_call, stk_blt, stk_isi, stk_meth, stk_idx, stk_slc, stk_rev, stk_lc, Res.bind, Res.of, gS, sS, Sl.val, isOw, bltD, idxD, cmpD, binD, notD, negD, isKs, isK, lenR, slcD, itmD, rngD, rngD2, setT, setTs, tgs, tgss, killS, setC, isNon, ownable, putD, augD, extD, ofS, popD, deqI, deqB, deqS, deqT, deqL, deqs, deqNN, deqNT, deqTN, deqNI, deqIN, cmpb, dlt, flt, plain, plains, dep, deps, d14b0, a, c, i0, i1, q1]; exact ⟨rfl, rfl⟩⟩⟩
theorem i14 {k : Nat} {σ : List Sl} {R : RH} : evis (cl k) true (.rng2 (.con (.int 1)) (.bin .add (.con (.int 1000)) (.con (.int 1)))) σ R = .ok ((ir 1 1000).map .int) R := by
  rw [← rngI_ir]
  simp [runD, execs, exec, sqK, ev, evs, evb, evAnd, evOr, evo, evc, evi, evis, evX, evSE, evP, setP, stk_var, stk_con, stk_tup, stk_lst, stk_bin, stk_neg, stk_cmp, stk_ch2, stk_and, stk_or, stk_not, stk_ite, stk_call, stk_blt, stk_isi, stk_meth, stk_idx, stk_slc, stk_rev, stk_lc, Res.bind, Res.of, gS, sS, Sl.val, isOw, bltD, idxD, cmpD, binD, notD, negD, isKs, isK, lenR, slcD, itmD, rngD, rngD2, setT, setTs, tgs, tgss, killS, setC, isNon, ownable, putD, augD, extD, ofS, popD, deqI, deqB, deqS, deqT, deqL, deqs, deqNN, deqNT, deqTN, deqNI, deqIN, cmpb, dlt, flt, plain, plains, dep, deps, show PySem.sizeLine = 16777216 from rfl]
def ans14 (n m : Int) : D := match (ir 1 1000).find? (p14 n m) with
  | some w => r14 m w
  | none => .non
theorem e14 {k : Nat} {n : Int} {ls : List Ld} {R : RH} (h : Bm n ls) : cl (k + 6) 14 [.int n, encLs ls] R = .ok (if mom ls = 0 then .tup [.int 0, .int 0] else ans14 n (mom ls)) R := by
  rw [clE (d := d14) rfl]
  have hm := h.mom
  have h1 := h.n1
  have h2 := h.n2
  by_cases h0 : mom ls = 0
  · simp [runD, execs, exec, sqK, ev, evs, evb, evAnd, evOr, evo, evc, evi, evis, evX, evSE, evP, setP, stk_var, stk_con, stk_tup, stk_lst, stk_bin, stk_neg, stk_cmp, stk_ch2, stk_and, stk_or, stk_not, stk_ite, stk_call, stk_blt, stk_isi, stk_meth, stk_idx, stk_slc, stk_rev, stk_lc, Res.bind, Res.of, gS, sS, Sl.val, isOw, bltD, idxD, cmpD, binD, notD, negD, isKs, isK, lenR, slcD, itmD, rngD, rngD2, setT, setTs, tgs, tgss, killS, setC, isNon, ownable, putD, augD, extD, ofS, popD, deqI, deqB, deqS, deqT, deqL, deqs, deqNN, deqNT, deqTN, deqNI, deqIN, cmpb, dlt, flt, plain, plains, dep, deps, d14, e7 h, e9 h, h0]
  · have f := forL_find (R := R) (f := forF (cl (k + 5)) FU (.nm 3) d14b0) (enc := D.int) (S := S14 n ls (mom ls)) (p := p14 n (mom ls)) (r := r14 (mom ls)) (xs := ir 1 1000) (b := (.no, .no)) fun b w hw => by
      obtain ⟨g1, g2⟩ := mem_ir.mp hw
      exact b14 (k := k + 3) (by omega) (by omega) g1 (by omega)
    unfold ans14
    cases q : (ir 1 1000).find? (p14 n (mom ls)) with
    | some w =>
      rw [q] at f
      obtain ⟨σ', e⟩ := f
      have e := exec_forE (i14 (k := k + 5) (σ := S14 n ls (mom ls) (.no, .no)) (R := R)) e
      unfold S14 at e
      simp [runD, execs, exec, sqK, ev, evs, evb, evAnd, evOr, evo, evc, evi, evis, evX, evSE, evP, setP, stk_var, stk_con, stk_tup, stk_lst, stk_bin, stk_neg, stk_cmp, stk_ch2, stk_and, stk_or, stk_not, stk_ite, stk_call, stk_blt, stk_isi, stk_meth, stk_idx, stk_slc, stk_rev, stk_lc, Res.bind, Res.of, gS, sS, Sl.val, isOw, bltD, idxD, cmpD, binD, notD, negD, isKs, isK, lenR, slcD, itmD, rngD, rngD2, setT, setTs, tgs, tgss, killS, setC, isNon, ownable, putD, augD, extD, ofS, popD, deqI, deqB, deqS, deqT, deqL, deqs, deqNN, deqNT, deqTN, deqNI, deqIN, cmpb, dlt, flt, plain, plains, dep, deps, d14, e7 h, e9 h, h0]
      rw [show d14s0 = .for_ (.nm 3) (.rng2 (.con (.int 1)) (.bin .add (.con (.int 1000)) (.con (.int 1)))) d14b0 from rfl, e]
    | none =>
      rw [q] at f
      obtain ⟨b', e⟩ := f
      have e := exec_forE (i14 (k := k + 5) (σ := S14 n ls (mom ls) (.no, .no)) (R := R)) e
      unfold S14 at e
      simp [runD, execs, exec, sqK, ev, evs, evb, evAnd, evOr, evo, evc, evi, evis, evX, evSE, evP, setP, stk_var, stk_con, stk_tup, stk_lst, stk_bin, stk_neg, stk_cmp, stk_ch2, stk_and, stk_or, stk_not, stk_ite, stk_call, stk_blt, stk_isi, stk_meth, stk_idx, stk_slc, stk_rev, stk_lc, Res.bind, Res.of, gS, sS, Sl.val, isOw, bltD, idxD, cmpD, binD, notD, negD, isKs, isK, lenR, slcD, itmD, rngD, rngD2, setT, setTs, tgs, tgss, killS, setC, isNon, ownable, putD, augD, extD, ofS, popD, deqI, deqB, deqS, deqT, deqL, deqs, deqNN, deqNT, deqTN, deqNI, deqIN, cmpb, dlt, flt, plain, plains, dep, deps, d14, e7 h, e9 h, h0]
      rw [show d14s0 = .for_ (.nm 3) (.rng2 (.con (.int 1)) (.bin .add (.con (.int 1000)) (.con (.int 1)))) d14b0 from rfl, e]
/-! the law's own -/
theorem gcd_fmod {a b : Int} (hb : 0 < b) : Int.gcd b (a.fmod b) = Int.gcd a b := by
  have e : a = a.fmod b + b * a.fdiv b := by
    have := Int.mul_fdiv_add_fmod a b
    omega
  rw [Int.gcd_comm a b]
  conv => rhs; rw [e]
  rw [Int.gcd_add_mul_left_right]
def I23 (g : Nat) (s : Int × Int) : Prop := 0 ≤ s.2 ∧ s.2 < 2 ^ 30 ∧ Int.gcd s.1 s.2 = g
theorem s23 {ck : Nat → List D → RH → Res D} {R : RH} {a b : Int} (h2 : 0 ≤ b) (h4 : b < 2 ^ 30) : ∃ x : Int, x.natAbs = Int.gcd a b ∧ exec ck FU d23s0 [.sh (.int a), .sh (.int b)] R = .ok (.nx, [.sh (.int x), .sh (.int 0)]) R := by
  obtain ⟨s', e, i, c⟩ := whl_inv (R := R) (c := fun σ R => ev ck d23c0 σ R) (b := fun σ R => execs ck FU d23b0 σ R) S3 (fun s => !decide (s.2 = 0)) (fun s => (s.2, s.1.fmod s.2)) (I23 (Int.gcd a b)) (fun s => s.2.toNat) (fun s i => by
      obtain ⟨x, y⟩ := s
      simp [runD, execs, exec, sqK, ev, evs, evb, evAnd, evOr, evo, evc, evi, evis, evX, evSE, evP, setP, stk_var, stk_con, stk_tup, stk_lst, stk_bin, stk_neg, stk_cmp, stk_ch2, stk_and, stk_or, stk_not, stk_ite, stk_call, stk_blt, stk_isi, stk_meth, stk_idx, stk_slc, stk_rev, stk_lc, Res.bind, Res.of, gS, sS, Sl.val, isOw, bltD, idxD, cmpD, binD, notD, negD, isKs, isK, lenR, slcD, itmD, rngD, rngD2, setT, setTs, tgs, tgss, killS, setC, isNon, ownable, putD, augD, extD, ofS, popD, deqI, deqB, deqS, deqT, deqL, deqs, deqNN, deqNT, deqTN, deqNI, deqIN, cmpb, dlt, flt, plain, plains, dep, deps, d23c0, S3]) (fun s i hc => by
      obtain ⟨x, y⟩ := s
      obtain ⟨i2, i4, i5⟩ := i
      simp only at i2 i4 i5
      have h0 : y ≠ 0 := by simpa using hc
      have hp : 0 < y := by omega
      have hm : 0 ≤ x.fmod y := by rw [fmod_emod hp]; exact Int.emod_nonneg _ h0
      have hl : x.fmod y < y := by rw [fmod_emod hp]; exact Int.emod_lt_of_pos _ hp
      refine ⟨?_, ⟨hm, by show x.fmod y < _; omega, ?_⟩, by show (x.fmod y).toNat < y.toNat; omega⟩
      · simp [runD, execs, exec, sqK, ev, evs, evb, evAnd, evOr, evo, evc, evi, evis, evX, evSE, evP, setP, stk_var, stk_con, stk_tup, stk_lst, stk_bin, stk_neg, stk_cmp, stk_ch2, stk_and, stk_or, stk_not, stk_ite, stk_call, stk_blt, stk_isi, stk_meth, stk_idx, stk_slc, stk_rev, stk_lc, Res.bind, Res.of, gS, sS, Sl.val, isOw, bltD, idxD, cmpD, binD, notD, negD, isKs, isK, lenR, slcD, itmD, rngD, rngD2, setT, setTs, tgs, tgss, killS, setC, isNon, ownable, putD, augD, extD, ofS, popD, deqI, deqB, deqS, deqT, deqL, deqs, deqNN, deqNT, deqTN, deqNI, deqIN, cmpb, dlt, flt, plain, plains, dep, deps, d23b0, S3, h0]
      · show Int.gcd y (x.fmod y) = _
        rw [gcd_fmod hp]
        exact i5) FU (a, b) ⟨h2, h4, rfl⟩ (by show b.toNat < FU; unfold FU; omega)
  have e2 : s'.2 = 0 := by simpa using c
  obtain ⟨i2, i4, i5⟩ := i
  obtain ⟨x, y⟩ := s'
  simp only at e2 i5
  subst e2
  refine ⟨x, ?_, e⟩
  rw [← i5, Int.gcd_zero_right]
theorem e23 {k : Nat} {a b : Int} {R : RH} (h1 : 0 < b) (h2 : b < 2 ^ 30) : cl (k + 1) 23 [.int a, .int b] R = .ok (.int (Int.gcd a b)) R := by
  rw [clE (d := d23) rfl]
  obtain ⟨x, hx, e⟩ := s23 (ck := cl k) (R := R) (a := a) (b := b) (by omega) h2
  obtain ⟨g1, g2⟩ := gcd_pos (a := a) h1
  have m : (if 1 < (if x < 0 then -x else x) then (if x < 0 then -x else x) else 1) = (Int.gcd a b : Int) := by
    split <;> split <;> omega
  simp [runD, execs, exec, sqK, ev, evs, evb, evAnd, evOr, evo, evc, evi, evis, evX, evSE, evP, setP, stk_var, stk_con, stk_tup, stk_lst, stk_bin, stk_neg, stk_cmp, stk_ch2, stk_and, stk_or, stk_not, stk_ite, stk_call, stk_blt, stk_isi, stk_meth, stk_idx, stk_slc, stk_rev, stk_lc, Res.bind, Res.of, gS, sS, Sl.val, isOw, bltD, idxD, cmpD, binD, notD, negD, isKs, isK, lenR, slcD, itmD, rngD, rngD2, setT, setTs, tgs, tgss, killS, setC, isNon, ownable, putD, augD, extD, ofS, popD, deqI, deqB, deqS, deqT, deqL, deqs, deqNN, deqNT, deqTN, deqNI, deqIN, cmpb, dlt, flt, plain, plains, dep, deps, d23, e, m]
theorem e24 {k : Nat} {a b : Int} {R : RH} (h1 : 0 < b) (h2 : b < 2 ^ 30) : cl (k + 2) 24 [.int a, .int b] R = .ok (encL (frac a b)) R := by
  rw [clE (d := d24) rfl]
  obtain ⟨g1, g2⟩ := gcd_pos (a := a) h1
  have c1 : L2.CDivN a (Int.gcd a b : Int) := ⟨by omega, by omega⟩
  have c2 : L2.CDivN b (Int.gcd a b : Int) := ⟨by omega, by omega⟩
  simp [runD, execs, exec, sqK, ev, evs, evb, evAnd, evOr, evo, evc, evi, evis, evX, evSE, evP, setP, stk_var, stk_con, stk_tup, stk_lst, stk_bin, stk_neg, stk_cmp, stk_ch2, stk_and, stk_or, stk_not, stk_ite, stk_call, stk_blt, stk_isi, stk_meth, stk_idx, stk_slc, stk_rev, stk_lc, Res.bind, Res.of, gS, sS, Sl.val, isOw, bltD, idxD, cmpD, binD, notD, negD, isKs, isK, lenR, slcD, itmD, rngD, rngD2, setT, setTs, tgs, tgss, killS, setC, isNon, ownable, putD, augD, extD, ofS, popD, deqI, deqB, deqS, deqT, deqL, deqs, deqNN, deqNT, deqTN, deqNI, deqIN, cmpb, dlt, flt, plain, plains, dep, deps, d24, e23 h1 h2, c1, c2, encL, frac]
theorem x27 {k : Nat} {n : Int} {ls : List Ld} {R : RH} (h : Bm n ls) : ev (cl k) d27x0 [.sh (encLs ls), .no, .no] R = .ok (.lst (ls.map fun l => .int (l.1 * l.2))) R := x9 h
theorem e27 {k : Nat} {n : Int} {ls : List Ld} {R : RH} (h : Bm n ls) : cl (k + 1) 27 [encLs ls] R = .ok (.int (mom ls)) R := by
  rw [clE (d := d27) rfl]
  have b := intsD_mapf (fun l : Ld => l.1 * l.2) ls
  simp [runD, execs, exec, sqK, ev, evs, evb, evAnd, evOr, evo, evc, evi, evis, evX, evSE, evP, setP, stk_var, stk_con, stk_tup, stk_lst, stk_bin, stk_neg, stk_cmp, stk_ch2, stk_and, stk_or, stk_not, stk_ite, stk_call, stk_blt, stk_isi, stk_meth, stk_idx, stk_slc, stk_rev, stk_lc, Res.bind, Res.of, gS, sS, Sl.val, isOw, bltD, idxD, cmpD, binD, notD, negD, isKs, isK, lenR, slcD, itmD, rngD, rngD2, setT, setTs, tgs, tgss, killS, setC, isNon, ownable, putD, augD, extD, ofS, popD, deqI, deqB, deqS, deqT, deqL, deqs, deqNN, deqNT, deqTN, deqNI, deqIN, cmpb, dlt, flt, plain, plains, dep, deps, d27, x27 h, b, mom]
def p29 (n m : Int) (w : Int) : Bool := decide (m.fmod w = 0) && decide ((m.natAbs : Int).fdiv w ≤ n)
def r29 (m : Int) (w : Int) : D := .tup [.int w, .int (0 - m.fdiv w)]
def S29 (n m : Int) (b : Sl) : List Sl := [.sh (.int n), .sh (.int m), b]
theorem b29 {k : Nat} {n m w : Int} {b : Sl} {R : RH} (h1 : 1 ≤ w) (h2 : w ≤ 1000) :
    (p29 n m w = true → ∃ σ', forF (cl k) FU (.nm 2) d29b0 (.int w) (S29 n m b) R = .ok (.rt (r29 m w), σ') R) ∧ (p29 n m w = false → ∃ b', forF (cl k) FU (.nm 2) d29b0 (.int w) (S29 n m b) R = .ok (.nx, S29 n m b') R) := by
  have e : ∀ x : Int, (if x < 0 then -x else x) = (x.natAbs : Int) := fun x => by omega
  have h0 : w ≠ 0 := by omega
  have c1 : ∀ x, L2.CDivN x w := fun x => ⟨h0, by omega⟩
  unfold p29 r29 forF S29
  by_cases q1 : m.fmod w = 0
  · by_cases q2 : (m.natAbs : Int).fdiv w ≤ n
    · exact ⟨fun _ => ⟨_, by simp [runD, execs, exec, sqK, ev, evs, evb, evAnd, evOr, evo, evc, evi, evis, evX, evSE, evP, setP, stk_var, stk_con, stk_tup, stk_lst, stk_bin, stk_neg, stk_cmp, stk_ch2, stk_and, stk_or, stk_not, stk_ite, stk_call, stk_blt, stk_isi, stk_meth, stk_idx, stk_slc, stk_rev, stk_lc, Res.bind, Res.of, gS, sS, Sl.val, isOw, bltD, idxD, cmpD, binD, notD, negD, isKs, isK, lenR, slcD, itmD, rngD, rngD2, setT, setTs, tgs, tgss, killS, setC, isNon, ownable, putD, augD, extD, ofS, popD, deqI, deqB, deqS, deqT, deqL, deqs, deqNN, deqNT, deqTN, deqNI, deqIN, cmpb, dlt, flt, plain, plains, dep, deps, d29b0, e, c1, h0, q1, q2]; rfl⟩, fun h => by simp [q1, q2] at h⟩
    · exact ⟨fun h => by simp [q2] at h, fun _ => ⟨_, by simp [runD, execs, exec, sqK, ev, evs, evb, evAnd, evOr, evo, evc, evi, evis, evX, evSE, evP, setP, stk_var, stk_con, stk_tup, stk_lst, stk_bin, stk_neg, stk_cmp, stk_ch2, stk_and, stk_or, stk_not, stk_ite, stk_call, stk_blt, stk_isi, stk_meth, stk_idx, stk_slc, stk_rev, stk_lc, Res.bind, Res.of, gS, sS, Sl.val, isOw, bltD, idxD, cmpD, binD, notD, negD, isKs, isK, lenR, slcD, itmD, rngD, rngD2, setT, setTs, tgs, tgss, killS, setC, isNon, ownable, putD, augD, extD, ofS, popD, deqI, deqB, deqS, deqT, deqL, deqs, deqNN, deqNT, deqTN, deqNI, deqIN, cmpb, dlt, flt, plain, plains, dep, deps, d29b0, e, c1, h0, q1, q2]; rfl⟩⟩
  · exact ⟨fun h => by simp [q1] at h, fun _ => ⟨_, by simp [runD, execs, exec, sqK, ev, evs, evb, evAnd, evOr, evo, evc, evi, evis, evX, evSE, evP, setP, stk_var, stk_con, stk_tup, stk_lst, stk_bin, stk_neg, stk_cmp, stk_ch2, stk_and, stk_or, stk_not, stk_ite, stk_call, stk_blt, stk_isi, stk_meth, stk_idx, stk_slc, stk_rev, stk_lc, Res.bind, Res.of, gS, sS, Sl.val, isOw, bltD, idxD, cmpD, binD, notD, negD, isKs, isK, lenR, slcD, itmD, rngD, rngD2, setT, setTs, tgs, tgss, killS, setC, isNon, ownable, putD, augD, extD, ofS, popD, deqI, deqB, deqS, deqT, deqL, deqs, deqNN, deqNT, deqTN, deqNI, deqIN, cmpb, dlt, flt, plain, plains, dep, deps, d29b0, e, c1, h0, q1]; rfl⟩⟩
end Lw

end
section
namespace Lw
open Cw
def ans29 (n m : Int) : D := match (ir 1 1000).find? (p29 n m) with
  | some w => r29 m w
  | none => .non
theorem i29 {k : Nat} {σ : List Sl} {R : RH} : evis (cl k) true (.rng2 (.con (.int 1)) (.con (.int 1001))) σ R = .ok ((ir 1 1000).map .int) R := by
  rw [← rngI_ir]
  simp [runD, execs, exec, sqK, ev, evs, evb, evAnd, evOr, evo, evc, evi, evis, evX, evSE, evP, setP, stk_var, stk_con, stk_tup, stk_lst, stk_bin, stk_neg, stk_cmp, stk_ch2, stk_and, stk_or, stk_not, stk_ite, stk_call, stk_blt, stk_isi, stk_meth, stk_idx, stk_slc, stk_rev, stk_lc, Res.bind, Res.of, gS, sS, Sl.val, isOw, bltD, idxD, cmpD, binD, notD, negD, isKs, isK, lenR, slcD, itmD, rngD, rngD2, setT, setTs, tgs, tgss, killS, setC, isNon, ownable, putD, augD, extD, ofS, popD, deqI, deqB, deqS, deqT, deqL, deqs, deqNN, deqNT, deqTN, deqNI, deqIN, cmpb, dlt, flt, plain, plains, dep, deps, show PySem.sizeLine = 16777216 from rfl]
theorem e29 {k : Nat} {n m : Int} {R : RH} : cl (k + 1) 29 [.int n, .int m] R = .ok (if m = 0 then .tup [.int 0, .int 0] else ans29 n m) R := by
  rw [clE (d := d29) rfl]
  by_cases h0 : m = 0
  · simp [runD, execs, exec, sqK, ev, evs, evb, evAnd, evOr, evo, evc, evi, evis, evX, evSE, evP, setP, stk_var, stk_con, stk_tup, stk_lst, stk_bin, stk_neg, stk_cmp, stk_ch2, stk_and, stk_or, stk_not, stk_ite, stk_call, stk_blt, stk_isi, stk_meth, stk_idx, stk_slc, stk_rev, stk_lc, Res.bind, Res.of, gS, sS, Sl.val, isOw, bltD, idxD, cmpD, binD, notD, negD, isKs, isK, lenR, slcD, itmD, rngD, rngD2, setT, setTs, tgs, tgss, killS, setC, isNon, ownable, putD, augD, extD, ofS, popD, deqI, deqB, deqS, deqT, deqL, deqs, deqNN, deqNT, deqTN, deqNI, deqIN, cmpb, dlt, flt, plain, plains, dep, deps, d29, h0]
  · have f := forL_find (R := R) (f := forF (cl k) FU (.nm 2) d29b0) (enc := D.int) (S := S29 n m) (p := p29 n m) (r := r29 m) (xs := ir 1 1000) (b := .no) fun b w hw => by
      obtain ⟨g1, g2⟩ := mem_ir.mp hw
      exact b29 g1 (by omega)
    unfold ans29
    cases q : (ir 1 1000).find? (p29 n m) with
    | some w =>
      rw [q] at f
      obtain ⟨σ', e⟩ := f
      have e := exec_forE (i29 (k := k) (σ := S29 n m .no) (R := R)) e
      unfold S29 at e
      simp [runD, execs, exec, sqK, ev, evs, evb, evAnd, evOr, evo, evc, evi, evis, evX, evSE, evP, setP, stk_var, stk_con, stk_tup, stk_lst, stk_bin, stk_neg, stk_cmp, stk_ch2, stk_and, stk_or, stk_not, stk_ite, stk_call, stk_blt, stk_isi, stk_meth, stk_idx, stk_slc, stk_rev, stk_lc, Res.bind, Res.of, gS, sS, Sl.val, isOw, bltD, idxD, cmpD, binD, notD, negD, isKs, isK, lenR, slcD, itmD, rngD, rngD2, setT, setTs, tgs, tgss, killS, setC, isNon, ownable, putD, augD, extD, ofS, popD, deqI, deqB, deqS, deqT, deqL, deqs, deqNN, deqNT, deqTN, deqNI, deqIN, cmpb, dlt, flt, plain, plains, dep, deps, d29, h0]
      rw [show d29s0 = .for_ (.nm 2) (.rng2 (.con (.int 1)) (.con (.int 1001))) d29b0 from rfl, e]
    | none =>
      rw [q] at f
      obtain ⟨b', e⟩ := f
      have e := exec_forE (i29 (k := k) (σ := S29 n m .no) (R := R)) e
      unfold S29 at e
      simp [runD, execs, exec, sqK, ev, evs, evb, evAnd, evOr, evo, evc, evi, evis, evX, evSE, evP, setP, stk_var, stk_con, stk_tup, stk_lst, stk_bin, stk_neg, stk_cmp, stk_ch2, stk_and, stk_or, stk_not, stk_ite, stk_call, stk_blt, stk_isi, stk_meth, stk_idx, stk_slc, stk_rev, stk_lc, Res.bind, Res.of, gS, sS, Sl.val, isOw, bltD, idxD, cmpD, binD, notD, negD, isKs, isK, lenR, slcD, itmD, rngD, rngD2, setT, setTs, tgs, tgss, killS, setC, isNon, ownable, putD, augD, extD, ofS, popD, deqI, deqB, deqS, deqT, deqL, deqs, deqNN, deqNT, deqTN, deqNI, deqIN, cmpb, dlt, flt, plain, plains, dep, deps, d29, h0]
      rw [show d29s0 = .for_ (.nm 2) (.rng2 (.con (.int 1)) (.con (.int 1001))) d29b0 from rfl, e]
/-! the plain law of least weights -/
theorem fdiv_pos {a b : Int} (hb : 0 < b) : a.fdiv b = a / b := Int.fdiv_eq_ediv_of_nonneg a (Int.le_of_lt hb)
theorem frac_one {m w : Int} (h : 0 < w) : (frac m w).2 = 1 ↔ m.fmod w = 0 := by
  obtain ⟨g1, g2⟩ := gcd_pos (a := m) h
  have hd : (Int.gcd m w : Int) ∣ w := Int.gcd_dvd_right ..
  have hm : (Int.gcd m w : Int) ∣ m := Int.gcd_dvd_left ..
  unfold frac
  simp only
  rw [fdiv_pos g1, fmod_emod h]
  constructor
  · intro e
    have : w = (Int.gcd m w : Int) := by
      have := Int.mul_ediv_cancel' hd
      rw [e] at this
      omega
    rw [← this] at hm
    exact Int.emod_eq_zero_of_dvd hm
  · intro e
    have hw : w ∣ m := Int.dvd_of_emod_eq_zero e
    have : (Int.gcd m w : Int) = w := by
      have : Int.gcd m w = w.natAbs := Int.gcd_eq_natAbs_right hw
      omega
    rw [this]
    exact Int.ediv_self (by omega)
theorem p_same {n m w : Int} (h : 0 < w) : p14 n m w = p29 n m w ∧ (p29 n m w = true → r14 m w = r29 m w) := by
  have f1 := frac_one (m := -m) h
  have neg : (-m).fmod w = 0 ↔ m.fmod w = 0 := by
    rw [fmod_emod h, fmod_emod h, ← Int.dvd_iff_emod_eq_zero, ← Int.dvd_iff_emod_eq_zero]
    exact Int.dvd_neg
  by_cases q : m.fmod w = 0
  · have f2 := f1.mpr (neg.mpr q)
    rw [fmod_emod h] at q
    have hw : w ∣ m := Int.dvd_of_emod_eq_zero q
    obtain ⟨c, rfl⟩ := hw
    have g : (Int.gcd (-(w * c)) w : Int) = w := by
      have : Int.gcd (-(w * c)) w = w.natAbs := Int.gcd_eq_natAbs_right (by exact ⟨-c, by rw [Int.mul_neg]⟩)
      omega
    have a1 : (frac (-(w * c)) w).1 = -c := by
      unfold frac
      simp only
      rw [g, fdiv_pos h, ← Int.mul_neg, Int.mul_ediv_cancel_left _ (by omega)]
    have a2 : (w * c).fdiv w = c := by rw [fdiv_pos h, Int.mul_ediv_cancel_left _ (by omega)]
    have a3 : (((w * c).natAbs : Int)).fdiv w = (c.natAbs : Int) := by
      rw [fdiv_pos h, Int.natAbs_mul, Int.natCast_mul]
      have : (w.natAbs : Int) = w := by omega
      rw [this, Int.mul_ediv_cancel_left _ (by omega)]
    constructor
    · unfold p14 p29 onB
      rw [a1, f2, a3, fmod_emod h, q]
      simp
      rw [← Bool.decide_and, decide_eq_decide]
      omega
    · intro _
      unfold r14 r29
      rw [a1, a2]
      simp
  · have f2 : ¬ (frac (-m) w).2 = 1 := fun e => q (neg.mp (f1.mp e))
    constructor
    · unfold p14 p29
      simp [f2, q]
    · intro e
      unfold p29 at e
      simp [q] at e
theorem find_congr {α : Type} {p q : α → Bool} : ∀ {l : List α}, (∀ x ∈ l, p x = q x) → l.find? p = l.find? q
  | [], _ => rfl
  | x :: l, h => by
    rw [List.find?_cons, List.find?_cons, h x List.mem_cons_self, find_congr fun y hy => h y (List.mem_cons_of_mem _ hy)]
theorem ans_same {n m : Int} : ans14 n m = ans29 n m := by
  unfold ans14 ans29
  rw [find_congr (p := p14 n m) (q := p29 n m) fun w hw => (p_same (by have := (mem_ir.mp hw).1; omega)).1]
  cases q : (ir 1 1000).find? (p29 n m) with
  | none => rfl
  | some w =>
    have hw := List.mem_of_find?_eq_some q
    have hp := List.find?_some q
    exact (p_same (by have := (mem_ir.mp hw).1; omega)).2 hp
/-! signs -/
abbrev Rw : Type := List Int × Int
def encS (s : List Int) : D := .tup (s.map D.int)
def encR (r : Rw) : D := .tup [encS r.1, .int r.2]
def two (l : Ld) (r : Rw) : List Rw := [(r.1 ++ [-1], r.2 + -1 * l.1 * l.2), (r.1 ++ [1], r.2 + 1 * l.1 * l.2)]
theorem x15 {k : Nat} {l : Ld} {r : Rw} {R : RH} {a b c d : Sl} (hl : l.1.natAbs ≤ 100) (hr : r.1.length ≤ 1000) (hd : isOw d = false) :
    ev (cl k) d15x0 [a, .sh (encL l), b, .sh (encS r.1), .sh (.int r.2), .no] R = .ok (.lst ((two l r).map encR)) R := by
  have i0 : L2.atI [D.int l.1, D.int l.2] 0 = some (.int l.1) := rfl
  have i1 : L2.atI [D.int l.1, D.int l.2] 1 = some (.int l.2) := rfl
  have z : r.1.length + 1 ≤ 16777216 := by omega
  refine ev_lcE (ds := [(-1 : Int), 1].map D.int) (R1 := R) (by simp [runD, execs, exec, sqK, ev, evs, evb, evAnd, evOr, evo, evc, evi, evis, evX, evSE, evP, setP, stk_var, stk_con, stk_tup, stk_lst, stk_bin, stk_neg, stk_cmp, stk_ch2, stk_and, stk_or, stk_not, stk_ite, stk_call, stk_blt, stk_isi, stk_meth, stk_idx, stk_slc, stk_rev, stk_lc, Res.bind, Res.of, gS, sS, Sl.val, isOw, bltD, idxD, cmpD, binD, notD, negD, isKs, isK, lenR, slcD, itmD, rngD, rngD2, setT, setTs, tgs, tgss, killS, setC, isNon, ownable, putD, augD, extD, ofS, popD, deqI, deqB, deqS, deqT, deqL, deqs, deqNN, deqNT, deqTN, deqNI, deqIN, cmpb, dlt, flt, plain, plains, dep, deps, ]) ?_
  rw [lcL_map (g := fun s => encR (r.1 ++ [s], r.2 + s * l.1 * l.2)) fun s hs => ?_]
  · rfl
  · have hb : s.natAbs ≤ 1 := by
      rcases List.mem_cons.mp hs with rfl | hs
      · decide
      · rw [List.mem_singleton.mp hs]; decide
    have c1 : L2.CMul s l.1 := mulOk (by omega)
    have c2 : L2.CMul (s * l.1) l.2 := mulOk (by rw [Int.natAbs_mul]; exact Nat.le_trans (Nat.mul_le_mul hb hl) (by decide))
    unfold lcF
    simp [runD, execs, exec, sqK, ev, evs, evb, evAnd, evOr, evo, evc, evi, evis, evX, evSE, evP, setP, stk_var, stk_con, stk_tup, stk_lst, stk_bin, stk_neg, stk_cmp, stk_ch2, stk_and, stk_or, stk_not, stk_ite, stk_call, stk_blt, stk_isi, stk_meth, stk_idx, stk_slc, stk_rev, stk_lc, Res.bind, Res.of, gS, sS, Sl.val, isOw, bltD, idxD, cmpD, binD, notD, negD, isKs, isK, lenR, slcD, itmD, rngD, rngD2, setT, setTs, tgs, tgss, killS, setC, isNon, ownable, putD, augD, extD, ofS, popD, deqI, deqB, deqS, deqT, deqL, deqs, deqNN, deqNT, deqTN, deqNI, deqIN, cmpb, dlt, flt, plain, plains, dep, deps, encL, encS, encR, i0, i1, c1, c2, z, show PySem.sizeLine = 16777216 from rfl]
def longer (l : Ld) (rs : List Rw) : List Rw := rs.flatMap (two l)
theorem longer_len (l : Ld) : ∀ rs : List Rw, (longer l rs).length = 2 * rs.length
  | [] => rfl
  | r :: rs => by
    have := longer_len l rs
    unfold longer at this ⊢
    rw [List.flatMap_cons, List.length_append, this, List.length_cons]
    simp [two]
    omega
theorem e15 {k : Nat} {l : Ld} {rs : List Rw} {R : RH} (hl : l.1.natAbs ≤ 100) (h1 : rs.length ≤ 1000000) (h2 : ∀ r ∈ rs, r.1.length ≤ 1000) : cl (k + 1) 15 [.lst (rs.map encR), encL l] R = .ok (.lst ((longer l rs).map encR)) R := by
  rw [clE (d := d15) rfl]
  obtain ⟨σ', R', e, s3, s4, p, q⟩ := forL_inv (f := forF (cl k) FU (.tp (.cons (.nm 3) (.cons (.nm 4) .nil))) d15b0) (enc := encR) (xs := rs) (pre := []) (σ := [.sh (.lst (rs.map encR)), .sh (encL l), .ow (.lst []), .no, .no, .no]) (R := R)
    (fun pre σ R' => ∃ s3 s4, σ = [.sh (.lst (rs.map encR)), .sh (encL l), .ow (.lst ((longer l pre).map encR)), s3, s4, .no] ∧ R' = R) ⟨.no, .no, rfl, rfl⟩ (fun pre x post σ R' he ⟨s3, s4, p, q⟩ => by
      subst p q
      have he : rs = pre ++ x :: post := he
      have hx : x ∈ rs := by rw [he]; simp
      have hp : pre.length ≤ 1000000 := by
        have := congrArg List.length he
        rw [List.length_append] at this
        omega
      have hz : (longer l pre).length + 2 ≤ 16777216 := by rw [longer_len]; omega
      refine ⟨_, _, ?_, .sh (encS x.1), .sh (.int x.2), rfl, rfl⟩
      have xx := x15 (k := k) (l := l) (r := x) (R := R') (a := .sh (.lst (rs.map encR))) (b := .ow (.lst ((longer l pre).map encR))) (c := .no) (d := .no) hl (h2 x hx) rfl
      have ez : longer l (pre ++ [x]) = longer l pre ++ two l x := by unfold longer; rw [List.flatMap_append]; simp
      unfold forF
      rw [ez, List.map_append]
      simp [runD, execs, exec, sqK, ev, evs, evb, evAnd, evOr, evo, evc, evi, evis, evX, evSE, evP, setP, stk_var, stk_con, stk_tup, stk_lst, stk_bin, stk_neg, stk_cmp, stk_ch2, stk_and, stk_or, stk_not, stk_ite, stk_call, stk_blt, stk_isi, stk_meth, stk_idx, stk_slc, stk_rev, stk_lc, Res.bind, Res.of, gS, sS, Sl.val, isOw, bltD, idxD, cmpD, binD, notD, negD, isKs, isK, lenR, slcD, itmD, rngD, rngD2, setT, setTs, tgs, tgss, killS, setC, isNon, ownable, putD, augD, extD, ofS, popD, deqI, deqB, deqS, deqT, deqL, deqs, deqNN, deqNT, deqTN, deqNI, deqIN, cmpb, dlt, flt, plain, plains, dep, deps, encR, d15b0]
      rw [xx]
      have z2 : (longer l pre).length + (two l x).length ≤ 16777216 := hz
      simp [runD, execs, exec, sqK, ev, evs, evb, evAnd, evOr, evo, evc, evi, evis, evX, evSE, evP, setP, stk_var, stk_con, stk_tup, stk_lst, stk_bin, stk_neg, stk_cmp, stk_ch2, stk_and, stk_or, stk_not, stk_ite, stk_call, stk_blt, stk_isi, stk_meth, stk_idx, stk_slc, stk_rev, stk_lc, Res.bind, Res.of, gS, sS, Sl.val, isOw, bltD, idxD, cmpD, binD, notD, negD, isKs, isK, lenR, slcD, itmD, rngD, rngD2, setT, setTs, tgs, tgss, killS, setC, isNon, ownable, putD, augD, extD, ofS, popD, deqI, deqB, deqS, deqT, deqL, deqs, deqNN, deqNT, deqTN, deqNI, deqIN, cmpb, dlt, flt, plain, plains, dep, deps, ofS, extD, z2, show PySem.sizeLine = 16777216 from rfl])
  subst p q
  have e : exec (cl k) FU d15s0 _ R' = _ := exec_forE (it := .ex (.var 0)) (R1 := R') (by simp [runD, execs, exec, sqK, ev, evs, evb, evAnd, evOr, evo, evc, evi, evis, evX, evSE, evP, setP, stk_var, stk_con, stk_tup, stk_lst, stk_bin, stk_neg, stk_cmp, stk_ch2, stk_and, stk_or, stk_not, stk_ite, stk_call, stk_blt, stk_isi, stk_meth, stk_idx, stk_slc, stk_rev, stk_lc, Res.bind, Res.of, gS, sS, Sl.val, isOw, bltD, idxD, cmpD, binD, notD, negD, isKs, isK, lenR, slcD, itmD, rngD, rngD2, setT, setTs, tgs, tgss, killS, setC, isNon, ownable, putD, augD, extD, ofS, popD, deqI, deqB, deqS, deqT, deqL, deqs, deqNN, deqNT, deqTN, deqNI, deqIN, cmpb, dlt, flt, plain, plains, dep, deps, ]) e
  simp [runD, execs, exec, sqK, ev, evs, evb, evAnd, evOr, evo, evc, evi, evis, evX, evSE, evP, setP, stk_var, stk_con, stk_tup, stk_lst, stk_bin, stk_neg, stk_cmp, stk_ch2, stk_and, stk_or, stk_not, stk_ite, stk_call, stk_blt, stk_isi, stk_meth, stk_idx, stk_slc, stk_rev, stk_lc, Res.bind, Res.of, gS, sS, Sl.val, isOw, bltD, idxD, cmpD, binD, notD, negD, isKs, isK, lenR, slcD, itmD, rngD, rngD2, setT, setTs, tgs, tgss, killS, setC, isNon, ownable, putD, augD, extD, ofS, popD, deqI, deqB, deqS, deqT, deqL, deqs, deqNN, deqNT, deqTN, deqNI, deqIN, cmpb, dlt, flt, plain, plains, dep, deps, d15, e]
/-- rows of signs with their sums -/
def rowsOf (ls : List Ld) : List Rw := ls.foldl (fun rs l => longer l rs) [([], 0)]
theorem rowsOf_snoc (ls : List Ld) (l : Ld) : rowsOf (ls ++ [l]) = longer l (rowsOf ls) := by
  unfold rowsOf
  rw [List.foldl_append]
  rfl
theorem rows_len : ∀ (ls : List Ld) (rs : List Rw) (m : Nat), (∀ r ∈ rs, r.1.length = m) → (ls.foldl (fun rs l => longer l rs) rs).length = 2 ^ ls.length * rs.length ∧ ∀ r ∈ ls.foldl (fun rs l => longer l rs) rs, r.1.length = m + ls.length
  | [], rs, m, h => ⟨by simp, h⟩
  | l :: ls, rs, m, h => by
    obtain ⟨h1, h2⟩ := rows_len ls (longer l rs) (m + 1) fun r hr => by
      unfold longer at hr
      obtain ⟨x, hx, hr⟩ := List.mem_flatMap.mp hr
      have := h x hx
      simp only [two, List.mem_cons, List.not_mem_nil, or_false] at hr
      rcases hr with rfl | rfl <;> simp [this]
    refine ⟨?_, fun r hr => ?_⟩
    · rw [List.foldl_cons, h1, longer_len, List.length_cons, Nat.pow_succ, Nat.mul_assoc]
    · have := h2 r hr
      rw [this, List.length_cons]
      omega
theorem rowsOf_len (ls : List Ld) : (rowsOf ls).length = 2 ^ ls.length ∧ ∀ r ∈ rowsOf ls, r.1.length = ls.length := by
  obtain ⟨h1, h2⟩ := rows_len ls [([], 0)] 0 fun r hr => by
    rw [List.mem_singleton.mp hr]
    rfl
  exact ⟨by unfold rowsOf; rw [h1]; simp, fun r hr => by have := h2 r hr; omega⟩
end Lw

end
section
namespace Lw
open Cw
theorem s16 {k : Nat} {n : Int} {ls : List Ld} {R : RH} (h : Bm n ls) : ∃ s3, exec (cl (k + 1)) FU d16s0 [.sh (.int n), .sh (encLs ls), .sh (.lst ([([], 0)].map encR)), .no, .no, .no, .no] R = .ok (.nx, [.sh (.int n), .sh (encLs ls), .sh (.lst ((rowsOf ls).map encR)), s3, .no, .no, .no]) R := by
  obtain ⟨σ', R', e, s3, p, q⟩ := forL_inv (f := forF (cl (k + 1)) FU (.nm 3) d16b0) (enc := encL) (xs := ls) (pre := []) (σ := [.sh (.int n), .sh (encLs ls), .sh (.lst ([([], 0)].map encR)), .no, .no, .no, .no]) (R := R)
    (fun pre σ R' => ∃ s3, σ = [.sh (.int n), .sh (encLs ls), .sh (.lst ((rowsOf pre).map encR)), s3, .no, .no, .no] ∧ R' = R) ⟨.no, rfl, rfl⟩ (fun pre x post σ R' he ⟨s3, p, q⟩ => by
      subst p q
      have he : ls = pre ++ x :: post := he
      have hx : x ∈ ls := by rw [he]; simp
      have hp : pre.length ≤ 10 := by
        have := congrArg List.length he
        have := h.len
        rw [List.length_append] at *
        omega
      obtain ⟨r1, r2⟩ := rowsOf_len pre
      obtain ⟨a1, a2, _⟩ := h.at hx
      have hn := h.n2
      have hpow : 2 ^ pre.length ≤ 1024 := Nat.pow_le_pow_right (by decide) hp
      have e := e15 (k := k) (l := x) (rs := rowsOf pre) (R := R') (by omega) (by omega) (fun r hr => by have := r2 r hr; omega)
      refine ⟨_, _, ?_, .sh (encL x), rfl, rfl⟩
      rw [rowsOf_snoc]
      unfold forF
      simp [runD, execs, exec, sqK, ev, evs, evb, evAnd, evOr, evo, evc, evi, evis, evX, evSE, evP, setP, stk_var, stk_con, stk_tup, stk_lst, stk_bin, stk_neg, stk_cmp, stk_ch2, stk_and, stk_or, stk_not, stk_ite, stk_call, stk_blt, stk_isi, stk_meth, stk_idx, stk_slc, stk_rev, stk_lc, Res.bind, Res.of, gS, sS, Sl.val, isOw, bltD, idxD, cmpD, binD, notD, negD, isKs, isK, lenR, slcD, itmD, rngD, rngD2, setT, setTs, tgs, tgss, killS, setC, isNon, ownable, putD, augD, extD, ofS, popD, deqI, deqB, deqS, deqT, deqL, deqs, deqNN, deqNT, deqTN, deqNI, deqIN, cmpb, dlt, flt, plain, plains, dep, deps, d16b0, e])
  subst p q
  exact ⟨s3, exec_forE (it := .ex (.var 1)) (R1 := R') (by simp [runD, execs, exec, sqK, ev, evs, evb, evAnd, evOr, evo, evc, evi, evis, evX, evSE, evP, setP, stk_var, stk_con, stk_tup, stk_lst, stk_bin, stk_neg, stk_cmp, stk_ch2, stk_and, stk_or, stk_not, stk_ite, stk_call, stk_blt, stk_isi, stk_meth, stk_idx, stk_slc, stk_rev, stk_lc, Res.bind, Res.of, gS, sS, Sl.val, isOw, bltD, idxD, cmpD, binD, notD, negD, isKs, isK, lenR, slcD, itmD, rngD, rngD2, setT, setTs, tgs, tgss, killS, setC, isNon, ownable, putD, augD, extD, ofS, popD, deqI, deqB, deqS, deqT, deqL, deqs, deqNN, deqNT, deqTN, deqNI, deqIN, cmpb, dlt, flt, plain, plains, dep, deps, encLs]) e⟩
def zeros (ls : List Ld) : List (List Int) := ((rowsOf ls).filter fun r => decide (r.2 = 0)).map (·.1)
theorem fm_zero : ∀ rs : List Rw, rs.filterMap (fun r => if r.2 = 0 then some (encS r.1) else none) = ((rs.filter fun r => decide (r.2 = 0)).map (·.1)).map encS
  | [] => rfl
  | r :: rs => by
    rw [List.filterMap_cons, fm_zero rs, List.filter_cons]
    by_cases h : r.2 = 0 <;> simp [h]
theorem x16 {k : Nat} {ls : List Ld} {R : RH} {a b c : Sl} : ev (cl k) d16x0 [a, b, .sh (.lst ((rowsOf ls).map encR)), c, .no, .no, .no] R = .ok (.lst ((zeros ls).map encS)) R := by
  unfold zeros
  rw [← fm_zero]
  refine ev_lcE (ds := (rowsOf ls).map encR) (R1 := R) (by simp [runD, execs, exec, sqK, ev, evs, evb, evAnd, evOr, evo, evc, evi, evis, evX, evSE, evP, setP, stk_var, stk_con, stk_tup, stk_lst, stk_bin, stk_neg, stk_cmp, stk_ch2, stk_and, stk_or, stk_not, stk_ite, stk_call, stk_blt, stk_isi, stk_meth, stk_idx, stk_slc, stk_rev, stk_lc, Res.bind, Res.of, gS, sS, Sl.val, isOw, bltD, idxD, cmpD, binD, notD, negD, isKs, isK, lenR, slcD, itmD, rngD, rngD2, setT, setTs, tgs, tgss, killS, setC, isNon, ownable, putD, augD, extD, ofS, popD, deqI, deqB, deqS, deqT, deqL, deqs, deqNN, deqNT, deqTN, deqNI, deqIN, cmpb, dlt, flt, plain, plains, dep, deps, ]) (lcL_fm fun r _ => ?_)
  unfold lcF
  by_cases q : r.2 = 0 <;> simp [runD, execs, exec, sqK, ev, evs, evb, evAnd, evOr, evo, evc, evi, evis, evX, evSE, evP, setP, stk_var, stk_con, stk_tup, stk_lst, stk_bin, stk_neg, stk_cmp, stk_ch2, stk_and, stk_or, stk_not, stk_ite, stk_call, stk_blt, stk_isi, stk_meth, stk_idx, stk_slc, stk_rev, stk_lc, Res.bind, Res.of, gS, sS, Sl.val, isOw, bltD, idxD, cmpD, binD, notD, negD, isKs, isK, lenR, slcD, itmD, rngD, rngD2, setT, setTs, tgs, tgss, killS, setC, isNon, ownable, putD, augD, extD, ofS, popD, deqI, deqB, deqS, deqT, deqL, deqs, deqNN, deqNT, deqTN, deqNI, deqIN, cmpb, dlt, flt, plain, plains, dep, deps, encR, encS, q]
def firstS : List (List Int) → D
  | [] => .non
  | s :: _ => encS s
theorem e16 {k : Nat} {n : Int} {ls : List Ld} {R : RH} (h : Bm n ls) : cl (k + 6) 16 [.int n, encLs ls] R = .ok (firstS (zeros ls)) R := by
  rw [clE (d := d16) rfl]
  obtain ⟨s3, e⟩ := s16 (k := k + 4) (R := R) h
  have x := x16 (k := k + 5) (ls := ls) (R := R) (a := .sh (.int n)) (b := .sh (encLs ls)) (c := s3)
  simp only [List.map_cons, List.map_nil, encR, encS] at e
  simp [runD, execs, exec, sqK, ev, evs, evb, evAnd, evOr, evo, evc, evi, evis, evX, evSE, evP, setP, stk_var, stk_con, stk_tup, stk_lst, stk_bin, stk_neg, stk_cmp, stk_ch2, stk_and, stk_or, stk_not, stk_ite, stk_call, stk_blt, stk_isi, stk_meth, stk_idx, stk_slc, stk_rev, stk_lc, Res.bind, Res.of, gS, sS, Sl.val, isOw, bltD, idxD, cmpD, binD, notD, negD, isKs, isK, lenR, slcD, itmD, rngD, rngD2, setT, setTs, tgs, tgss, killS, setC, isNon, ownable, putD, augD, extD, ofS, popD, deqI, deqB, deqS, deqT, deqL, deqs, deqNN, deqNT, deqTN, deqNI, deqIN, cmpb, dlt, flt, plain, plains, dep, deps, d16, e7 h, e, d16x0s, x]
  cases zeros ls with
  | nil => simp [runD, execs, exec, sqK, ev, evs, evb, evAnd, evOr, evo, evc, evi, evis, evX, evSE, evP, setP, stk_var, stk_con, stk_tup, stk_lst, stk_bin, stk_neg, stk_cmp, stk_ch2, stk_and, stk_or, stk_not, stk_ite, stk_call, stk_blt, stk_isi, stk_meth, stk_idx, stk_slc, stk_rev, stk_lc, Res.bind, Res.of, gS, sS, Sl.val, isOw, bltD, idxD, cmpD, binD, notD, negD, isKs, isK, lenR, slcD, itmD, rngD, rngD2, setT, setTs, tgs, tgss, killS, setC, isNon, ownable, putD, augD, extD, ofS, popD, deqI, deqB, deqS, deqT, deqL, deqs, deqNN, deqNT, deqTN, deqNI, deqIN, cmpb, dlt, flt, plain, plains, dep, deps, firstS]
  | cons s l =>
    have i : L2.atI (encS s :: l.map encS) 0 = some (encS s) := by
      have : (encS s :: l.map encS)[0]? = some (encS s) := rfl
      exact L2.atI_nat this
    have g : (0 : Int) < (l.length : Int) + 1 := by omega
    simp [runD, execs, exec, sqK, ev, evs, evb, evAnd, evOr, evo, evc, evi, evis, evX, evSE, evP, setP, stk_var, stk_con, stk_tup, stk_lst, stk_bin, stk_neg, stk_cmp, stk_ch2, stk_and, stk_or, stk_not, stk_ite, stk_call, stk_blt, stk_isi, stk_meth, stk_idx, stk_slc, stk_rev, stk_lc, Res.bind, Res.of, gS, sS, Sl.val, isOw, bltD, idxD, cmpD, binD, notD, negD, isKs, isK, lenR, slcD, itmD, rngD, rngD2, setT, setTs, tgs, tgss, killS, setC, isNon, ownable, putD, augD, extD, ofS, popD, deqI, deqB, deqS, deqT, deqL, deqs, deqNN, deqNT, deqTN, deqNI, deqIN, cmpb, dlt, flt, plain, plains, dep, deps, firstS, i, g]
/-- signs alone -/
def sgn : Nat → List (List Int)
  | 0 => [[]]
  | n + 1 => (sgn n).flatMap fun s => [s ++ [-1], s ++ [1]]
theorem sgn_len : ∀ n, (sgn n).length = 2 ^ n ∧ ∀ s ∈ sgn n, s.length = n ∧ ∀ x ∈ s, x.natAbs ≤ 1
  | 0 => ⟨rfl, fun s h => by simp [sgn] at h; subst h; simp⟩
  | n + 1 => by
    obtain ⟨h1, h2⟩ := sgn_len n
    constructor
    · have : ∀ l : List (List Int), (l.flatMap fun s => [s ++ [-1], s ++ [1]]).length = 2 * l.length := by
        intro l
        induction l with
        | nil => rfl
        | cons s l ih =>
          rw [List.flatMap_cons, List.length_append, ih, List.length_cons]
          simp
          omega
      rw [sgn, this, h1, Nat.pow_succ]
      omega
    · intro s hs
      rw [sgn] at hs
      obtain ⟨t, ht, hs⟩ := List.mem_flatMap.mp hs
      obtain ⟨g1, g2⟩ := h2 t ht
      simp only [List.mem_cons, List.not_mem_nil, or_false] at hs
      rcases hs with rfl | rfl
      · refine ⟨by simp [g1], fun x hx => ?_⟩
        rcases List.mem_append.mp hx with hx | hx
        · exact g2 x hx
        · rw [List.mem_singleton.mp hx]; decide
      · refine ⟨by simp [g1], fun x hx => ?_⟩
        rcases List.mem_append.mp hx with hx | hx
        · exact g2 x hx
        · rw [List.mem_singleton.mp hx]; decide
def dot (s : List Int) (ls : List Ld) : Int := (s.zipWith (fun a l => a * l.1 * l.2) ls).sum
theorem dot_snoc {s : List Int} {ls : List Ld} {a : Int} {l : Ld} (h : s.length = ls.length) : dot (s ++ [a]) (ls ++ [l]) = dot s ls + a * l.1 * l.2 := by
  unfold dot
  rw [List.zipWith_append h]
  simp
theorem rows_dot : ∀ (ls pre : List Ld), (ls.foldl (fun rs l => longer l rs) ((sgn pre.length).map fun s => (s, dot s pre))) = (sgn (pre ++ ls).length).map fun s => (s, dot s (pre ++ ls))
  | [], pre => by simp
  | l :: ls, pre => by
    have step : longer l ((sgn pre.length).map fun s => (s, dot s pre)) = (sgn (pre ++ [l]).length).map fun s => (s, dot s (pre ++ [l])) := by
      unfold longer
      rw [List.length_append, List.length_singleton, sgn, List.flatMap_map, List.map_flatMap]
      have : ∀ L : List (List Int), (∀ s ∈ L, s.length = pre.length) → (L.flatMap fun a => two l (a, dot a pre)) = L.flatMap fun a => ([a ++ [-1], a ++ [1]]).map fun s => (s, dot s (pre ++ [l])) := by
        intro L
        induction L with
        | nil => intro _; rfl
        | cons s L ih =>
          intro hL
          have hs := hL s List.mem_cons_self
          rw [List.flatMap_cons, List.flatMap_cons, ih fun t ht => hL t (List.mem_cons_of_mem _ ht)]
          congr 1
          simp only [two, List.map_cons, List.map_nil, dot_snoc hs]
      exact this _ fun s hs => ((sgn_len _).2 s hs).1
    rw [List.foldl_cons, step, rows_dot ls (pre ++ [l])]
    simp
theorem rowsOf_dot (ls : List Ld) : rowsOf ls = (sgn ls.length).map fun s => (s, dot s ls) := rows_dot ls []
theorem zeros_eq (ls : List Ld) : zeros ls = (sgn ls.length).filter fun s => decide (dot s ls = 0) := by
  unfold zeros
  rw [rowsOf_dot, List.filter_map, List.map_map]
  exact List.map_id _
end Lw

end
section
namespace Lw
open Cw
/-! the bag -/
def bagR (g : List Int) (s n c : Int) : RH := [g.map D.int, [.ref 0, .int s, .int n, .int c]]
def VB (R : RH) : Prop := ∃ g s n c, R = bagR g s n c
theorem fmod_in {a b : Int} (h : 0 < b) : 0 ≤ a.fmod b ∧ a.fmod b < b := by
  rw [fmod_emod h]
  exact ⟨Int.emod_nonneg _ (by omega), Int.emod_lt_of_pos _ h⟩
theorem e21 {k : Nat} {m : Int} {R : RH} (h : VB R) (h1 : 1 ≤ m) (h2 : m < 2 ^ 30) : ∃ x R', cl (k + 1) 21 [.ref 1, .int m] R = .ok (.int x) R' ∧ 0 ≤ x ∧ x < m ∧ VB R' := by
  obtain ⟨g, s, n, c, rfl⟩ := h
  rw [clE (d := d21) rfl]
  have i0 : ∀ s n c : Int, L2.atI [D.ref 0, D.int s, D.int n, D.int c] 0 = some (.ref 0) := fun _ _ _ => rfl
  have i1 : ∀ s n c : Int, L2.atI [D.ref 0, D.int s, D.int n, D.int c] 1 = some (.int s) := fun _ _ _ => rfl
  have i2 : ∀ s n c : Int, L2.atI [D.ref 0, D.int s, D.int n, D.int c] 2 = some (.int n) := fun _ _ _ => rfl
  have i3 : ∀ s n c : Int, L2.atI [D.ref 0, D.int s, D.int n, D.int c] 3 = some (.int c) := fun _ _ _ => rfl
  have x1 : L2.ixN 4 1 = some 1 := rfl
  have x3 : L2.ixN 4 3 = some 3 := rfl
  have hm0 : m ≠ 0 := by omega
  have cd : ∀ x, L2.CDivN x m := fun x => ⟨hm0, by omega⟩
  have cd16 : ∀ x, L2.CDivN x 16 := fun x => ⟨by decide, by decide⟩
  have cd10 : ∀ x, L2.CDivN x 1009 := fun x => ⟨by decide, by decide⟩
  have mk1 : ∀ x, L2.CMul 7919 x := fun x => mulOk (by decide)
  have mk2 : ∀ x, L2.CMul x 48271 := fun x => .inr ⟨by decide, by decide⟩
  by_cases hn : n = 0
  · subst hn
    exact ⟨0, _, by unfold bagR; simp [runD, execs, exec, sqK, ev, evs, evb, evAnd, evOr, evo, evc, evi, evis, evX, evSE, evP, setP, stk_var, stk_con, stk_tup, stk_lst, stk_bin, stk_neg, stk_cmp, stk_ch2, stk_and, stk_or, stk_not, stk_ite, stk_call, stk_blt, stk_isi, stk_meth, stk_idx, stk_slc, stk_rev, stk_lc, Res.bind, Res.of, gS, sS, Sl.val, isOw, bltD, idxD, cmpD, binD, notD, negD, isKs, isK, lenR, slcD, itmD, rngD, rngD2, setT, setTs, tgs, tgss, killS, setC, isNon, ownable, putD, augD, extD, ofS, popD, deqI, deqB, deqS, deqT, deqL, deqs, deqNN, deqNT, deqTN, deqNI, deqIN, cmpb, dlt, flt, plain, plains, dep, deps, d21, i2], by omega, by omega, g, s, 0, c, rfl⟩
  · cases g with
    | nil =>
      obtain ⟨a1, a2⟩ := fmod_in (a := (s + 7919 * (c + 1)) * 48271 + 11) (b := 2147483647) (by decide)
      have mk3 : ∀ y, L2.CMul (((s + 7919 * (c + 1)) * 48271 + 11).fmod 2147483647) y := fun y => .inl ⟨by omega, by omega⟩
      obtain ⟨b1, b2⟩ := fmod_in (a := (((((s + 7919 * (c + 1)) * 48271 + 11).fmod 2147483647) * ((((s + 7919 * (c + 1)) * 48271 + 11).fmod 2147483647).fdiv 1009 + 69621) + (c + 1)).fmod 2147483399).fdiv 16) (b := m) (by omega)
      exact ⟨_, _, by unfold bagR; simp [runD, execs, exec, sqK, ev, evs, evb, evAnd, evOr, evo, evc, evi, evis, evX, evSE, evP, setP, stk_var, stk_con, stk_tup, stk_lst, stk_bin, stk_neg, stk_cmp, stk_ch2, stk_and, stk_or, stk_not, stk_ite, stk_call, stk_blt, stk_isi, stk_meth, stk_idx, stk_slc, stk_rev, stk_lc, Res.bind, Res.of, gS, sS, Sl.val, isOw, bltD, idxD, cmpD, binD, notD, negD, isKs, isK, lenR, slcD, itmD, rngD, rngD2, setT, setTs, tgs, tgss, killS, setC, isNon, ownable, putD, augD, extD, ofS, popD, deqI, deqB, deqS, deqT, deqL, deqs, deqNN, deqNT, deqTN, deqNI, deqIN, cmpb, dlt, flt, plain, plains, dep, deps, d21, i0, i1, i2, i3, x1, x3, hn, hm0, cd, cd16, cd10, mk1, mk2, mk3]; rfl, b1, b2, [], _, n, c + 1, rfl⟩
    | cons x g =>
      have j0 : ∀ l : List D, ∀ d, L2.atI (d :: l) 0 = some d := fun l d => L2.atI_nat (j := 0) rfl
      have z0 : ∀ l : Nat, L2.ixN (l + 1) 0 = some 0 := fun l => by unfold L2.ixN; simp
      have gl : (0 : Int) < (g.length : Int) + 1 := by omega
      obtain ⟨b1, b2⟩ := fmod_in (a := x) (b := m) (by omega)
      by_cases hx : x < m
      · exact ⟨_, _, by unfold bagR; simp [runD, execs, exec, sqK, ev, evs, evb, evAnd, evOr, evo, evc, evi, evis, evX, evSE, evP, setP, stk_var, stk_con, stk_tup, stk_lst, stk_bin, stk_neg, stk_cmp, stk_ch2, stk_and, stk_or, stk_not, stk_ite, stk_call, stk_blt, stk_isi, stk_meth, stk_idx, stk_slc, stk_rev, stk_lc, Res.bind, Res.of, gS, sS, Sl.val, isOw, bltD, idxD, cmpD, binD, notD, negD, isKs, isK, lenR, slcD, itmD, rngD, rngD2, setT, setTs, tgs, tgss, killS, setC, isNon, ownable, putD, augD, extD, ofS, popD, deqI, deqB, deqS, deqT, deqL, deqs, deqNN, deqNT, deqTN, deqNI, deqIN, cmpb, dlt, flt, plain, plains, dep, deps, d21, i0, i1, i2, i3, j0, z0, hn, hm0, cd, hx, gl], b1, b2, g, s, n, c, rfl⟩
      · exact ⟨_, _, by unfold bagR; simp [runD, execs, exec, sqK, ev, evs, evb, evAnd, evOr, evo, evc, evi, evis, evX, evSE, evP, setP, stk_var, stk_con, stk_tup, stk_lst, stk_bin, stk_neg, stk_cmp, stk_ch2, stk_and, stk_or, stk_not, stk_ite, stk_call, stk_blt, stk_isi, stk_meth, stk_idx, stk_slc, stk_rev, stk_lc, Res.bind, Res.of, gS, sS, Sl.val, isOw, bltD, idxD, cmpD, binD, notD, negD, isKs, isK, lenR, slcD, itmD, rngD, rngD2, setT, setTs, tgs, tgss, killS, setC, isNon, ownable, putD, augD, extD, ofS, popD, deqI, deqB, deqS, deqT, deqL, deqs, deqNN, deqNT, deqTN, deqNI, deqIN, cmpb, dlt, flt, plain, plains, dep, deps, d21, i0, i1, i2, i3, j0, z0, hn, hm0, cd, hx, gl], b1, b2, x.fdiv m :: g, s, n, c, rfl⟩
/-! safe places -/
def safeL (n m w b : Int) : List Int := (ir (-n) (n + 1 - -n).toNat).filter fun p => decide ((m + p * w).natAbs ≤ b)
theorem fm_int {c : Int → Bool} : ∀ l : List Int, l.filterMap (fun p => if c p = true then some (D.int p) else none) = (l.filter c).map D.int
  | [] => rfl
  | p :: l => by
    rw [List.filterMap_cons, fm_int l, List.filter_cons]
    cases c p <;> simp
theorem x17 {k : Nat} {n m w b : Int} {R : RH} (h1 : 0 ≤ n) (h2 : n ≤ 100) : ev (cl k) d17x0 [.sh (.int n), .sh (.int m), .sh (.int w), .sh (.int b), .no] R = .ok (.lst ((safeL n m w b).map D.int)) R := by
  unfold safeL
  rw [← fm_int]
  have e : ∀ x : Int, (if x < 0 then -x else x) = (x.natAbs : Int) := fun x => by omega
  have z : PySem.sizeLine = 16777216 := rfl
  refine ev_lcE (ds := (ir (-n) (n + 1 - -n).toNat).map D.int) (R1 := R) (by
    rw [← rngI_ir]
    have c1 : -2305843009213693952 ≤ -n ∧ -n ≤ 2305843009213693952 := by omega
    have c2 : -2305843009213693952 ≤ n + 1 ∧ n + 1 ≤ 2305843009213693952 := by omega
    have c3 : n + 1 + n ≤ 16777216 := by omega
    simp [runD, execs, exec, sqK, ev, evs, evb, evAnd, evOr, evo, evc, evi, evis, evX, evSE, evP, setP, stk_var, stk_con, stk_tup, stk_lst, stk_bin, stk_neg, stk_cmp, stk_ch2, stk_and, stk_or, stk_not, stk_ite, stk_call, stk_blt, stk_isi, stk_meth, stk_idx, stk_slc, stk_rev, stk_lc, Res.bind, Res.of, gS, sS, Sl.val, isOw, bltD, idxD, cmpD, binD, notD, negD, isKs, isK, lenR, slcD, itmD, rngD, rngD2, setT, setTs, tgs, tgss, killS, setC, isNon, ownable, putD, augD, extD, ofS, popD, deqI, deqB, deqS, deqT, deqL, deqs, deqNN, deqNT, deqTN, deqNI, deqIN, cmpb, dlt, flt, plain, plains, dep, deps, z, c1.1, c1.2, c2.1, c2.2, c3]) (lcL_fm fun p hp => ?_)
  obtain ⟨g1, g2⟩ := mem_ir.mp hp
  have c : L2.CMul p w := mulOk (by omega)
  unfold lcF
  by_cases q : (m + p * w).natAbs ≤ b <;> simp [runD, execs, exec, sqK, ev, evs, evb, evAnd, evOr, evo, evc, evi, evis, evX, evSE, evP, setP, stk_var, stk_con, stk_tup, stk_lst, stk_bin, stk_neg, stk_cmp, stk_ch2, stk_and, stk_or, stk_not, stk_ite, stk_call, stk_blt, stk_isi, stk_meth, stk_idx, stk_slc, stk_rev, stk_lc, Res.bind, Res.of, gS, sS, Sl.val, isOw, bltD, idxD, cmpD, binD, notD, negD, isKs, isK, lenR, slcD, itmD, rngD, rngD2, setT, setTs, tgs, tgss, killS, setC, isNon, ownable, putD, augD, extD, ofS, popD, deqI, deqB, deqS, deqT, deqL, deqs, deqNN, deqNT, deqTN, deqNI, deqIN, cmpb, dlt, flt, plain, plains, dep, deps, c, e, q]
theorem e17 {k : Nat} {n m w b : Int} {R : RH} (h1 : 0 ≤ n) (h2 : n ≤ 100) : cl (k + 1) 17 [.int n, .int m, .int w, .int b] R = .ok (.lst ((safeL n m w b).map D.int)) R := by
  rw [clE (d := d17) rfl]
  simp [runD, execs, exec, sqK, ev, evs, evb, evAnd, evOr, evo, evc, evi, evis, evX, evSE, evP, setP, stk_var, stk_con, stk_tup, stk_lst, stk_bin, stk_neg, stk_cmp, stk_ch2, stk_and, stk_or, stk_not, stk_ite, stk_call, stk_blt, stk_isi, stk_meth, stk_idx, stk_slc, stk_rev, stk_lc, Res.bind, Res.of, gS, sS, Sl.val, isOw, bltD, idxD, cmpD, binD, notD, negD, isKs, isK, lenR, slcD, itmD, rngD, rngD2, setT, setTs, tgs, tgss, killS, setC, isNon, ownable, putD, augD, extD, ofS, popD, deqI, deqB, deqS, deqT, deqL, deqs, deqNN, deqNT, deqTN, deqNI, deqIN, cmpb, dlt, flt, plain, plains, dep, deps, d17, d17x0s, x17 h1 h2]
def ends : List Int → D
  | [] => .non
  | x :: l => .tup [.int x, .int ((x :: l).getLast (by simp))]
theorem atI_ends {x : Int} {l : List Int} : L2.atI ((x :: l).map D.int) 0 = some (.int x) ∧ L2.atI ((x :: l).map D.int) (-1) = some (.int ((x :: l).getLast (by simp))) := by
  refine ⟨L2.atI_nat (j := 0) rfl, ?_⟩
  have h : (x :: l) = (x :: l).dropLast ++ [(x :: l).getLast (by simp)] := (List.dropLast_concat_getLast _).symm
  conv => lhs; rw [h, List.map_append]
  exact L2.atI_last _ _
theorem e18 {k : Nat} {n w b : Int} {ls : List Ld} {R : RH} (h : Bm n ls) (h1 : 1 ≤ w) (h2 : w ≤ 1000) (h3 : 0 ≤ b) (h4 : b ≤ 1000000) : cl (k + 6) 18 [.int n, encLs ls, .int w, .int b] R = .ok (ends (safeL n (mom ls) w b)) R := by
  rw [clE (d := d18) rfl]
  have g1 := h.n1
  have e := e17 (k := k + 4) (n := n) (m := mom ls) (w := w) (b := b) (R := R) (by omega) h.n2
  cases q : safeL n (mom ls) w b with
  | nil =>
    rw [q] at e
    simp [runD, execs, exec, sqK, ev, evs, evb, evAnd, evOr, evo, evc, evi, evis, evX, evSE, evP, setP, stk_var, stk_con, stk_tup, stk_lst, stk_bin, stk_neg, stk_cmp, stk_ch2, stk_and, stk_or, stk_not, stk_ite, stk_call, stk_blt, stk_isi, stk_meth, stk_idx, stk_slc, stk_rev, stk_lc, Res.bind, Res.of, gS, sS, Sl.val, isOw, bltD, idxD, cmpD, binD, notD, negD, isKs, isK, lenR, slcD, itmD, rngD, rngD2, setT, setTs, tgs, tgss, killS, setC, isNon, ownable, putD, augD, extD, ofS, popD, deqI, deqB, deqS, deqT, deqL, deqs, deqNN, deqNT, deqTN, deqNI, deqIN, cmpb, dlt, flt, plain, plains, dep, deps, d18, e7 h, e8 h1 h2, e1, h3, h4, e9 h, e, ends]
  | cons x l =>
    rw [q] at e
    obtain ⟨i1, i2⟩ := atI_ends (x := x) (l := l)
    have g : (0 : Int) < (l.length : Int) + 1 := by omega
    simp only [List.map_cons] at i1 i2 e
    simp [runD, execs, exec, sqK, ev, evs, evb, evAnd, evOr, evo, evc, evi, evis, evX, evSE, evP, setP, stk_var, stk_con, stk_tup, stk_lst, stk_bin, stk_neg, stk_cmp, stk_ch2, stk_and, stk_or, stk_not, stk_ite, stk_call, stk_blt, stk_isi, stk_meth, stk_idx, stk_slc, stk_rev, stk_lc, Res.bind, Res.of, gS, sS, Sl.val, isOw, bltD, idxD, cmpD, binD, notD, negD, isKs, isK, lenR, slcD, itmD, rngD, rngD2, setT, setTs, tgs, tgss, killS, setC, isNon, ownable, putD, augD, extD, ofS, popD, deqI, deqB, deqS, deqT, deqL, deqs, deqNN, deqNT, deqTN, deqNI, deqIN, cmpb, dlt, flt, plain, plains, dep, deps, d18, e7 h, e8 h1 h2, e1, h3, h4, e9 h, e, ends, i1, i2, g]
/-! the middle -/
def hv (ls : List Ld) : Int := (ls.map fun l => l.2).sum
theorem x19 {k : Nat} {ls : List Ld} {R : RH} : ev (cl k) d19x0 [.sh (encLs ls), .no, .no] R = .ok (.lst (ls.map fun l => .int l.2)) R := by
  refine ev_lcE (ds := ls.map encL) (R1 := R) rfl (lcL_map fun l hl => ?_)
  unfold lcF
  simp [runD, execs, exec, sqK, ev, evs, evb, evAnd, evOr, evo, evc, evi, evis, evX, evSE, evP, setP, stk_var, stk_con, stk_tup, stk_lst, stk_bin, stk_neg, stk_cmp, stk_ch2, stk_and, stk_or, stk_not, stk_ite, stk_call, stk_blt, stk_isi, stk_meth, stk_idx, stk_slc, stk_rev, stk_lc, Res.bind, Res.of, gS, sS, Sl.val, isOw, bltD, idxD, cmpD, binD, notD, negD, isKs, isK, lenR, slcD, itmD, rngD, rngD2, setT, setTs, tgs, tgss, killS, setC, isNon, ownable, putD, augD, extD, ofS, popD, deqI, deqB, deqS, deqT, deqL, deqs, deqNN, deqNT, deqTN, deqNI, deqIN, cmpb, dlt, flt, plain, plains, dep, deps, encL]
theorem Bm.big {n : Int} {ls : List Ld} (h : Bm n ls) : Bm 100 ls := by
  refine ⟨by decide, by decide, ?_⟩
  unfold okLs
  simp only [Bool.and_eq_true, decide_eq_true_eq, List.all_eq_true]
  refine ⟨h.len, fun l hl => ?_⟩
  obtain ⟨a, b, c, d⟩ := h.at hl
  have := h.n2
  unfold okL
  simp only [Bool.and_eq_true, decide_eq_true_eq]
  omega
theorem hv_bound : ∀ {ls : List Ld}, (∀ l ∈ ls, 1 ≤ l.2 ∧ l.2 ≤ 1000) → (ls.length : Int) ≤ hv ls ∧ hv ls ≤ ls.length * 1000
  | [], _ => by simp [hv]
  | l :: ls, h => by
    have ih := hv_bound (ls := ls) fun x hx => h x (List.mem_cons_of_mem _ hx)
    obtain ⟨h1, h2⟩ := h l List.mem_cons_self
    have e : hv (l :: ls) = l.2 + hv ls := by simp [hv]
    rw [e, List.length_cons]
    omega
theorem Bm.hv {n : Int} {ls : List Ld} (h : Bm n ls) (hne : ls ≠ []) : 1 ≤ hv ls ∧ hv ls ≤ 10000 := by
  obtain ⟨a, b⟩ := hv_bound fun l hl => ⟨(h.at hl).2.2.1, (h.at hl).2.2.2⟩
  have := h.len
  have : 0 < ls.length := List.length_pos_iff.mpr hne
  omega
theorem e19 {k : Nat} {n : Int} {ls : List Ld} {R : RH} (h : Bm n ls) (hne : ls ≠ []) : cl (k + 5) 19 [encLs ls] R = .ok (encL (frac (mom ls) (hv ls))) R := by
  rw [clE (d := d19) rfl]
  obtain ⟨a, b⟩ := h.hv hne
  have m := h.mom
  have e := e4 (k := k + 2) (a := mom ls) (b := hv ls) (R := R) (by omega) (by omega) (by omega)
  have e6' := e6 (k := k) (n := 100) (ls := ls) (R := R)
  rw [h.big.ls] at e6'
  have x := x19 (k := k + 4) (ls := ls) (R := R)
  have bb := intsD_mapf (fun l : Ld => l.2) ls
  have hl : ¬ ls.length = 0 := fun q => hne (List.length_eq_zero_iff.mp q)
  have hl2 : ¬ (ls.length : Int) = 0 := by omega
  have e9' := e9 (k := k + 3) (R := R) h
  unfold Lw.hv at e
  unfold encLs at x e6' e9' ⊢
  simp [runD, execs, exec, sqK, ev, evs, evb, evAnd, evOr, evo, evc, evi, evis, evX, evSE, evP, setP, stk_var, stk_con, stk_tup, stk_lst, stk_bin, stk_neg, stk_cmp, stk_ch2, stk_and, stk_or, stk_not, stk_ite, stk_call, stk_blt, stk_isi, stk_meth, stk_idx, stk_slc, stk_rev, stk_lc, Res.bind, Res.of, gS, sS, Sl.val, isOw, bltD, idxD, cmpD, binD, notD, negD, isKs, isK, lenR, slcD, itmD, rngD, rngD2, setT, setTs, tgs, tgss, killS, setC, isNon, ownable, putD, augD, extD, ofS, popD, deqI, deqB, deqS, deqT, deqL, deqs, deqNN, deqNT, deqTN, deqNI, deqIN, cmpb, dlt, flt, plain, plains, dep, deps, d19, e6', e9', e, x, bb, hl2, hne, Lw.hv]
end Lw

end
section
namespace Lw
open Cw
def ext1 (s : List Int) : List (List Int) := [s ++ [-1], s ++ [1]]
def ext (L : List (List Int)) : List (List Int) := L.flatMap ext1
theorem ext_len : ∀ l : List (List Int), (ext l).length = 2 * l.length
  | [] => rfl
  | s :: l => by
    have := ext_len l
    unfold ext at this ⊢
    rw [List.flatMap_cons, List.length_append, this, List.length_cons]
    simp [ext1]
    omega
theorem sgn_succ (n : Nat) : sgn (n + 1) = ext (sgn n) := rfl
theorem s28 {k : Nat} {n : Nat} {m : D} {L : List (List Int)} {R : RH} {s2 s4 : Sl} (hL : L.length ≤ 1000000) (hs : ∀ s ∈ L, s.length ≤ 1000) : ∃ s4', exec (cl k) FU d28s1 [.sh m, .sh (.lst (L.map encS)), s2, .ow (.lst []), s4] R = .ok (.nx, [.sh m, .sh (.lst (L.map encS)), s2, .ow (.lst ((ext L).map encS)), s4']) R := by
  obtain ⟨σ', R', e, s4', p, q⟩ := forL_inv (f := forF (cl k) FU (.nm 4) d28b1) (enc := encS) (xs := L) (pre := []) (σ := [.sh m, .sh (.lst (L.map encS)), s2, .ow (.lst []), s4]) (R := R)
    (fun pre σ R' => ∃ s4, σ = [.sh m, .sh (.lst (L.map encS)), s2, .ow (.lst ((ext pre).map encS)), s4] ∧ R' = R) ⟨s4, rfl, rfl⟩ (fun pre x post σ R' he ⟨s4, p, q⟩ => by
      subst p q
      have he : L = pre ++ x :: post := he
      have hx : x ∈ L := by rw [he]; simp
      have hp : pre.length ≤ 1000000 := by
        have := congrArg List.length he
        rw [List.length_append] at this
        omega
      have hz : (ext pre).length + 2 ≤ 16777216 := by rw [ext_len]; omega
      have hx2 := hs x hx
      have z : x.length + 1 ≤ 16777216 := by omega
      have ez : ext (pre ++ [x]) = ext pre ++ ext1 x := by unfold ext; rw [List.flatMap_append]; simp
      refine ⟨_, _, ?_, .sh (encS x), rfl, rfl⟩
      unfold forF
      rw [ez, List.map_append]
      simp [runD, execs, exec, sqK, ev, evs, evb, evAnd, evOr, evo, evc, evi, evis, evX, evSE, evP, setP, stk_var, stk_con, stk_tup, stk_lst, stk_bin, stk_neg, stk_cmp, stk_ch2, stk_and, stk_or, stk_not, stk_ite, stk_call, stk_blt, stk_isi, stk_meth, stk_idx, stk_slc, stk_rev, stk_lc, Res.bind, Res.of, gS, sS, Sl.val, isOw, bltD, idxD, cmpD, binD, notD, negD, isKs, isK, lenR, slcD, itmD, rngD, rngD2, setT, setTs, tgs, tgss, killS, setC, isNon, ownable, putD, augD, extD, ofS, popD, deqI, deqB, deqS, deqT, deqL, deqs, deqNN, deqNT, deqTN, deqNI, deqIN, cmpb, dlt, flt, plain, plains, dep, deps, encS, d28b1, ext1, z, hz, show PySem.sizeLine = 16777216 from rfl])
  subst p q
  exact ⟨s4', exec_forE (it := .ex (.var 1)) (R1 := R') (by simp [runD, execs, exec, sqK, ev, evs, evb, evAnd, evOr, evo, evc, evi, evis, evX, evSE, evP, setP, stk_var, stk_con, stk_tup, stk_lst, stk_bin, stk_neg, stk_cmp, stk_ch2, stk_and, stk_or, stk_not, stk_ite, stk_call, stk_blt, stk_isi, stk_meth, stk_idx, stk_slc, stk_rev, stk_lc, Res.bind, Res.of, gS, sS, Sl.val, isOw, bltD, idxD, cmpD, binD, notD, negD, isKs, isK, lenR, slcD, itmD, rngD, rngD2, setT, setTs, tgs, tgss, killS, setC, isNon, ownable, putD, augD, extD, ofS, popD, deqI, deqB, deqS, deqT, deqL, deqs, deqNN, deqNT, deqTN, deqNI, deqIN, cmpb, dlt, flt, plain, plains, dep, deps, ]) e⟩
theorem e28 {k : Nat} {n : Nat} {R : RH} (hn : n ≤ 10) : cl (k + 1) 28 [.int n] R = .ok (.lst ((sgn n).map encS)) R := by
  rw [clE (d := d28) rfl]
  obtain ⟨σ', R', e, s2, s3, s4, p, q⟩ := forL_inv (f := forF (cl k) FU (.nm 2) d28b0) (enc := D.int) (xs := ir 0 n) (pre := []) (σ := [.sh (.int n), .sh (.lst ((sgn 0).map encS)), .no, .no, .no]) (R := R)
    (fun pre σ R' => ∃ s2 s3 s4, σ = [.sh (.int n), .sh (.lst ((sgn pre.length).map encS)), s2, s3, s4] ∧ R' = R) ⟨.no, .no, .no, rfl, rfl⟩ (fun pre x post σ R' he ⟨s2, s3, s4, p, q⟩ => by
      subst p q
      have hp : pre.length ≤ 10 := by
        have := congrArg List.length he
        rw [List.nil_append, List.length_append] at this
        simp [ir] at this
        omega
      obtain ⟨g1, g2⟩ := sgn_len pre.length
      have hpow : 2 ^ pre.length ≤ 1024 := Nat.pow_le_pow_right (by decide) hp
      obtain ⟨s4', e⟩ := s28 (k := k) (n := n) (m := .int n) (L := sgn pre.length) (R := R') (s2 := .sh (.int x)) (s4 := s4) (by omega) (fun s hs => by have := (g2 s hs).1; omega)
      refine ⟨_, _, ?_, .sh (.int x), .sh (.lst ((ext (sgn pre.length)).map encS)), s4', rfl, rfl⟩
      rw [List.length_append, List.length_singleton, sgn_succ]
      unfold forF
      simp [runD, execs, exec, sqK, ev, evs, evb, evAnd, evOr, evo, evc, evi, evis, evX, evSE, evP, setP, stk_var, stk_con, stk_tup, stk_lst, stk_bin, stk_neg, stk_cmp, stk_ch2, stk_and, stk_or, stk_not, stk_ite, stk_call, stk_blt, stk_isi, stk_meth, stk_idx, stk_slc, stk_rev, stk_lc, Res.bind, Res.of, gS, sS, Sl.val, isOw, bltD, idxD, cmpD, binD, notD, negD, isKs, isK, lenR, slcD, itmD, rngD, rngD2, setT, setTs, tgs, tgss, killS, setC, isNon, ownable, putD, augD, extD, ofS, popD, deqI, deqB, deqS, deqT, deqL, deqs, deqNN, deqNT, deqTN, deqNI, deqIN, cmpb, dlt, flt, plain, plains, dep, deps, d28b0, e, escS])
  subst p q
  have e : exec (cl k) FU d28s0 _ R' = _ := exec_forE (it := .rng (.var 0)) (R1 := R') (by
    rw [← rngI_ir]
    have c1 : (n : Int) ≤ 16777216 := by omega
    have c2 : -4611686018427387904 ≤ (n : Int) := by omega
    simp [runD, execs, exec, sqK, ev, evs, evb, evAnd, evOr, evo, evc, evi, evis, evX, evSE, evP, setP, stk_var, stk_con, stk_tup, stk_lst, stk_bin, stk_neg, stk_cmp, stk_ch2, stk_and, stk_or, stk_not, stk_ite, stk_call, stk_blt, stk_isi, stk_meth, stk_idx, stk_slc, stk_rev, stk_lc, Res.bind, Res.of, gS, sS, Sl.val, isOw, bltD, idxD, cmpD, binD, notD, negD, isKs, isK, lenR, slcD, itmD, rngD, rngD2, setT, setTs, tgs, tgss, killS, setC, isNon, ownable, putD, augD, extD, ofS, popD, deqI, deqB, deqS, deqT, deqL, deqs, deqNN, deqNT, deqTN, deqNI, deqIN, cmpb, dlt, flt, plain, plains, dep, deps, c1, c2, show PySem.sizeLine = 16777216 from rfl]) e
  have hl : (ir 0 n).length = n := by simp [ir]
  simp only [sgn, List.map_cons, List.map_nil, encS, List.nil_append, hl] at e
  simp [runD, execs, exec, sqK, ev, evs, evb, evAnd, evOr, evo, evc, evi, evis, evX, evSE, evP, setP, stk_var, stk_con, stk_tup, stk_lst, stk_bin, stk_neg, stk_cmp, stk_ch2, stk_and, stk_or, stk_not, stk_ite, stk_call, stk_blt, stk_isi, stk_meth, stk_idx, stk_slc, stk_rev, stk_lc, Res.bind, Res.of, gS, sS, Sl.val, isOw, bltD, idxD, cmpD, binD, notD, negD, isKs, isK, lenR, slcD, itmD, rngD, rngD2, setT, setTs, tgs, tgss, killS, setC, isNon, ownable, putD, augD, extD, ofS, popD, deqI, deqB, deqS, deqT, deqL, deqs, deqNN, deqNT, deqTN, deqNI, deqIN, cmpb, dlt, flt, plain, plains, dep, deps, d28, e, encS]
end Lw

end
section
namespace Lw
open Cw
theorem cut_map {α β : Type} (f : α → β) (l : List α) (lo hi : Option Int) : cut (l.map f) lo hi = (cut l lo hi).map f := by
  unfold cut
  rw [List.length_map, List.map_take, List.map_drop]
theorem fm_int2 {c : Int → Bool} {f : Int → Int} : ∀ l : List Int, l.filterMap (fun p => if c p = true then some (D.int (f p)) else none) = ((l.filter c).map f).map D.int
  | [] => rfl
  | p :: l => by
    rw [List.filterMap_cons, fm_int2 l, List.filter_cons]
    cases c p <;> simp
theorem e20 {k : Nat} {ns : List Int} : ∃ R', cl (k + 1) 20 [.frz (ns.map D.int)] [] = .ok (.ref 1) R' ∧ VB R' := by
  have ea : ∀ x : Int, (if x < 0 then -x else x) = (x.natAbs : Int) := fun x => by omega
  have cp : L2.CPow 10 18 := ⟨by decide, by decide, by decide⟩
  have x : ev (cl k) d20x0 [.sh (.frz (ns.map D.int)), .no, .no, .no] [] = .ok (.lst ((((cut ns none (some 63)).filter fun p => decide (10 ^ 18 ≤ (p.natAbs : Int))).map fun p => (p.natAbs : Int)).map D.int)) [] := by
    rw [← fm_int2]
    refine ev_lcE (ds := (cut ns none (some 63)).map D.int) (R1 := []) (by simp [runD, execs, exec, sqK, ev, evs, evb, evAnd, evOr, evo, evc, evi, evis, evX, evSE, evP, setP, stk_var, stk_con, stk_tup, stk_lst, stk_bin, stk_neg, stk_cmp, stk_ch2, stk_and, stk_or, stk_not, stk_ite, stk_call, stk_blt, stk_isi, stk_meth, stk_idx, stk_slc, stk_rev, stk_lc, Res.bind, Res.of, gS, sS, Sl.val, isOw, bltD, idxD, cmpD, binD, notD, negD, isKs, isK, lenR, slcD, itmD, rngD, rngD2, setT, setTs, tgs, tgss, killS, setC, isNon, ownable, putD, augD, extD, ofS, popD, deqI, deqB, deqS, deqT, deqL, deqs, deqNN, deqNT, deqTN, deqNI, deqIN, cmpb, dlt, flt, plain, plains, dep, deps, cut_map]) (lcL_fm fun p hp => ?_)
    unfold lcF
    by_cases q : 10 ^ 18 ≤ (p.natAbs : Int)
    · have q' : (1000000000000000000 : Int) ≤ (p.natAbs : Int) := q
      simp [runD, execs, exec, sqK, ev, evs, evb, evAnd, evOr, evo, evc, evi, evis, evX, evSE, evP, setP, stk_var, stk_con, stk_tup, stk_lst, stk_bin, stk_neg, stk_cmp, stk_ch2, stk_and, stk_or, stk_not, stk_ite, stk_call, stk_blt, stk_isi, stk_meth, stk_idx, stk_slc, stk_rev, stk_lc, Res.bind, Res.of, gS, sS, Sl.val, isOw, bltD, idxD, cmpD, binD, notD, negD, isKs, isK, lenR, slcD, itmD, rngD, rngD2, setT, setTs, tgs, tgss, killS, setC, isNon, ownable, putD, augD, extD, ofS, popD, deqI, deqB, deqS, deqT, deqL, deqs, deqNN, deqNT, deqTN, deqNI, deqIN, cmpb, dlt, flt, plain, plains, dep, deps, ea, cp, q']
    · have q' : ¬ (1000000000000000000 : Int) ≤ (p.natAbs : Int) := q
      simp [runD, execs, exec, sqK, ev, evs, evb, evAnd, evOr, evo, evc, evi, evis, evX, evSE, evP, setP, stk_var, stk_con, stk_tup, stk_lst, stk_bin, stk_neg, stk_cmp, stk_ch2, stk_and, stk_or, stk_not, stk_ite, stk_call, stk_blt, stk_isi, stk_meth, stk_idx, stk_slc, stk_rev, stk_lc, Res.bind, Res.of, gS, sS, Sl.val, isOw, bltD, idxD, cmpD, binD, notD, negD, isKs, isK, lenR, slcD, itmD, rngD, rngD2, setT, setTs, tgs, tgss, killS, setC, isNon, ownable, putD, augD, extD, ofS, popD, deqI, deqB, deqS, deqT, deqL, deqs, deqNN, deqNT, deqTN, deqNI, deqIN, cmpb, dlt, flt, plain, plains, dep, deps, ea, cp, q']
  generalize ((cut ns none (some 63)).filter fun p => decide (10 ^ 18 ≤ (p.natAbs : Int))).map (fun p => (p.natAbs : Int)) = g at x
  have mk2 : ∀ x, L2.CMul x 69621 := fun x => .inr ⟨by decide, by decide⟩
  have mk3 : ∀ x, L2.CMul x 2 := fun x => .inr ⟨by decide, by decide⟩
  obtain ⟨σ', R', e, s, c, p, q⟩ := forL_inv (f := forF (cl k) FU (.nm 3) d20b0) (enc := D.int) (xs := cut ns none (some 63)) (pre := []) (σ := [.sh (.frz (ns.map D.int)), .sh (.ref 0), .sh (.int 4914), .no]) (R := [g.map D.int])
    (fun pre σ R' => ∃ (s : Int) (c : Sl), σ = [.sh (.frz (ns.map D.int)), .sh (.ref 0), .sh (.int s), c] ∧ R' = [g.map D.int]) ⟨4914, .no, rfl, rfl⟩ (fun pre x post σ R' he ⟨s, c, p, q⟩ => by
      subst p q
      unfold forF
      by_cases q : x < 0
      · exact ⟨_, _, by simp [runD, execs, exec, sqK, ev, evs, evb, evAnd, evOr, evo, evc, evi, evis, evX, evSE, evP, setP, stk_var, stk_con, stk_tup, stk_lst, stk_bin, stk_neg, stk_cmp, stk_ch2, stk_and, stk_or, stk_not, stk_ite, stk_call, stk_blt, stk_isi, stk_meth, stk_idx, stk_slc, stk_rev, stk_lc, Res.bind, Res.of, gS, sS, Sl.val, isOw, bltD, idxD, cmpD, binD, notD, negD, isKs, isK, lenR, slcD, itmD, rngD, rngD2, setT, setTs, tgs, tgss, killS, setC, isNon, ownable, putD, augD, extD, ofS, popD, deqI, deqB, deqS, deqT, deqL, deqs, deqNN, deqNT, deqTN, deqNI, deqIN, cmpb, dlt, flt, plain, plains, dep, deps, d20b0, ea, mk2, mk3, q]; exact ⟨rfl, rfl⟩, _, _, rfl, rfl⟩
      · exact ⟨_, _, by simp [runD, execs, exec, sqK, ev, evs, evb, evAnd, evOr, evo, evc, evi, evis, evX, evSE, evP, setP, stk_var, stk_con, stk_tup, stk_lst, stk_bin, stk_neg, stk_cmp, stk_ch2, stk_and, stk_or, stk_not, stk_ite, stk_call, stk_blt, stk_isi, stk_meth, stk_idx, stk_slc, stk_rev, stk_lc, Res.bind, Res.of, gS, sS, Sl.val, isOw, bltD, idxD, cmpD, binD, notD, negD, isKs, isK, lenR, slcD, itmD, rngD, rngD2, setT, setTs, tgs, tgss, killS, setC, isNon, ownable, putD, augD, extD, ofS, popD, deqI, deqB, deqS, deqT, deqL, deqs, deqNN, deqNT, deqTN, deqNI, deqIN, cmpb, dlt, flt, plain, plains, dep, deps, d20b0, ea, mk2, mk3, q]; exact ⟨rfl, rfl⟩, _, _, rfl, rfl⟩)
  subst p q
  have e : exec (cl k) FU d20s0 _ [g.map D.int] = _ := exec_forE (it := .ex (.slc (.var 0) .no (.so (.con (.int 63))))) (R1 := [g.map D.int]) (by simp [runD, execs, exec, sqK, ev, evs, evb, evAnd, evOr, evo, evc, evi, evis, evX, evSE, evP, setP, stk_var, stk_con, stk_tup, stk_lst, stk_bin, stk_neg, stk_cmp, stk_ch2, stk_and, stk_or, stk_not, stk_ite, stk_call, stk_blt, stk_isi, stk_meth, stk_idx, stk_slc, stk_rev, stk_lc, Res.bind, Res.of, gS, sS, Sl.val, isOw, bltD, idxD, cmpD, binD, notD, negD, isKs, isK, lenR, slcD, itmD, rngD, rngD2, setT, setTs, tgs, tgss, killS, setC, isNon, ownable, putD, augD, extD, ofS, popD, deqI, deqB, deqS, deqT, deqL, deqs, deqNN, deqNT, deqTN, deqNI, deqIN, cmpb, dlt, flt, plain, plains, dep, deps, cut_map]) e
  refine ⟨_, ?_, g, s, ns.length, 0, rfl⟩
  rw [clE (d := d20) rfl]
  simp [runD, execs, exec, sqK, ev, evs, evb, evAnd, evOr, evo, evc, evi, evis, evX, evSE, evP, setP, stk_var, stk_con, stk_tup, stk_lst, stk_bin, stk_neg, stk_cmp, stk_ch2, stk_and, stk_or, stk_not, stk_ite, stk_call, stk_blt, stk_isi, stk_meth, stk_idx, stk_slc, stk_rev, stk_lc, Res.bind, Res.of, gS, sS, Sl.val, isOw, bltD, idxD, cmpD, binD, notD, negD, isKs, isK, lenR, slcD, itmD, rngD, rngD2, setT, setTs, tgs, tgss, killS, setC, isNon, ownable, putD, augD, extD, ofS, popD, deqI, deqB, deqS, deqT, deqL, deqs, deqNN, deqNT, deqTN, deqNI, deqIN, cmpb, dlt, flt, plain, plains, dep, deps, d20, x, e, bagR]
/-! signs that balance, the law's own -/
theorem zip_dot : ∀ {s : List Int} {ls : List Ld}, (zipL (s.map D.int) (ls.map encL)) = (s.zip ls).map fun p => .tup [.int p.1, encL p.2]
  | [], _ => rfl
  | _ :: _, [] => rfl
  | a :: s, l :: ls => by
    rw [List.map_cons, List.map_cons, zipL, zip_dot, List.zip_cons_cons, List.map_cons]
theorem dot_zip : ∀ (s : List Int) (ls : List Ld), ((s.zip ls).map fun p => p.1 * p.2.1 * p.2.2).sum = dot s ls
  | [], _ => rfl
  | _ :: _, [] => rfl
  | a :: s, l :: ls => by
    have := dot_zip s ls
    unfold dot at this ⊢
    rw [List.zip_cons_cons, List.map_cons, List.sum_cons, this, List.zipWith_cons_cons, List.sum_cons]
theorem x30 {k : Nat} {n : Int} {ls : List Ld} {s : List Int} {R : RH} (h : Bm n ls) (hs : ∀ x ∈ s, x.natAbs ≤ 1) {a b c d e f g i j l : Sl} :
    ev (cl k) d30x0 [a, b, .sh (encLs ls), c, d, e, f, .sh (encS s), g, i, .no, j, .no, l, .no] R = .ok (.lst ((s.zip ls).map fun p => .int (p.1 * p.2.1 * p.2.2))) R := by
  refine ev_lcE (ds := (s.zip ls).map fun p => .tup [.int p.1, encL p.2]) (R1 := R) (by
    rw [← zip_dot]
    simp [runD, execs, exec, sqK, ev, evs, evb, evAnd, evOr, evo, evc, evi, evis, evX, evSE, evP, setP, stk_var, stk_con, stk_tup, stk_lst, stk_bin, stk_neg, stk_cmp, stk_ch2, stk_and, stk_or, stk_not, stk_ite, stk_call, stk_blt, stk_isi, stk_meth, stk_idx, stk_slc, stk_rev, stk_lc, Res.bind, Res.of, gS, sS, Sl.val, isOw, bltD, idxD, cmpD, binD, notD, negD, isKs, isK, lenR, slcD, itmD, rngD, rngD2, setT, setTs, tgs, tgss, killS, setC, isNon, ownable, putD, augD, extD, ofS, popD, deqI, deqB, deqS, deqT, deqL, deqs, deqNN, deqNT, deqTN, deqNI, deqIN, cmpb, dlt, flt, plain, plains, dep, deps, encS, encLs]) (lcL_map (enc := fun p : Int × Ld => D.tup [.int p.1, encL p.2]) fun p hp => ?_)
  obtain ⟨p1, p2⟩ := p
  obtain ⟨m1, m2⟩ := List.of_mem_zip hp
  have b1 := hs _ m1
  obtain ⟨a1, a2, _⟩ := h.at m2
  have hn := h.n2
  have c1 : L2.CMul p1 p2.1 := mulOk (by omega)
  have c2 : L2.CMul (p1 * p2.1) p2.2 := mulOk (by rw [Int.natAbs_mul]; exact Nat.le_trans (Nat.mul_le_mul b1 (show p2.1.natAbs ≤ 100 by omega)) (by decide))
  unfold lcF
  simp [runD, execs, exec, sqK, ev, evs, evb, evAnd, evOr, evo, evc, evi, evis, evX, evSE, evP, setP, stk_var, stk_con, stk_tup, stk_lst, stk_bin, stk_neg, stk_cmp, stk_ch2, stk_and, stk_or, stk_not, stk_ite, stk_call, stk_blt, stk_isi, stk_meth, stk_idx, stk_slc, stk_rev, stk_lc, Res.bind, Res.of, gS, sS, Sl.val, isOw, bltD, idxD, cmpD, binD, notD, negD, isKs, isK, lenR, slcD, itmD, rngD, rngD2, setT, setTs, tgs, tgss, killS, setC, isNon, ownable, putD, augD, extD, ofS, popD, deqI, deqB, deqS, deqT, deqL, deqs, deqNN, deqNT, deqTN, deqNI, deqIN, cmpb, dlt, flt, plain, plains, dep, deps, encL, c1, c2]
end Lw

end
section
namespace Lw
open Cw
def sel (ls : List Ld) (L : List (List Int)) : List (List Int) := L.filter fun s => decide (dot s ls = 0)
theorem sel_snoc (ls : List Ld) (L : List (List Int)) (s : List Int) : sel ls (L ++ [s]) = if dot s ls = 0 then sel ls L ++ [s] else sel ls L := by
  unfold sel
  rw [List.filter_append]
  by_cases h : dot s ls = 0 <;> simp [h]
theorem s30 {k : Nat} {n : Int} {ls : List Ld} {R : RH} (h : Bm n ls) {a b c d e f : Sl} : ∃ s7, exec (cl (k + 1)) FU d30s0 [a, b, .sh (encLs ls), c, d, e, .ow (.lst []), .no, .no, .no, .no, .no, .no, .no, .no] R = .ok (.nx, [a, b, .sh (encLs ls), c, d, e, .ow (.lst ((zeros ls).map encS)), s7, .no, .no, .no, .no, .no, .no, .no]) R := by
  rw [zeros_eq]
  obtain ⟨g1, g2⟩ := sgn_len ls.length
  have hlen := h.len
  have hpow : 2 ^ ls.length ≤ 1024 := Nat.pow_le_pow_right (by decide) hlen
  obtain ⟨σ', R', e', s7, p, q⟩ := forL_inv (f := forF (cl (k + 1)) FU (.nm 7) d30b0) (enc := encS) (xs := sgn ls.length) (pre := []) (σ := [a, b, .sh (encLs ls), c, d, e, .ow (.lst []), .no, .no, .no, .no, .no, .no, .no, .no]) (R := R)
    (fun pre σ R' => ∃ s7, σ = [a, b, .sh (encLs ls), c, d, e, .ow (.lst ((sel ls pre).map encS)), s7, .no, .no, .no, .no, .no, .no, .no] ∧ R' = R) ⟨.no, rfl, rfl⟩ (fun pre x post σ R' he ⟨s7, p, q⟩ => by
      subst p q
      have he : sgn ls.length = pre ++ x :: post := he
      have hx : x ∈ sgn ls.length := by rw [he]; simp
      have hp : pre.length ≤ 1024 := by
        have := congrArg List.length he
        rw [List.length_append] at this
        omega
      have hsl : (sel ls pre).length < 16777216 := by
        have := List.length_filter_le (fun s => decide (dot s ls = 0)) pre
        unfold sel
        omega
      have xx := x30 (k := k + 1) (n := n) (ls := ls) (s := x) (R := R') h (g2 x hx).2 (a := a) (b := b) (c := c) (d := d) (e := e) (f := .ow (.lst ((sel ls pre).map encS))) (g := .no) (i := .no) (j := .no) (l := .no)
      have bb := intsD_mapf (fun p : Int × Ld => p.1 * p.2.1 * p.2.2) (x.zip ls)
      have dd := dot_zip x ls
      refine ⟨_, _, ?_, .sh (encS x), rfl, rfl⟩
      rw [sel_snoc]
      unfold forF
      by_cases q : dot x ls = 0
      · rw [if_pos q]
        rw [q] at dd
        simp [runD, execs, exec, sqK, ev, evs, evb, evAnd, evOr, evo, evc, evi, evis, evX, evSE, evP, setP, stk_var, stk_con, stk_tup, stk_lst, stk_bin, stk_neg, stk_cmp, stk_ch2, stk_and, stk_or, stk_not, stk_ite, stk_call, stk_blt, stk_isi, stk_meth, stk_idx, stk_slc, stk_rev, stk_lc, Res.bind, Res.of, gS, sS, Sl.val, isOw, bltD, idxD, cmpD, binD, notD, negD, isKs, isK, lenR, slcD, itmD, rngD, rngD2, setT, setTs, tgs, tgss, killS, setC, isNon, ownable, putD, augD, extD, ofS, popD, deqI, deqB, deqS, deqT, deqL, deqs, deqNN, deqNT, deqTN, deqNI, deqIN, cmpb, dlt, flt, plain, plains, dep, deps, d30b0, xx, bb, dd, hsl, show PySem.sizeLine = 16777216 from rfl]
      · rw [if_neg q]
        simp [runD, execs, exec, sqK, ev, evs, evb, evAnd, evOr, evo, evc, evi, evis, evX, evSE, evP, setP, stk_var, stk_con, stk_tup, stk_lst, stk_bin, stk_neg, stk_cmp, stk_ch2, stk_and, stk_or, stk_not, stk_ite, stk_call, stk_blt, stk_isi, stk_meth, stk_idx, stk_slc, stk_rev, stk_lc, Res.bind, Res.of, gS, sS, Sl.val, isOw, bltD, idxD, cmpD, binD, notD, negD, isKs, isK, lenR, slcD, itmD, rngD, rngD2, setT, setTs, tgs, tgss, killS, setC, isNon, ownable, putD, augD, extD, ofS, popD, deqI, deqB, deqS, deqT, deqL, deqs, deqNN, deqNT, deqTN, deqNI, deqIN, cmpb, dlt, flt, plain, plains, dep, deps, d30b0, xx, bb, dd, q])
  subst p q
  exact ⟨s7, exec_forE (it := .ex (.call 28 (.cons (.blt .len (.cons (.var 2) .nil)) .nil))) (R1 := R') (by
    have := e28 (k := k) (n := ls.length) (R := R') hlen
    simp [runD, execs, exec, sqK, ev, evs, evb, evAnd, evOr, evo, evc, evi, evis, evX, evSE, evP, setP, stk_var, stk_con, stk_tup, stk_lst, stk_bin, stk_neg, stk_cmp, stk_ch2, stk_and, stk_or, stk_not, stk_ite, stk_call, stk_blt, stk_isi, stk_meth, stk_idx, stk_slc, stk_rev, stk_lc, Res.bind, Res.of, gS, sS, Sl.val, isOw, bltD, idxD, cmpD, binD, notD, negD, isKs, isK, lenR, slcD, itmD, rngD, rngD2, setT, setTs, tgs, tgss, killS, setC, isNon, ownable, putD, augD, extD, ofS, popD, deqI, deqB, deqS, deqT, deqL, deqs, deqNN, deqNT, deqTN, deqNI, deqIN, cmpb, dlt, flt, plain, plains, dep, deps, encLs, this]) e'⟩
theorem x30b {k : Nat} {n m w b : Int} {R : RH} (h1 : 0 ≤ n) (h2 : n ≤ 100) {a1 a2 a3 a4 a5 a6 a7 a8 a9 : Sl} : ev (cl k) d30x1 [a1, .sh (.int n), a2, .sh (.int m), .sh (.int w), a3, a4, a5, .sh (.int b), .no, .no, .no, .no, .no, .no] R = .ok (.lst ((safeL n m w b).map D.int)) R := by
  unfold safeL
  rw [← fm_int]
  have e : ∀ x : Int, (if x < 0 then -x else x) = (x.natAbs : Int) := fun x => by omega
  have z : PySem.sizeLine = 16777216 := rfl
  refine ev_lcE (ds := (ir (-n) (n + 1 - -n).toNat).map D.int) (R1 := R) (by
    rw [← rngI_ir]
    have c1 : -2305843009213693952 ≤ -n ∧ -n ≤ 2305843009213693952 := by omega
    have c2 : -2305843009213693952 ≤ n + 1 ∧ n + 1 ≤ 2305843009213693952 := by omega
    have c3 : n + 1 + n ≤ 16777216 := by omega
    simp [runD, execs, exec, sqK, ev, evs, evb, evAnd, evOr, evo, evc, evi, evis, evX, evSE, evP, setP, stk_var, stk_con, stk_tup, stk_lst, stk_bin, stk_neg, stk_cmp, stk_ch2, stk_and, stk_or, stk_not, stk_ite, stk_call, stk_blt, stk_isi, stk_meth, stk_idx, stk_slc, stk_rev, stk_lc, Res.bind, Res.of, gS, sS, Sl.val, isOw, bltD, idxD, cmpD, binD, notD, negD, isKs, isK, lenR, slcD, itmD, rngD, rngD2, setT, setTs, tgs, tgss, killS, setC, isNon, ownable, putD, augD, extD, ofS, popD, deqI, deqB, deqS, deqT, deqL, deqs, deqNN, deqNT, deqTN, deqNI, deqIN, cmpb, dlt, flt, plain, plains, dep, deps, z, c1.1, c1.2, c2.1, c2.2, c3]) (lcL_fm fun p hp => ?_)
  obtain ⟨g1, g2⟩ := mem_ir.mp hp
  have c : L2.CMul p w := mulOk (by omega)
  unfold lcF
  by_cases q : (m + p * w).natAbs ≤ b <;> simp [runD, execs, exec, sqK, ev, evs, evb, evAnd, evOr, evo, evc, evi, evis, evX, evSE, evP, setP, stk_var, stk_con, stk_tup, stk_lst, stk_bin, stk_neg, stk_cmp, stk_ch2, stk_and, stk_or, stk_not, stk_ite, stk_call, stk_blt, stk_isi, stk_meth, stk_idx, stk_slc, stk_rev, stk_lc, Res.bind, Res.of, gS, sS, Sl.val, isOw, bltD, idxD, cmpD, binD, notD, negD, isKs, isK, lenR, slcD, itmD, rngD, rngD2, setT, setTs, tgs, tgss, killS, setC, isNon, ownable, putD, augD, extD, ofS, popD, deqI, deqB, deqS, deqT, deqL, deqs, deqNN, deqNT, deqTN, deqNI, deqIN, cmpb, dlt, flt, plain, plains, dep, deps, c, e, q]
theorem x30c {k : Nat} {ls : List Ld} {R : RH} {a1 a2 a3 a4 a5 a6 a7 a8 a9 : Sl} : ev (cl k) d30x2 [a1, a2, .sh (encLs ls), a3, a4, a5, a6, a7, a8, a9, .no, .no, .no, .no, .no] R = .ok (.lst (ls.map fun l => .int l.2)) R := by
  refine ev_lcE (ds := ls.map encL) (R1 := R) (by simp [runD, execs, exec, sqK, ev, evs, evb, evAnd, evOr, evo, evc, evi, evis, evX, evSE, evP, setP, stk_var, stk_con, stk_tup, stk_lst, stk_bin, stk_neg, stk_cmp, stk_ch2, stk_and, stk_or, stk_not, stk_ite, stk_call, stk_blt, stk_isi, stk_meth, stk_idx, stk_slc, stk_rev, stk_lc, Res.bind, Res.of, gS, sS, Sl.val, isOw, bltD, idxD, cmpD, binD, notD, negD, isKs, isK, lenR, slcD, itmD, rngD, rngD2, setT, setTs, tgs, tgss, killS, setC, isNon, ownable, putD, augD, extD, ofS, popD, deqI, deqB, deqS, deqT, deqL, deqs, deqNN, deqNT, deqTN, deqNI, deqIN, cmpb, dlt, flt, plain, plains, dep, deps, encLs]) (lcL_map fun l hl => ?_)
  unfold lcF
  simp [runD, execs, exec, sqK, ev, evs, evb, evAnd, evOr, evo, evc, evi, evis, evX, evSE, evP, setP, stk_var, stk_con, stk_tup, stk_lst, stk_bin, stk_neg, stk_cmp, stk_ch2, stk_and, stk_or, stk_not, stk_ite, stk_call, stk_blt, stk_isi, stk_meth, stk_idx, stk_slc, stk_rev, stk_lc, Res.bind, Res.of, gS, sS, Sl.val, isOw, bltD, idxD, cmpD, binD, notD, negD, isKs, isK, lenR, slcD, itmD, rngD, rngD2, setT, setTs, tgs, tgss, killS, setC, isNon, ownable, putD, augD, extD, ofS, popD, deqI, deqB, deqS, deqT, deqL, deqs, deqNN, deqNT, deqTN, deqNI, deqIN, cmpb, dlt, flt, plain, plains, dep, deps, encL]
end Lw

end
section
namespace Lw
open Cw
section
variable {k : Nat} {n : Int} {ls : List Ld} {R : RH} {s0 s1 s3 s4 s5 s6 s7 s8 s9 s10 s11 : Sl}
theorem so1 : PySem.PyData.strOk (PySem.Str.ofString "even") = true := by decide +kernel
theorem so2 : PySem.PyData.strOk (PySem.Str.ofString "left") = true := by decide +kernel
theorem so3 : PySem.PyData.strOk (PySem.Str.ofString "right") = true := by decide +kernel
theorem t2 (h : Bm n ls) : exec (cl (k + 6)) FU d30t2 [s0, .sh (.int n), .sh (encLs ls), .sh (.int (mom ls)), s4, s5, s6, s7, s8, s9, s10, s11, .no, .no, .no] R = .ok (.nx, [s0, .sh (.int n), .sh (encLs ls), .sh (.int (mom ls)), s4, s5, s6, s7, s8, s9, s10, s11, .no, .no, .no]) R := by
  have e := e11 (k := k) (R := R) h
  unfold sideS at e
  by_cases h0 : mom ls = 0
  · simp only [h0, if_true] at e ⊢
    simp [runD, execs, exec, sqK, ev, evs, evb, evAnd, evOr, evo, evc, evi, evis, evX, evSE, evP, setP, stk_var, stk_con, stk_tup, stk_lst, stk_bin, stk_neg, stk_cmp, stk_ch2, stk_and, stk_or, stk_not, stk_ite, stk_call, stk_blt, stk_isi, stk_meth, stk_idx, stk_slc, stk_rev, stk_lc, Res.bind, Res.of, gS, sS, Sl.val, isOw, bltD, idxD, cmpD, binD, notD, negD, isKs, isK, lenR, slcD, itmD, rngD, rngD2, setT, setTs, tgs, tgss, killS, setC, isNon, ownable, putD, augD, extD, ofS, popD, deqI, deqB, deqS, deqT, deqL, deqs, deqNN, deqNT, deqTN, deqNI, deqIN, cmpb, dlt, flt, plain, plains, dep, deps, d30t2, e, so1]
  · by_cases h1 : mom ls < 0
    · rw [if_neg h0, if_pos h1] at e
      simp [runD, execs, exec, sqK, ev, evs, evb, evAnd, evOr, evo, evc, evi, evis, evX, evSE, evP, setP, stk_var, stk_con, stk_tup, stk_lst, stk_bin, stk_neg, stk_cmp, stk_ch2, stk_and, stk_or, stk_not, stk_ite, stk_call, stk_blt, stk_isi, stk_meth, stk_idx, stk_slc, stk_rev, stk_lc, Res.bind, Res.of, gS, sS, Sl.val, isOw, bltD, idxD, cmpD, binD, notD, negD, isKs, isK, lenR, slcD, itmD, rngD, rngD2, setT, setTs, tgs, tgss, killS, setC, isNon, ownable, putD, augD, extD, ofS, popD, deqI, deqB, deqS, deqT, deqL, deqs, deqNN, deqNT, deqTN, deqNI, deqIN, cmpb, dlt, flt, plain, plains, dep, deps, d30t2, e, h0, h1, so2, so3]
    · rw [if_neg h0, if_neg h1] at e
      simp [runD, execs, exec, sqK, ev, evs, evb, evAnd, evOr, evo, evc, evi, evis, evX, evSE, evP, setP, stk_var, stk_con, stk_tup, stk_lst, stk_bin, stk_neg, stk_cmp, stk_ch2, stk_and, stk_or, stk_not, stk_ite, stk_call, stk_blt, stk_isi, stk_meth, stk_idx, stk_slc, stk_rev, stk_lc, Res.bind, Res.of, gS, sS, Sl.val, isOw, bltD, idxD, cmpD, binD, notD, negD, isKs, isK, lenR, slcD, itmD, rngD, rngD2, setT, setTs, tgs, tgss, killS, setC, isNon, ownable, putD, augD, extD, ofS, popD, deqI, deqB, deqS, deqT, deqL, deqs, deqNN, deqNT, deqTN, deqNI, deqIN, cmpb, dlt, flt, plain, plains, dep, deps, d30t2, e, h0, h1, so2, so3]
theorem t5 (h : Bm n ls) {w : Int} (h1 : 1 ≤ w) (h2 : w ≤ 1000) : exec (cl (k + 6)) FU d30t5 [s0, .sh (.int n), .sh (encLs ls), s3, .sh (.int w), .sh (encL (frac (-mom ls) w)), s6, s7, s8, s9, s10, s11, .no, .no, .no] R = .ok (.nx, [s0, .sh (.int n), .sh (encLs ls), s3, .sh (.int w), .sh (encL (frac (-mom ls) w)), s6, s7, s8, s9, s10, s11, .no, .no, .no]) R := by
  have e := e13 (k := k) (R := R) h h1 h2
  have ea : ∀ x : Int, (if x < 0 then -x else x) = (x.natAbs : Int) := fun x => by omega
  have n1 := h.n1
  have n2 := h.n2
  generalize frac (-mom ls) w = f at e ⊢
  have i0 : L2.atI [D.int f.1, D.int f.2] 0 = some (.int f.1) := rfl
  have i1 : L2.atI [D.int f.1, D.int f.2] 1 = some (.int f.2) := rfl
  have c : L2.CMul n f.2 := mulOk (by omega)
  have ho : onB n f = decide ((f.1.natAbs : Int) ≤ n * f.2) := by
    unfold onB
    rw [← Bool.decide_and, decide_eq_decide, Int.neg_mul]
    omega
  rw [ho] at e
  unfold orN at e
  unfold encL at e ⊢
  by_cases q : (f.1.natAbs : Int) ≤ n * f.2
  · simp only [q, decide_true, if_true] at e
    simp [runD, execs, exec, sqK, ev, evs, evb, evAnd, evOr, evo, evc, evi, evis, evX, evSE, evP, setP, stk_var, stk_con, stk_tup, stk_lst, stk_bin, stk_neg, stk_cmp, stk_ch2, stk_and, stk_or, stk_not, stk_ite, stk_call, stk_blt, stk_isi, stk_meth, stk_idx, stk_slc, stk_rev, stk_lc, Res.bind, Res.of, gS, sS, Sl.val, isOw, bltD, idxD, cmpD, binD, notD, negD, isKs, isK, lenR, slcD, itmD, rngD, rngD2, setT, setTs, tgs, tgss, killS, setC, isNon, ownable, putD, augD, extD, ofS, popD, deqI, deqB, deqS, deqT, deqL, deqs, deqNN, deqNT, deqTN, deqNI, deqIN, cmpb, dlt, flt, plain, plains, dep, deps, d30t5, e, ea, i0, i1, c, q]
  · simp only [q, decide_false, Bool.false_eq_true, if_false] at e
    simp [runD, execs, exec, sqK, ev, evs, evb, evAnd, evOr, evo, evc, evi, evis, evX, evSE, evP, setP, stk_var, stk_con, stk_tup, stk_lst, stk_bin, stk_neg, stk_cmp, stk_ch2, stk_and, stk_or, stk_not, stk_ite, stk_call, stk_blt, stk_isi, stk_meth, stk_idx, stk_slc, stk_rev, stk_lc, Res.bind, Res.of, gS, sS, Sl.val, isOw, bltD, idxD, cmpD, binD, notD, negD, isKs, isK, lenR, slcD, itmD, rngD, rngD2, setT, setTs, tgs, tgss, killS, setC, isNon, ownable, putD, augD, extD, ofS, popD, deqI, deqB, deqS, deqT, deqL, deqs, deqNN, deqNT, deqTN, deqNI, deqIN, cmpb, dlt, flt, plain, plains, dep, deps, d30t5, e, ea, i0, i1, c, q]
theorem ne_self {v : D} (h1 : plain v = true) (h2 : dep v ≤ 60) : plain v = true ∧ dep v ≤ 60 ∧ deq v v = true := ⟨h1, h2, deq_refl v h1⟩
theorem t6 (h : Bm n ls) : exec (cl (k + 6)) FU d30t6 [s0, .sh (.int n), .sh (encLs ls), .sh (.int (mom ls)), s4, s5, s6, s7, s8, s9, s10, s11, .no, .no, .no] R = .ok (.nx, [s0, .sh (.int n), .sh (encLs ls), .sh (.int (mom ls)), s4, s5, s6, s7, s8, s9, s10, s11, .no, .no, .no]) R := by
  have e := e14 (k := k) (R := R) h
  have e2 := e29 (k := k + 5) (n := n) (m := mom ls) (R := R)
  rw [ans_same] at e
  have hv : plain (if mom ls = 0 then D.tup [.int 0, .int 0] else ans29 n (mom ls)) = true ∧ dep (if mom ls = 0 then D.tup [.int 0, .int 0] else ans29 n (mom ls)) ≤ 60 := by
    by_cases h0 : mom ls = 0
    · rw [if_pos h0]; exact ⟨rfl, by decide⟩
    · rw [if_neg h0]
      unfold ans29
      split
      · exact ⟨rfl, by simp [r29, dep, deps]⟩
      · exact ⟨rfl, by decide⟩
  obtain ⟨v1, v2, v3⟩ := ne_self hv.1 hv.2
  generalize (if mom ls = 0 then D.tup [.int 0, .int 0] else ans29 n (mom ls)) = v at e e2 v1 v2 v3
  simp [runD, execs, exec, sqK, ev, evs, evb, evAnd, evOr, evo, evc, evi, evis, evX, evSE, evP, setP, stk_var, stk_con, stk_tup, stk_lst, stk_bin, stk_neg, stk_cmp, stk_ch2, stk_and, stk_or, stk_not, stk_ite, stk_call, stk_blt, stk_isi, stk_meth, stk_idx, stk_slc, stk_rev, stk_lc, Res.bind, Res.of, gS, sS, Sl.val, isOw, bltD, idxD, cmpD, binD, notD, negD, isKs, isK, lenR, slcD, itmD, rngD, rngD2, setT, setTs, tgs, tgss, killS, setC, isNon, ownable, putD, augD, extD, ofS, popD, deqI, deqB, deqS, deqT, deqL, deqs, deqNN, deqNT, deqTN, deqNI, deqIN, cmpb, dlt, flt, plain, plains, dep, deps, d30t6, e, e2, v1, v2, v3]
theorem encS_flt (s : List Int) : plain (encS s) = true ∧ dep (encS s) ≤ 1 := by
  unfold encS
  simp only [plain, dep]
  exact ⟨plains_map (fun _ => rfl) s, Nat.succ_le_succ (deps_map (fun _ => Nat.le_refl 0) s)⟩
theorem t9 (h : Bm n ls) : exec (cl (k + 6)) FU d30t9 [s0, .sh (.int n), .sh (encLs ls), s3, s4, s5, .ow (.lst ((zeros ls).map encS)), s7, s8, s9, s10, s11, .no, .no, .no] R = .ok (.nx, [s0, .sh (.int n), .sh (encLs ls), s3, s4, s5, .ow (.lst ((zeros ls).map encS)), s7, s8, s9, s10, s11, .no, .no, .no]) R := by
  have e := e16 (k := k) (R := R) h
  have p1 : plains ((zeros ls).map encS) = true := plains_map (fun s => (encS_flt s).1) _
  have p2 : deps ((zeros ls).map encS) ≤ 1 := deps_map (fun s => (encS_flt s).2) _
  cases q : zeros ls with
  | nil =>
    rw [q] at e
    simp [runD, execs, exec, sqK, ev, evs, evb, evAnd, evOr, evo, evc, evi, evis, evX, evSE, evP, setP, stk_var, stk_con, stk_tup, stk_lst, stk_bin, stk_neg, stk_cmp, stk_ch2, stk_and, stk_or, stk_not, stk_ite, stk_call, stk_blt, stk_isi, stk_meth, stk_idx, stk_slc, stk_rev, stk_lc, Res.bind, Res.of, gS, sS, Sl.val, isOw, bltD, idxD, cmpD, binD, notD, negD, isKs, isK, lenR, slcD, itmD, rngD, rngD2, setT, setTs, tgs, tgss, killS, setC, isNon, ownable, putD, augD, extD, ofS, popD, deqI, deqB, deqS, deqT, deqL, deqs, deqNN, deqNT, deqTN, deqNI, deqIN, cmpb, dlt, flt, plain, plains, dep, deps, d30t9, e, firstS]
  | cons s l =>
    rw [q] at e p1 p2
    have i : L2.atI (encS s :: l.map encS) 0 = some (encS s) := L2.atI_nat (j := 0) rfl
    obtain ⟨f1, f2⟩ := encS_flt s
    obtain ⟨v1, v2, v3⟩ := ne_self f1 (Nat.le_trans f2 (by decide))
    simp only [List.map_cons] at p1 p2
    have p3 : plain (D.lst (encS s :: l.map encS)) = true := by simpa [plain] using p1
    have p4 : deps (encS s :: l.map encS) ≤ 59 := Nat.le_trans p2 (by decide)
    simp only [plains, Bool.and_eq_true, deps] at p1 p4
    simp [runD, execs, exec, sqK, ev, evs, evb, evAnd, evOr, evo, evc, evi, evis, evX, evSE, evP, setP, stk_var, stk_con, stk_tup, stk_lst, stk_bin, stk_neg, stk_cmp, stk_ch2, stk_and, stk_or, stk_not, stk_ite, stk_call, stk_blt, stk_isi, stk_meth, stk_idx, stk_slc, stk_rev, stk_lc, Res.bind, Res.of, gS, sS, Sl.val, isOw, bltD, idxD, cmpD, binD, notD, negD, isKs, isK, lenR, slcD, itmD, rngD, rngD2, setT, setTs, tgs, tgss, killS, setC, isNon, ownable, putD, augD, extD, ofS, popD, deqI, deqB, deqS, deqT, deqL, deqs, deqNN, deqNT, deqTN, deqNI, deqIN, cmpb, dlt, flt, plain, plains, dep, deps, d30t9, e, firstS, i, v1, v2, v3, p1.2, p4]
theorem ends_flt (l : List Int) : plain (ends l) = true ∧ dep (ends l) ≤ 1 := by
  cases l <;> simp [ends, plain, plains, dep, deps]
theorem t12 (h : Bm n ls) {w b : Int} (h1 : 1 ≤ w) (h2 : w ≤ 1000) (h3 : 0 ≤ b) (h4 : b ≤ 1000000) : exec (cl (k + 6)) FU d30t12 [s0, .sh (.int n), .sh (encLs ls), s3, .sh (.int w), s5, s6, s7, .sh (.int b), .sh (.lst ((safeL n (mom ls) w b).map D.int)), s10, s11, .no, .no, .no] R = .ok (.nx, [s0, .sh (.int n), .sh (encLs ls), s3, .sh (.int w), s5, s6, s7, .sh (.int b), .sh (.lst ((safeL n (mom ls) w b).map D.int)), s10, s11, .no, .no, .no]) R := by
  have e := e18 (k := k) (R := R) h h1 h2 h3 h4
  cases q : safeL n (mom ls) w b with
  | nil =>
    rw [q] at e
    simp [runD, execs, exec, sqK, ev, evs, evb, evAnd, evOr, evo, evc, evi, evis, evX, evSE, evP, setP, stk_var, stk_con, stk_tup, stk_lst, stk_bin, stk_neg, stk_cmp, stk_ch2, stk_and, stk_or, stk_not, stk_ite, stk_call, stk_blt, stk_isi, stk_meth, stk_idx, stk_slc, stk_rev, stk_lc, Res.bind, Res.of, gS, sS, Sl.val, isOw, bltD, idxD, cmpD, binD, notD, negD, isKs, isK, lenR, slcD, itmD, rngD, rngD2, setT, setTs, tgs, tgss, killS, setC, isNon, ownable, putD, augD, extD, ofS, popD, deqI, deqB, deqS, deqT, deqL, deqs, deqNN, deqNT, deqTN, deqNI, deqIN, cmpb, dlt, flt, plain, plains, dep, deps, d30t12, e, ends]
  | cons x l =>
    rw [q] at e
    obtain ⟨i1, i2⟩ := atI_ends (x := x) (l := l)
    have p1 : plains (l.map D.int) = true := plains_map (fun s => rfl) _
    have p2 : deps (l.map D.int) ≤ 0 := deps_map (fun s => Nat.le_refl 0) _
    have p3 : deps (l.map D.int) = 0 := by omega
    simp only [List.map_cons] at i1 i2
    simp [runD, execs, exec, sqK, ev, evs, evb, evAnd, evOr, evo, evc, evi, evis, evX, evSE, evP, setP, stk_var, stk_con, stk_tup, stk_lst, stk_bin, stk_neg, stk_cmp, stk_ch2, stk_and, stk_or, stk_not, stk_ite, stk_call, stk_blt, stk_isi, stk_meth, stk_idx, stk_slc, stk_rev, stk_lc, Res.bind, Res.of, gS, sS, Sl.val, isOw, bltD, idxD, cmpD, binD, notD, negD, isKs, isK, lenR, slcD, itmD, rngD, rngD2, setT, setTs, tgs, tgss, killS, setC, isNon, ownable, putD, augD, extD, ofS, popD, deqI, deqB, deqS, deqT, deqL, deqs, deqNN, deqNT, deqTN, deqNI, deqIN, cmpb, dlt, flt, plain, plains, dep, deps, d30t12, e, ends, i1, i2, p1, p3]
end
end Lw

end
section
namespace Lw
open Cw
theorem exs_cons {ck : Nat → List D → RH → Res D} {fu : Nat} {s : Sm} {ss : Sms} {σ σ1 : List Sl} {R R1 : RH} (h : exec ck fu s σ R = .ok (.nx, σ1) R1) : execs ck fu (.cons s ss) σ R = execs ck fu ss σ1 R1 := by
  show sqK (fun σ R => execs ck fu ss σ R) (exec ck fu s σ R) = _
  rw [h]
  rfl
theorem runD_rt {ck : Nat → List D → RH → Res D} {fu : Nat} {d : Df} {args : List D} {R R' : RH} {v : D} (hl : args.length = d.ps.length) (h : ∃ σ, execs ck fu d.code (args.map Sl.sh ++ List.replicate (d.N.length - args.length) Sl.no) R = .ok (.rt v, σ) R') : runD ck fu d args R = .ok v R' := by
  obtain ⟨σ, h⟩ := h
  unfold runD
  rw [if_pos hl, h]
theorem frac_cross {a b : Int} (h : 0 < b) : a * (frac a b).2 = (frac a b).1 * b := by
  obtain ⟨g1, g2⟩ := gcd_pos (a := a) h
  have hd : (Int.gcd a b : Int) ∣ b := Int.gcd_dvd_right ..
  have hm : (Int.gcd a b : Int) ∣ a := Int.gcd_dvd_left ..
  unfold frac
  simp only
  rw [fdiv_pos g1, fdiv_pos g1]
  obtain ⟨x, hx⟩ := hm
  obtain ⟨y, hy⟩ := hd
  generalize (Int.gcd a b : Int) = g at *
  subst hx
  subst hy
  rw [Int.mul_ediv_cancel_left _ (by omega), Int.mul_ediv_cancel_left _ (by omega)]
  rw [Int.mul_comm g x, Int.mul_assoc]
theorem e30 {k : Nat} {n : Int} {ls : List Ld} {R : RH} (h : Bm n ls) (hb : VB R) : ∃ R', cl (k + 7) 30 [.ref 1, .int n, encLs ls] R = .ok (.bl true) R' ∧ VB R' := by
  obtain ⟨w0, R1, pe1, w1, w2, hb1⟩ := e21 (k := k + 5) (m := 60) hb (by decide) (by decide)
  obtain ⟨b0, R2, pe2, b1, b2, hb2⟩ := e21 (k := k + 5) (m := 500) hb1 (by decide) (by decide)
  refine ⟨R2, ?_, hb2⟩
  rw [clE (d := d30) rfl]
  have m := h.mom
  have f0 := e27 (k := k + 5) (R := R) h
  have f1 := e10 (k := k) (R := R) h
  have f4 := e24 (k := k + 4) (a := -mom ls) (b := 1 + w0) (R := R1) (by omega) (by omega)
  have u0 : exec (cl (k + 6)) FU d30t0 [.sh (.ref 1), .sh (.int n), .sh (encLs ls), .no, .no, .no, .no, .no, .no, .no, .no, .no, .no, .no, .no] R = .ok (.nx, [.sh (.ref 1), .sh (.int n), .sh (encLs ls), .sh (.int (mom ls)), .no, .no, .no, .no, .no, .no, .no, .no, .no, .no, .no]) R := by
    simp [runD, execs, exec, sqK, ev, evs, evb, evAnd, evOr, evo, evc, evi, evis, evX, evSE, evP, setP, stk_var, stk_con, stk_tup, stk_lst, stk_bin, stk_neg, stk_cmp, stk_ch2, stk_and, stk_or, stk_not, stk_ite, stk_call, stk_blt, stk_isi, stk_meth, stk_idx, stk_slc, stk_rev, stk_lc, Res.bind, Res.of, gS, sS, Sl.val, isOw, bltD, idxD, cmpD, binD, notD, negD, isKs, isK, lenR, slcD, itmD, rngD, rngD2, setT, setTs, tgs, tgss, killS, setC, isNon, ownable, putD, augD, extD, ofS, popD, deqI, deqB, deqS, deqT, deqL, deqs, deqNN, deqNT, deqTN, deqNI, deqIN, cmpb, dlt, flt, plain, plains, dep, deps, d30t0, f0]
  have u1 : exec (cl (k + 6)) FU d30t1 [.sh (.ref 1), .sh (.int n), .sh (encLs ls), .sh (.int (mom ls)), .no, .no, .no, .no, .no, .no, .no, .no, .no, .no, .no] R = .ok (.nx, [.sh (.ref 1), .sh (.int n), .sh (encLs ls), .sh (.int (mom ls)), .no, .no, .no, .no, .no, .no, .no, .no, .no, .no, .no]) R := by
    simp [runD, execs, exec, sqK, ev, evs, evb, evAnd, evOr, evo, evc, evi, evis, evX, evSE, evP, setP, stk_var, stk_con, stk_tup, stk_lst, stk_bin, stk_neg, stk_cmp, stk_ch2, stk_and, stk_or, stk_not, stk_ite, stk_call, stk_blt, stk_isi, stk_meth, stk_idx, stk_slc, stk_rev, stk_lc, Res.bind, Res.of, gS, sS, Sl.val, isOw, bltD, idxD, cmpD, binD, notD, negD, isKs, isK, lenR, slcD, itmD, rngD, rngD2, setT, setTs, tgs, tgss, killS, setC, isNon, ownable, putD, augD, extD, ofS, popD, deqI, deqB, deqS, deqT, deqL, deqs, deqNN, deqNT, deqTN, deqNI, deqIN, cmpb, dlt, flt, plain, plains, dep, deps, d30t1, f1]
  have u3 : exec (cl (k + 6)) FU d30t3 [.sh (.ref 1), .sh (.int n), .sh (encLs ls), .sh (.int (mom ls)), .no, .no, .no, .no, .no, .no, .no, .no, .no, .no, .no] R = .ok (.nx, [.sh (.ref 1), .sh (.int n), .sh (encLs ls), .sh (.int (mom ls)), .sh (.int (1 + w0)), .no, .no, .no, .no, .no, .no, .no, .no, .no, .no]) R1 := by
    simp [runD, execs, exec, sqK, ev, evs, evb, evAnd, evOr, evo, evc, evi, evis, evX, evSE, evP, setP, stk_var, stk_con, stk_tup, stk_lst, stk_bin, stk_neg, stk_cmp, stk_ch2, stk_and, stk_or, stk_not, stk_ite, stk_call, stk_blt, stk_isi, stk_meth, stk_idx, stk_slc, stk_rev, stk_lc, Res.bind, Res.of, gS, sS, Sl.val, isOw, bltD, idxD, cmpD, binD, notD, negD, isKs, isK, lenR, slcD, itmD, rngD, rngD2, setT, setTs, tgs, tgss, killS, setC, isNon, ownable, putD, augD, extD, ofS, popD, deqI, deqB, deqS, deqT, deqL, deqs, deqNN, deqNT, deqTN, deqNI, deqIN, cmpb, dlt, flt, plain, plains, dep, deps, d30t3, pe1]
  have u4 : exec (cl (k + 6)) FU d30t4 [.sh (.ref 1), .sh (.int n), .sh (encLs ls), .sh (.int (mom ls)), .sh (.int (1 + w0)), .no, .no, .no, .no, .no, .no, .no, .no, .no, .no] R1 = .ok (.nx, [.sh (.ref 1), .sh (.int n), .sh (encLs ls), .sh (.int (mom ls)), .sh (.int (1 + w0)), .sh (encL (frac (-mom ls) (1 + w0))), .no, .no, .no, .no, .no, .no, .no, .no, .no]) R1 := by
    simp [runD, execs, exec, sqK, ev, evs, evb, evAnd, evOr, evo, evc, evi, evis, evX, evSE, evP, setP, stk_var, stk_con, stk_tup, stk_lst, stk_bin, stk_neg, stk_cmp, stk_ch2, stk_and, stk_or, stk_not, stk_ite, stk_call, stk_blt, stk_isi, stk_meth, stk_idx, stk_slc, stk_rev, stk_lc, Res.bind, Res.of, gS, sS, Sl.val, isOw, bltD, idxD, cmpD, binD, notD, negD, isKs, isK, lenR, slcD, itmD, rngD, rngD2, setT, setTs, tgs, tgss, killS, setC, isNon, ownable, putD, augD, extD, ofS, popD, deqI, deqB, deqS, deqT, deqL, deqs, deqNN, deqNT, deqTN, deqNI, deqIN, cmpb, dlt, flt, plain, plains, dep, deps, d30t4, f4]
  have u7 : exec (cl (k + 6)) FU d30t7 [.sh (.ref 1), .sh (.int n), .sh (encLs ls), .sh (.int (mom ls)), .sh (.int (1 + w0)), .sh (encL (frac (-mom ls) (1 + w0))), .no, .no, .no, .no, .no, .no, .no, .no, .no] R1 = .ok (.nx, [.sh (.ref 1), .sh (.int n), .sh (encLs ls), .sh (.int (mom ls)), .sh (.int (1 + w0)), .sh (encL (frac (-mom ls) (1 + w0))), .ow (.lst []), .no, .no, .no, .no, .no, .no, .no, .no]) R1 := by
    simp [runD, execs, exec, sqK, ev, evs, evb, evAnd, evOr, evo, evc, evi, evis, evX, evSE, evP, setP, stk_var, stk_con, stk_tup, stk_lst, stk_bin, stk_neg, stk_cmp, stk_ch2, stk_and, stk_or, stk_not, stk_ite, stk_call, stk_blt, stk_isi, stk_meth, stk_idx, stk_slc, stk_rev, stk_lc, Res.bind, Res.of, gS, sS, Sl.val, isOw, bltD, idxD, cmpD, binD, notD, negD, isKs, isK, lenR, slcD, itmD, rngD, rngD2, setT, setTs, tgs, tgss, killS, setC, isNon, ownable, putD, augD, extD, ofS, popD, deqI, deqB, deqS, deqT, deqL, deqs, deqNN, deqNT, deqTN, deqNI, deqIN, cmpb, dlt, flt, plain, plains, dep, deps, d30t7]
  obtain ⟨s7, u8⟩ := s30 (k := k + 5) (R := R1) h (a := .sh (.ref 1)) (b := .sh (.int n)) (c := .sh (.int (mom ls))) (d := .sh (.int (1 + w0))) (e := .sh (encL (frac (-mom ls) (1 + w0)))) (f := .no)
  have u10 : exec (cl (k + 6)) FU d30t10 [.sh (.ref 1), .sh (.int n), .sh (encLs ls), .sh (.int (mom ls)), .sh (.int (1 + w0)), .sh (encL (frac (-mom ls) (1 + w0))), .ow (.lst ((zeros ls).map encS)), s7, .no, .no, .no, .no, .no, .no, .no] R1 = .ok (.nx, [.sh (.ref 1), .sh (.int n), .sh (encLs ls), .sh (.int (mom ls)), .sh (.int (1 + w0)), .sh (encL (frac (-mom ls) (1 + w0))), .ow (.lst ((zeros ls).map encS)), s7, .sh (.int b0), .no, .no, .no, .no, .no, .no]) R2 := by
    simp [runD, execs, exec, sqK, ev, evs, evb, evAnd, evOr, evo, evc, evi, evis, evX, evSE, evP, setP, stk_var, stk_con, stk_tup, stk_lst, stk_bin, stk_neg, stk_cmp, stk_ch2, stk_and, stk_or, stk_not, stk_ite, stk_call, stk_blt, stk_isi, stk_meth, stk_idx, stk_slc, stk_rev, stk_lc, Res.bind, Res.of, gS, sS, Sl.val, isOw, bltD, idxD, cmpD, binD, notD, negD, isKs, isK, lenR, slcD, itmD, rngD, rngD2, setT, setTs, tgs, tgss, killS, setC, isNon, ownable, putD, augD, extD, ofS, popD, deqI, deqB, deqS, deqT, deqL, deqs, deqNN, deqNT, deqTN, deqNI, deqIN, cmpb, dlt, flt, plain, plains, dep, deps, d30t10, pe2]
  have x11 := x30b (k := k + 6) (n := n) (m := mom ls) (w := 1 + w0) (b := b0) (R := R2) (by have := h.n1; omega) h.n2 (a1 := .sh (.ref 1)) (a2 := .sh (encLs ls)) (a3 := .sh (encL (frac (-mom ls) (1 + w0)))) (a4 := .ow (.lst ((zeros ls).map encS))) (a5 := s7) (a6 := .no) (a7 := .no) (a8 := .no) (a9 := .no)
  have u11 : exec (cl (k + 6)) FU d30t11 [.sh (.ref 1), .sh (.int n), .sh (encLs ls), .sh (.int (mom ls)), .sh (.int (1 + w0)), .sh (encL (frac (-mom ls) (1 + w0))), .ow (.lst ((zeros ls).map encS)), s7, .sh (.int b0), .no, .no, .no, .no, .no, .no] R2 = .ok (.nx, [.sh (.ref 1), .sh (.int n), .sh (encLs ls), .sh (.int (mom ls)), .sh (.int (1 + w0)), .sh (encL (frac (-mom ls) (1 + w0))), .ow (.lst ((zeros ls).map encS)), s7, .sh (.int b0), .sh (.lst ((safeL n (mom ls) (1 + w0) b0).map D.int)), .no, .no, .no, .no, .no]) R2 := by
    simp [runD, execs, exec, sqK, ev, evs, evb, evAnd, evOr, evo, evc, evi, evis, evX, evSE, evP, setP, stk_var, stk_con, stk_tup, stk_lst, stk_bin, stk_neg, stk_cmp, stk_ch2, stk_and, stk_or, stk_not, stk_ite, stk_call, stk_blt, stk_isi, stk_meth, stk_idx, stk_slc, stk_rev, stk_lc, Res.bind, Res.of, gS, sS, Sl.val, isOw, bltD, idxD, cmpD, binD, notD, negD, isKs, isK, lenR, slcD, itmD, rngD, rngD2, setT, setTs, tgs, tgss, killS, setC, isNon, ownable, putD, augD, extD, ofS, popD, deqI, deqB, deqS, deqT, deqL, deqs, deqNN, deqNT, deqTN, deqNI, deqIN, cmpb, dlt, flt, plain, plains, dep, deps, d30t11, d30x1s, x11]
  have run : execs (cl (k + 6)) FU d30.code [.sh (.ref 1), .sh (.int n), .sh (encLs ls), .no, .no, .no, .no, .no, .no, .no, .no, .no, .no, .no, .no] R = execs (cl (k + 6)) FU (.cons d30t13 (.cons d30t14 (.cons d30t15 (.cons d30t16 .nil)))) [.sh (.ref 1), .sh (.int n), .sh (encLs ls), .sh (.int (mom ls)), .sh (.int (1 + w0)), .sh (encL (frac (-mom ls) (1 + w0))), .ow (.lst ((zeros ls).map encS)), s7, .sh (.int b0), .sh (.lst ((safeL n (mom ls) (1 + w0) b0).map D.int)), .no, .no, .no, .no, .no] R2 := by
    show execs (cl (k + 6)) FU (.cons d30t0 (.cons d30t1 (.cons d30t2 (.cons d30t3 (.cons d30t4 (.cons d30t5 (.cons d30t6 (.cons d30t7 (.cons d30s0 (.cons d30t9 (.cons d30t10 (.cons d30t11 (.cons d30t12 (.cons d30t13 (.cons d30t14 (.cons d30t15 (.cons d30t16 .nil))))))))))))))))) _ _ = _
    rw [exs_cons u0, exs_cons u1, exs_cons (t2 h), exs_cons u3, exs_cons u4, exs_cons (t5 h (by omega) (by omega)), exs_cons (t6 h), exs_cons u7, exs_cons u8, exs_cons (t9 h), exs_cons u10, exs_cons u11, exs_cons (t12 h (by omega) (by omega) b1 (by omega))]
  refine runD_rt rfl ?_
  show ∃ σ', execs (cl (k + 6)) FU d30.code [.sh (.ref 1), .sh (.int n), .sh (encLs ls), .no, .no, .no, .no, .no, .no, .no, .no, .no, .no, .no, .no] R = .ok (.rt (.bl true), σ') R2
  rw [run]
  have pl : plains (ls.map encL) = true := plains_map (fun _ => rfl) _
  have dl : deps (ls.map encL) ≤ 1 := deps_map (fun _ => by simp [encL, dep, deps]) _
  cases ls with
  | nil => exact ⟨_, by simp [runD, execs, exec, sqK, ev, evs, evb, evAnd, evOr, evo, evc, evi, evis, evX, evSE, evP, setP, stk_var, stk_con, stk_tup, stk_lst, stk_bin, stk_neg, stk_cmp, stk_ch2, stk_and, stk_or, stk_not, stk_ite, stk_call, stk_blt, stk_isi, stk_meth, stk_idx, stk_slc, stk_rev, stk_lc, Res.bind, Res.of, gS, sS, Sl.val, isOw, bltD, idxD, cmpD, binD, notD, negD, isKs, isK, lenR, slcD, itmD, rngD, rngD2, setT, setTs, tgs, tgss, killS, setC, isNon, ownable, putD, augD, extD, ofS, popD, deqI, deqB, deqS, deqT, deqL, deqs, deqNN, deqNT, deqTN, deqNI, deqIN, cmpb, dlt, flt, plain, plains, dep, deps, d30t13, encLs]; rfl⟩
  | cons l ls =>
    simp only [List.map_cons, plains, deps, Bool.and_eq_true] at pl dl
    have dl3 : max (dep (encL l)) (deps (ls.map encL)) ≤ 59 := Nat.le_trans dl (by decide)
    have dl2 : dep (encL l) ≤ 59 ∧ deps (ls.map encL) ≤ 59 := by omega
    have g19 := e19 (k := k + 1) (R := R2) h (by simp)
    obtain ⟨v1, v2⟩ := h.hv (by simp)
    have g24 := e24 (k := k + 4) (a := mom (l :: ls)) (b := hv (l :: ls)) (R := R2) (by omega) (by omega)
    have fc := frac_cross (a := mom (l :: ls)) (b := hv (l :: ls)) (by omega)
    have x14 := x30c (k := k + 6) (ls := l :: ls) (R := R2) (a1 := .sh (.ref 1)) (a2 := .sh (.int n)) (a3 := .sh (.int (mom (l :: ls)))) (a4 := .sh (.int (1 + w0))) (a5 := .sh (encL (frac (-mom (l :: ls)) (1 + w0)))) (a6 := .ow (.lst ((zeros (l :: ls)).map encS))) (a7 := s7) (a8 := .sh (.int b0)) (a9 := .sh (.lst ((safeL n (mom (l :: ls)) (1 + w0) b0).map D.int)))
    have bb := intsD_mapf (fun l : Ld => l.2) (l :: ls)
    have hvd : ((l :: ls).map fun l : Ld => l.2).sum = hv (l :: ls) := rfl
    generalize hf : frac (mom (l :: ls)) (hv (l :: ls)) = f at g19 g24 fc
    have i0 : L2.atI [D.int f.1, D.int f.2] 0 = some (.int f.1) := rfl
    have i1 : L2.atI [D.int f.1, D.int f.2] 1 = some (.int f.2) := rfl
    have u13 : exec (cl (k + 6)) FU d30t13 [.sh (.ref 1), .sh (.int n), .sh (encLs (l :: ls)), .sh (.int (mom (l :: ls))), .sh (.int (1 + w0)), .sh (encL (frac (-mom (l :: ls)) (1 + w0))), .ow (.lst ((zeros (l :: ls)).map encS)), s7, .sh (.int b0), .sh (.lst ((safeL n (mom (l :: ls)) (1 + w0) b0).map D.int)), .no, .no, .no, .no, .no] R2 = .ok (.nx, [.sh (.ref 1), .sh (.int n), .sh (encLs (l :: ls)), .sh (.int (mom (l :: ls))), .sh (.int (1 + w0)), .sh (encL (frac (-mom (l :: ls)) (1 + w0))), .ow (.lst ((zeros (l :: ls)).map encS)), s7, .sh (.int b0), .sh (.lst ((safeL n (mom (l :: ls)) (1 + w0) b0).map D.int)), .no, .no, .no, .no, .no]) R2 := by
      simp [runD, execs, exec, sqK, ev, evs, evb, evAnd, evOr, evo, evc, evi, evis, evX, evSE, evP, setP, stk_var, stk_con, stk_tup, stk_lst, stk_bin, stk_neg, stk_cmp, stk_ch2, stk_and, stk_or, stk_not, stk_ite, stk_call, stk_blt, stk_isi, stk_meth, stk_idx, stk_slc, stk_rev, stk_lc, Res.bind, Res.of, gS, sS, Sl.val, isOw, bltD, idxD, cmpD, binD, notD, negD, isKs, isK, lenR, slcD, itmD, rngD, rngD2, setT, setTs, tgs, tgss, killS, setC, isNon, ownable, putD, augD, extD, ofS, popD, deqI, deqB, deqS, deqT, deqL, deqs, deqNN, deqNT, deqTN, deqNI, deqIN, cmpb, dlt, flt, plain, plains, dep, deps, d30t13, encLs, pl.1, pl.2, dl3]
    have u14 : exec (cl (k + 6)) FU d30t14 [.sh (.ref 1), .sh (.int n), .sh (encLs (l :: ls)), .sh (.int (mom (l :: ls))), .sh (.int (1 + w0)), .sh (encL (frac (-mom (l :: ls)) (1 + w0))), .ow (.lst ((zeros (l :: ls)).map encS)), s7, .sh (.int b0), .sh (.lst ((safeL n (mom (l :: ls)) (1 + w0) b0).map D.int)), .no, .no, .no, .no, .no] R2 = .ok (.nx, [.sh (.ref 1), .sh (.int n), .sh (encLs (l :: ls)), .sh (.int (mom (l :: ls))), .sh (.int (1 + w0)), .sh (encL (frac (-mom (l :: ls)) (1 + w0))), .ow (.lst ((zeros (l :: ls)).map encS)), s7, .sh (.int b0), .sh (.lst ((safeL n (mom (l :: ls)) (1 + w0) b0).map D.int)), .sh (.int (hv (l :: ls))), .no, .no, .no, .no]) R2 := by
      simp only [runD, execs, exec, sqK, ev, evs, evb, evAnd, evOr, evo, evc, evi, evis, evX, evSE, evP, setP, stk_var, stk_con, stk_tup, stk_lst, stk_bin, stk_neg, stk_cmp, stk_ch2, stk_and, stk_or, stk_not, stk_ite, stk_call, stk_blt, stk_isi, stk_meth, stk_idx, stk_slc, stk_rev, stk_lc, Res.bind, Res.of, gS, sS, Sl.val, isOw, bltD, idxD, cmpD, binD, notD, negD, isKs, isK, lenR, slcD, itmD, rngD, rngD2, setT, setTs, tgs, tgss, killS, setC, isNon, ownable, putD, augD, extD, ofS, popD, deqI, deqB, deqS, deqT, deqL, deqs, deqNN, deqNT, deqTN, deqNI, deqIN, cmpb, dlt, flt, plain, plains, dep, deps, d30t14, x14, bb, Option.map]
      rfl
    have u15 : exec (cl (k + 6)) FU d30t15 [.sh (.ref 1), .sh (.int n), .sh (encLs (l :: ls)), .sh (.int (mom (l :: ls))), .sh (.int (1 + w0)), .sh (encL (frac (-mom (l :: ls)) (1 + w0))), .ow (.lst ((zeros (l :: ls)).map encS)), s7, .sh (.int b0), .sh (.lst ((safeL n (mom (l :: ls)) (1 + w0) b0).map D.int)), .sh (.int (hv (l :: ls))), .no, .no, .no, .no] R2 = .ok (.nx, [.sh (.ref 1), .sh (.int n), .sh (encLs (l :: ls)), .sh (.int (mom (l :: ls))), .sh (.int (1 + w0)), .sh (encL (frac (-mom (l :: ls)) (1 + w0))), .ow (.lst ((zeros (l :: ls)).map encS)), s7, .sh (.int b0), .sh (.lst ((safeL n (mom (l :: ls)) (1 + w0) b0).map D.int)), .sh (.int (hv (l :: ls))), .sh (encL f), .no, .no, .no]) R2 := by
      simp [runD, execs, exec, sqK, ev, evs, evb, evAnd, evOr, evo, evc, evi, evis, evX, evSE, evP, setP, stk_var, stk_con, stk_tup, stk_lst, stk_bin, stk_neg, stk_cmp, stk_ch2, stk_and, stk_or, stk_not, stk_ite, stk_call, stk_blt, stk_isi, stk_meth, stk_idx, stk_slc, stk_rev, stk_lc, Res.bind, Res.of, gS, sS, Sl.val, isOw, bltD, idxD, cmpD, binD, notD, negD, isKs, isK, lenR, slcD, itmD, rngD, rngD2, setT, setTs, tgs, tgss, killS, setC, isNon, ownable, putD, augD, extD, ofS, popD, deqI, deqB, deqS, deqT, deqL, deqs, deqNN, deqNT, deqTN, deqNI, deqIN, cmpb, dlt, flt, plain, plains, dep, deps, d30t15, g19]
    rw [exs_cons u13, exs_cons u14, exs_cons u15]
    have c1 : L2.CMul (mom (l :: ls)) f.2 := mulOk (by omega)
    have c2 : L2.CMul f.1 (hv (l :: ls)) := .inr ⟨by omega, by omega⟩
    unfold encL at g24
    exact ⟨_, by simp [runD, execs, exec, sqK, ev, evs, evb, evAnd, evOr, evo, evc, evi, evis, evX, evSE, evP, setP, stk_var, stk_con, stk_tup, stk_lst, stk_bin, stk_neg, stk_cmp, stk_ch2, stk_and, stk_or, stk_not, stk_ite, stk_call, stk_blt, stk_isi, stk_meth, stk_idx, stk_slc, stk_rev, stk_lc, Res.bind, Res.of, gS, sS, Sl.val, isOw, bltD, idxD, cmpD, binD, notD, negD, isKs, isK, lenR, slcD, itmD, rngD, rngD2, setT, setTs, tgs, tgss, killS, setC, isNon, ownable, putD, augD, extD, ofS, popD, deqI, deqB, deqS, deqT, deqL, deqs, deqNN, deqNT, deqTN, deqNI, deqIN, cmpb, dlt, flt, plain, plains, dep, deps, d30t16, g24, encL, i0, i1, c1, c2, fc]; rfl⟩
end Lw

end
section
namespace Lw
open Cw
theorem s31b {k : Nat} {n : Int} {R : RH} {d s2 s5 : Sl} (h1 : 1 ≤ n) (h2 : n ≤ 14) (hb : VB R) : ∃ (ls : List Ld) (s5' : Sl) (R' : RH), exec (cl (k + 1)) FU d31s1 [d, .sh (.ref 1), s2, .sh (.int n), .ow (.lst []), s5] R = .ok (.nx, [d, .sh (.ref 1), s2, .sh (.int n), .ow (.lst (ls.map encL)), s5']) R' ∧ VB R' ∧ Bm n ls := by
  obtain ⟨c, R1, pe, c1, c2, hb1⟩ := e21 (k := k) (m := 6) hb (by decide) (by decide)
  have step := forL_inv (f := forF (cl (k + 1)) FU (.nm 5) d31b1) (enc := D.int) (xs := ir 0 c.toNat) (pre := []) (σ := [d, .sh (.ref 1), s2, .sh (.int n), .ow (.lst []), s5]) (R := R1)
    (fun pre σ R' => ∃ (ls : List Ld) (s5' : Sl), σ = [d, .sh (.ref 1), s2, .sh (.int n), .ow (.lst (ls.map encL)), s5'] ∧ VB R' ∧ ls.length = pre.length ∧ ∀ l ∈ ls, okL n l = true) ⟨[], s5, rfl, hb1, rfl, by simp⟩ (fun pre x post σ R' he ⟨ls, s5', p, q, hl, hok⟩ => by
      subst p
      have hp : pre.length ≤ 6 := by
        have := congrArg List.length he
        rw [List.nil_append, List.length_append] at this
        simp [ir] at this
        omega
      obtain ⟨a, Ra, pa, a1, a2, hba⟩ := e21 (k := k) (m := 2 * n + 1) q (by omega) (by omega)
      obtain ⟨b, Rb, pb, b1, b2, hbb⟩ := e21 (k := k) (m := 30) hba (by decide) (by decide)
      have cm : L2.CMul 2 n := mulOk (by decide)
      have hz : ls.length < 16777216 := by omega
      refine ⟨_, Rb, ?_, ls ++ [(a - n, 1 + b)], .sh (.int x), rfl, hbb, by simp [hl], fun l hm => ?_⟩
      · unfold forF
        rw [List.map_append]
        simp [runD, execs, exec, sqK, ev, evs, evb, evAnd, evOr, evo, evc, evi, evis, evX, evSE, evP, setP, stk_var, stk_con, stk_tup, stk_lst, stk_bin, stk_neg, stk_cmp, stk_ch2, stk_and, stk_or, stk_not, stk_ite, stk_call, stk_blt, stk_isi, stk_meth, stk_idx, stk_slc, stk_rev, stk_lc, Res.bind, Res.of, gS, sS, Sl.val, isOw, bltD, idxD, cmpD, binD, notD, negD, isKs, isK, lenR, slcD, itmD, rngD, rngD2, setT, setTs, tgs, tgss, killS, setC, isNon, ownable, putD, augD, extD, ofS, popD, deqI, deqB, deqS, deqT, deqL, deqs, deqNN, deqNT, deqTN, deqNI, deqIN, cmpb, dlt, flt, plain, plains, dep, deps, d31b1, cm, pa, pb, hz, encL, show PySem.sizeLine = 16777216 from rfl]
      · rcases List.mem_append.mp hm with hm | hm
        · exact hok l hm
        · rw [List.mem_singleton.mp hm]
          unfold okL
          simp only [Bool.and_eq_true, decide_eq_true_eq]
          omega)
  obtain ⟨σ', R', e, ls, s5', p, q, hl, hok⟩ := step
  subst p
  refine ⟨ls, s5', R', exec_forE (it := .rng (.call 21 (.cons (.var 1) (.cons (.con (.int 6)) .nil)))) (R1 := R1) (by
    rw [← rngI_ir]
    have c3 : (c : Int) ≤ 16777216 := by omega
    have c4 : -4611686018427387904 ≤ c := by omega
    simp [runD, execs, exec, sqK, ev, evs, evb, evAnd, evOr, evo, evc, evi, evis, evX, evSE, evP, setP, stk_var, stk_con, stk_tup, stk_lst, stk_bin, stk_neg, stk_cmp, stk_ch2, stk_and, stk_or, stk_not, stk_ite, stk_call, stk_blt, stk_isi, stk_meth, stk_idx, stk_slc, stk_rev, stk_lc, Res.bind, Res.of, gS, sS, Sl.val, isOw, bltD, idxD, cmpD, binD, notD, negD, isKs, isK, lenR, slcD, itmD, rngD, rngD2, setT, setTs, tgs, tgss, killS, setC, isNon, ownable, putD, augD, extD, ofS, popD, deqI, deqB, deqS, deqT, deqL, deqs, deqNN, deqNT, deqTN, deqNI, deqIN, cmpb, dlt, flt, plain, plains, dep, deps, pe, c3, c4, show PySem.sizeLine = 16777216 from rfl]) e, q, by omega, by omega, ?_⟩
  have : ls.length ≤ 10 := by
    rw [hl]
    simp [ir]
    omega
  unfold okLs
  simp only [Bool.and_eq_true, decide_eq_true_eq, List.all_eq_true]
  exact ⟨this, hok⟩
theorem s31 {k : Nat} {R : RH} {d : Sl} (hb : VB R) : ∃ σ' R', exec (cl (k + 7)) FU d31s0 [d, .sh (.ref 1), .no, .no, .no, .no] R = .ok (.nx, σ') R' := by
  have step := forL_inv (f := forF (cl (k + 7)) FU (.nm 2) d31b0) (enc := D.int) (xs := ir 0 5) (pre := []) (σ := [d, .sh (.ref 1), .no, .no, .no, .no]) (R := R)
    (fun pre σ R' => ∃ (s2 s3 s4 s5 : Sl), σ = [d, .sh (.ref 1), s2, s3, s4, s5] ∧ VB R') ⟨.no, .no, .no, .no, rfl, hb⟩ (fun pre x post σ R' he ⟨s2, s3, s4, s5, p, q⟩ => by
      subst p
      obtain ⟨a, Ra, pa, a1, a2, hba⟩ := e21 (k := k + 6) (m := 14) q (by decide) (by decide)
      obtain ⟨ls, s5', Rb, eb, hbb, hB⟩ := s31b (k := k + 6) (n := 1 + a) (d := d) (s2 := .sh (.int x)) (s5 := s5) (by omega) (by omega) hba
      obtain ⟨Rc, ec, hbc⟩ := e30 (k := k) hB hbb
      refine ⟨_, Rc, ?_, .sh (.int x), .sh (.int (1 + a)), .ow (.lst (ls.map encL)), s5', rfl, hbc⟩
      unfold encLs at ec
      unfold forF
      simp [runD, execs, exec, sqK, ev, evs, evb, evAnd, evOr, evo, evc, evi, evis, evX, evSE, evP, setP, stk_var, stk_con, stk_tup, stk_lst, stk_bin, stk_neg, stk_cmp, stk_ch2, stk_and, stk_or, stk_not, stk_ite, stk_call, stk_blt, stk_isi, stk_meth, stk_idx, stk_slc, stk_rev, stk_lc, Res.bind, Res.of, gS, sS, Sl.val, isOw, bltD, idxD, cmpD, binD, notD, negD, isKs, isK, lenR, slcD, itmD, rngD, rngD2, setT, setTs, tgs, tgss, killS, setC, isNon, ownable, putD, augD, extD, ofS, popD, deqI, deqB, deqS, deqT, deqL, deqs, deqNN, deqNT, deqTN, deqNI, deqIN, cmpb, dlt, flt, plain, plains, dep, deps, d31b0, pa, eb, ec])
  obtain ⟨σ', R', e, s2, s3, s4, s5, p, q⟩ := step
  exact ⟨σ', R', exec_forE (it := .rng (.con (.int 5))) (R1 := R) (by
    rw [← rngI_ir]
    simp [runD, execs, exec, sqK, ev, evs, evb, evAnd, evOr, evo, evc, evi, evis, evX, evSE, evP, setP, stk_var, stk_con, stk_tup, stk_lst, stk_bin, stk_neg, stk_cmp, stk_ch2, stk_and, stk_or, stk_not, stk_ite, stk_call, stk_blt, stk_isi, stk_meth, stk_idx, stk_slc, stk_rev, stk_lc, Res.bind, Res.of, gS, sS, Sl.val, isOw, bltD, idxD, cmpD, binD, notD, negD, isKs, isK, lenR, slcD, itmD, rngD, rngD2, setT, setTs, tgs, tgss, killS, setC, isNon, ownable, putD, augD, extD, ofS, popD, deqI, deqB, deqS, deqT, deqL, deqs, deqNN, deqNT, deqTN, deqNI, deqIN, cmpb, dlt, flt, plain, plains, dep, deps, show PySem.sizeLine = 16777216 from rfl]) e⟩
theorem answers : Answers defs FU 100 31 := by
  intro ns hn
  obtain ⟨R1, e0, hb⟩ := e20 (k := 98) (ns := ns)
  obtain ⟨σ', R', es⟩ := s31 (k := 92) (R := R1) (d := .sh (.frz (ns.map D.int))) hb
  refine ⟨R', ?_⟩
  have c1 : cl 99 11 [.int 5, .tup [.tup [.int 2, .int 3], .tup [.int (-3), .int 2]]] R1 = .ok (.str "even") R1 := e11 (k := 93) (n := 5) (ls := [(2, 3), (-3, 2)]) ⟨by decide, by decide, by decide⟩
  have c2 : cl 99 13 [.int 5, .tup [.tup [.int 2, .int 3]], .int 4] R1 = .ok (.tup [.int (-3), .int 2]) R1 := e13 (k := 93) (n := 5) (w := 4) (ls := [(2, 3)]) ⟨by decide, by decide, by decide⟩ (by decide) (by decide)
  have c3 : cl 99 19 [.tup [.tup [.int 0, .int 1], .tup [.int 4, .int 3]]] R1 = .ok (.tup [.int 3, .int 1]) R1 := e19 (k := 94) (n := 100) (ls := [(0, 1), (4, 3)]) ⟨by decide, by decide, by decide⟩ (by simp)
  have c4 : cl 99 14 [.int 2, .tup [.tup [.int 1, .int 6]]] R1 = .ok (.tup [.int 3, .int (-2)]) R1 := e14 (k := 93) (n := 2) (ls := [(1, 6)]) ⟨by decide, by decide, by decide⟩
  have c5 : cl 99 16 [.int 9, .tup [.tup [.int 1, .int 3], .tup [.int 3, .int 1]]] R1 = .ok (.tup [.int (-1), .int 1]) R1 := e16 (k := 93) (n := 9) (ls := [(1, 3), (3, 1)]) ⟨by decide, by decide, by decide⟩
  show cl (99 + 1) 31 [.frz (ns.map D.int)] [] = _
  rw [clE (d := d31) rfl]
  simp [runD, execs, exec, sqK, ev, evs, evb, evAnd, evOr, evo, evc, evi, evis, evX, evSE, evP, setP, stk_var, stk_con, stk_tup, stk_lst, stk_bin, stk_neg, stk_cmp, stk_ch2, stk_and, stk_or, stk_not, stk_ite, stk_call, stk_blt, stk_isi, stk_meth, stk_idx, stk_slc, stk_rev, stk_lc, Res.bind, Res.of, gS, sS, Sl.val, isOw, bltD, idxD, cmpD, binD, notD, negD, isKs, isK, lenR, slcD, itmD, rngD, rngD2, setT, setTs, tgs, tgss, killS, setC, isNon, ownable, putD, augD, extD, ofS, popD, deqI, deqB, deqS, deqT, deqL, deqs, deqNN, deqNT, deqTN, deqNI, deqIN, cmpb, dlt, flt, plain, plains, dep, deps, d31, d31t0, d31t1, d31t2, d31t3, d31t5, e0, c1, c2, c3, c4, c5, es, so1]
end Lw

end
section
open PySem PySem.W PySem.Calls PyProof.Rows
theorem PySem.Challenge.cw_circusweek_k14_whole_beams_that_are_even_holds : PySem.Challenge.rw_circusweek_k14_whole_beams_that_are_even.Holds :=
  law_holds Lw.answers

end
