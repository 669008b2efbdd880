import PyProof.Rows.All
import Wide.All
import OpenK.AllK
import Wide.FinOn
import PySem.Challenge.RW_liveviews_k01_programs_known
import HandS.ForMost
import KE.SortData
import HandS.TupAny
import HandS.TupMul
import HandS.IsInst
import HandS.Style
import HandS.Strs
import HandS.Text
import HandS.More
import PyProof.TupleOfSeq
import HandS.ExcValue
import HandS.ForExc
import HandS.TryMany
import HandS.CallSlots
import HandS.Comp
import HandS.Iter
import HandS.Zip
import HandS.Codes
import HandS.ExcIs
import KE.KExcLine
set_option Elab.async false
set_option linter.all false
section
/-! # The Q layer, part 1: values, an own IR of the Python subset, its evaluator -/
namespace Q
open PySem

/-- a value as plain data -/
inductive D where
  | non
  | bl (b : Bool)
  | int (i : Int)
  | str (x : Str)
  | tup (ds : List D)
  | lst (ds : List D)
  | dct (ks : List Str) (ds : List D)
  deriving Inhabited

/-- what a name holds: a value, or a list that may be changed (a cell) -/
inductive W where
  | v (d : D)
  | c (n : Nat)
  deriving Inhabited

/-- the cells: the lists that may be changed (none: not to be used any more) -/
abbrev Cells := List (Option (List D))
/-- an exception: its class by number -/
abbrev Exc := Nat
inductive Res (α : Type) where
  | ok (a : α) (c : Cells)
  | exc (x : Exc) (c : Cells)
  | bad

namespace Res
variable {α β : Type}
def bind (r : Res α) (f : α → Cells → Res β) : Res β :=
  match r with
  | .ok a c => f a c
  | .exc x c => .exc x c
  | .bad => .bad
@[simp] theorem bind_ok (a : α) (c : Cells) (f : α → Cells → Res β) : (Res.ok a c).bind f = f a c := rfl
@[simp] theorem bind_exc (x : Exc) (c : Cells) (f : α → Cells → Res β) : (Res.exc x c : Res α).bind f = .exc x c := rfl
@[simp] theorem bind_bad (f : α → Cells → Res β) : (Res.bad : Res α).bind f = .bad := rfl
/-- a part that may be missing -/
def ofO (o : Option α) (c : Cells) : Res α := match o with
  | some a => .ok a c
  | none => .bad
@[simp] theorem ofO_some (a : α) (c : Cells) : ofO (some a) c = .ok a c := rfl
@[simp] theorem ofO_none (c : Cells) : ofO (none : Option α) c = .bad := rfl
end Res

/-! ### operations on values -/
inductive Cmp where
  | eq | ne | lt | le | gt | ge | isN | notN | isT | notT | in_ | notIn
  deriving DecidableEq
inductive Op where
  | add | sub | mul | mod | fdiv | pow
  deriving DecidableEq
inductive Ty where
  | int | str | bool | tuple | list
  deriving DecidableEq
inductive Blt where
  | len | int | all | tuple | list | sorted | min | sum
  deriving DecidableEq

mutual
/-- as the kit's data (a dict: nothing that a rule knows) -/
def D.dat : D → PyData
  | .non => .none
  | .bl b => .bool b
  | .int i => .int i
  | .str x => .str x
  | .tup ds => .tuple (D.dats ds)
  | .lst ds => .list (D.dats ds)
  | .dct _ _ => .dict []
def D.dats : List D → List PyData
  | [] => []
  | d :: r => D.dat d :: D.dats r
end
/-- a == b, where both have a shape that the rule knows -/
def eqD (a b : D) : Option Bool := if SeqAt.shaped a.dat = true ∧ SeqAt.shaped b.dat = true then some (PyData.eqv a.dat b.dat) else none
def flat : D → Bool
  | .non => true
  | .bl _ => true
  | .int _ => true
  | .str _ => true
  | _ => false
/-- == of flat values -/
def eqF : D → D → Bool
  | .non, .non => true
  | .bl a, .bl b => a == b
  | .bl a, .int b => (if a then 1 else 0) == b
  | .int a, .bl b => a == (if b then 1 else 0)
  | .int a, .int b => a == b
  | .str a, .str b => a == b
  | _, _ => false
def inF (x : D) (xs : List D) : Option Bool := if flat x = true ∧ xs.all flat = true then some (xs.any fun y => eqF y x) else none
/-- the place of a key in a dict -/
def getK (ks : List Str) (ds : List D) (x : Str) : Option D := ((ks.zip ds).find? fun p => decide (p.1 = x)).map (·.2)
def inD (x y : D) : Option Bool :=
  match y with
  | .tup ys => inF x ys
  | .lst ys => inF x ys
  | .str z => match x with
    | .str t => some (!(Builtin.Str.occurrences z t 0 z.length 1).isEmpty)
    | _ => none
  | .dct ks ds => match x with
    | .str t => some (getK ks ds t).isSome
    | _ => none
  | _ => none
def isNon : D → Bool
  | .non => true
  | _ => false
def isTrueB : D → Bool
  | .bl true => true
  | _ => false
def cmpD (o : Cmp) (a b : D) : Option Bool :=
  match o with
  | .eq => eqD a b
  | .ne => (eqD a b).map (!·)
  | .lt => match a, b with
    | .int i, .int j => some (decide (i < j))
    | .str x, .str y => some (decide (x.cps.toList < y.cps.toList))
    | _, _ => none
  | .le => match a, b with
    | .int i, .int j => some (decide (i ≤ j))
    | .str x, .str y => some (!decide (y.cps.toList < x.cps.toList))
    | _, _ => none
  | .gt => match a, b with
    | .int i, .int j => some (decide (j < i))
    | .str x, .str y => some (decide (y.cps.toList < x.cps.toList))
    | _, _ => none
  | .ge => match a, b with
    | .int i, .int j => some (decide (j ≤ i))
    | .str x, .str y => some (!decide (x.cps.toList < y.cps.toList))
    | _, _ => none
  | .isN => if isNon b = true then some (isNon a) else none
  | .notN => if isNon b = true then some (!isNon a) else none
  | .isT => match a, b with
    | .bl x, .bl true => some x
    | _, _ => none
  | .notT => match a, b with
    | .bl x, .bl true => some (!x)
    | _, _ => none
  | .in_ => inD a b
  | .notIn => (inD a b).map (!·)
def okLen (n : Nat) : Bool := decide (n ≤ sizeLine)
def repD (xs : List D) (k : Nat) : List D := (List.replicate k xs).flatten
def opD (o : Op) (a b : D) : Option D :=
  match o with
  | .add => match a, b with
    | .int i, .int j => some (.int (i + j))
    | .int i, .bl j => some (.int (i + if j then 1 else 0))
    | .bl i, .int j => some (.int ((if i then 1 else 0) + j))
    | .str x, .str y => if x.length + y.length ≤ sizeLine then some (.str (x ++ y)) else none
    | .tup xs, .tup ys => if xs.length + ys.length ≤ sizeLine then some (.tup (xs ++ ys)) else none
    | .lst xs, .lst ys => if xs.length + ys.length ≤ sizeLine then some (.lst (xs ++ ys)) else none
    | _, _ => none
  | .sub => match a, b with
    | .int i, .int j => some (.int (i - j))
    | _, _ => none
  | .mul => match a, b with
    | .int i, .int j => if (-(2 ^ 64) < i ∧ i < 2 ^ 64) ∨ (-(2 ^ 64) < j ∧ j < 2 ^ 64) then some (.int (i * j)) else none
    | .lst xs, .int k => if -(2 ^ 63) ≤ k ∧ k < 2 ^ 63 ∧ xs.length * k.toNat ≤ sizeLine then some (.lst (repD xs k.toNat)) else none
    | .tup xs, .int k => if xs.length ≤ 1000 ∧ xs ≠ [] ∧ 2 ≤ k ∧ k ≤ 1000 then some (.tup (repD xs k.toNat)) else none
    | _, _ => none
  | .mod => match a, b with
    | .int i, .int j => if 0 < j then some (.int (i % j)) else none
    | _, _ => none
  | .fdiv => match a, b with
    | .int i, .int j => if 0 < j ∧ j < 1073741824 then some (.int (i / j)) else none
    | _, _ => none
  | .pow => match a, b with
    | .int i, .int j => if 0 ≤ j ∧ j ≤ 1000000 ∧ i.natAbs < 2 ^ 64 then some (.int (i ^ j.toNat)) else none
    | _, _ => none
/-- a[i] -/
def idxD (a i : D) : Option D :=
  match a, i with
  | .tup xs, .int j => L2.atI xs j
  | .lst xs, .int j => L2.atI xs j
  | .str z, .int j => if z.length ≤ sizeLine then (L2.atI z.cps.toList j).map fun c => .str ⟨#[c]⟩ else none
  | .dct ks ds, .str x => getK ks ds x
  | _, _ => none
def cutD (xs : List D) (lo hi : Option Int) : List D := (xs.drop (HT.sIx xs.length 0 lo)).take (HT.sIx xs.length xs.length hi - HT.sIx xs.length 0 lo)
/-- a[lo:hi] -/
def slcD (a : D) (lo hi : Option Int) : Option D :=
  match a with
  | .tup xs => some (.tup (cutD xs lo hi))
  | .lst xs => some (.lst (cutD xs lo hi))
  | _ => none
def lenD : D → Option Nat
  | .str x => if x.length ≤ sizeLine then some x.length else none
  | .tup xs => some xs.length
  | .lst xs => some xs.length
  | _ => none
def tyD (t : Ty) : D → Option Bool
  | .non => some false
  | .bl _ => some (t == .bool || t == .int)
  | .int _ => some (t == .int)
  | .str _ => some (t == .str)
  | .tup _ => some (t == .tuple)
  | .lst _ => some (t == .list)
  | _ => none
def allB : List D → Option Bool
  | [] => some true
  | .bl b :: r => (allB r).map (b && ·)
  | _ :: _ => none
def itemsD : D → Option (List D)
  | .tup xs => some xs
  | .lst xs => some xs
  | _ => none
/-- what a loop walks -/
def walkD : D → Option (List D)
  | .tup xs => some xs
  | .lst xs => some xs
  | .str z => if z.length ≤ sizeLine then some (z.cps.toList.map fun c => .str ⟨#[c]⟩) else none
  | _ => none
/-- sorted: of data of one kind -/
def okSort (xs : List D) : Bool :=
  (xs.all fun a => xs.all fun b => PySem.W.alike a.dat b.dat) && decide (xs.length ≤ sizeLine) && (xs.all fun a => SeqAt.shaped a.dat) &&
    ((xs.all fun a => match a with | .tup (_ :: _) => true | _ => false) || (xs.all fun a => match a with | .tup _ => false | .non => false | _ => true))
def sortD (xs : List D) : Option (List D) := if okSort xs = true then some (xs.mergeSort (PySem.W.dataLe false D.dat)) else none

/-! ### the language -/
mutual
inductive E where
  | var (i : Nat)
  | con (d : D)
  | glo (g : Nat)
  | tup (es : Es)
  | lst (es : Es)
  | cel (es : Es)
  | dic (ks : List Str) (es : Es)
  | and (a b : E)
  | or (a b : E)
  | not (a : E)
  | cmp (o : Cmp) (a b : E)
  | chn (o p : Cmp) (a b c : E)
  | bin (o : Op) (a b : E)
  | neg (a : E)
  | ite (t a b : E)
  | idx (a i : E)
  | slc (a : E) (lo hi : Eo)
  | call (f : Nat) (es : Es)
  | blt (f : Blt) (es : Es)
  | isi (a : E) (t : Ty)
  | get (a k d : E)
  | app (a e : E)
  | pop (a i : E)
  | frz (a : E)
  | cad (a b : E)
  | lc (m : Bool) (elt : E) (ts : List Nat) (it : Iw) (t : Eo)
  | lc2 (elt : E) (ts : List Nat) (it : Iw) (t : Eo) (ts1 : List Nat) (it1 : Iw) (t1 : Eo)
inductive Es where
  | nil
  | cons (e : E) (r : Es)
inductive Eo where
  | non
  | som (e : E)
/-- what is walked -/
inductive Iw where
  | val (e : E)
  | zip (a b : E)
  | rng (a : E)
  | rng2 (a b : E)
end
/-- a target: names (one: itself; more: a tuple's), or a place of a list -/
inductive T where
  | name (i : Nat)
  | names (is : List Nat)
  | item (a i : E)
mutual
inductive S where
  | set (t : T) (e : E)
  | par (sw : Bool) (is : List Nat) (es : Es)
  | aug (i : Nat) (e : E)
  | ife (c : E) (a b : Ss)
  | for (is : List Nat) (it : Iw) (b : Ss)
  | whl (c : E) (b : Ss)
  | ret (e : E)
  | rse (x : Exc)
  | exp (e : E)
  | pass
  | try (b : Ss) (hs : Hs)
inductive Ss where
  | nil
  | cons (s : S) (r : Ss)
inductive Hs where
  | nil
  | cons (x : Exc) (d : D) (r : Hs)
end

/-! ### the evaluator -/
abbrev Env := List (Option W)
/-- what a value reads as -/
def rd (c : Cells) : W → Option D
  | .v d => some d
  | .c n => match c[n]? with
    | some (some ds) => some (.lst ds)
    | _ => none
def rdR (w : W) (c : Cells) : Res D := .ofO (rd c w) c
/-- a plain value (no cell) -/
def valR (w : W) (c : Cells) : Res D := match w with
  | .v d => .ok d c
  | .c _ => .bad
def vals : List W → Option (List D)
  | [] => some []
  | .v d :: r => (vals r).map (d :: ·)
  | .c _ :: _ => none
def ret (o : Option D) (c : Cells) : Res W := match o with
  | some d => .ok (.v d) c
  | none => .bad
def retB (o : Option Bool) (c : Cells) : Res W := ret (o.map .bl) c
/-- a test's answer -/
def truth (w : W) (c : Cells) : Res Bool := match w with
  | .v (.bl b) => .ok b c
  | _ => .bad
def bindNames : List Nat → List W → Env → Env
  | i :: is, w :: ws, ρ => bindNames is ws (ρ.set i (some w))
  | _, _, ρ => ρ
/-- a comprehension's own names are forgotten at its start -/
def wipeE (ρ : Env) : List Nat → Env
  | [] => ρ
  | v :: vs => (wipeE ρ vs).set v none
/-- one name takes the value, more take its items -/
def bindIs (is : List Nat) (d : D) (ρ : Env) : Option Env :=
  match is with
  | [i] => if i < ρ.length then some (ρ.set i (some (.v d))) else none
  | _ => match d with
    | .tup ds => if ds.length = is.length ∧ (is.all fun i => decide (i < ρ.length)) = true then some (bindNames is (ds.map .v) ρ) else none
    | _ => none
/-- nothing is raised in a comprehension -/
def noExc {α : Type} : Res α → Res α
  | .ok a c => .ok a c
  | _ => .bad
@[simp] theorem noExc_ok {α : Type} (a : α) (c : Cells) : noExc (.ok a c) = .ok a c := rfl
/-- the items of a comprehension, one after another -/
def lcLoop (f : D → Cells → Res (List D)) : List D → Cells → Res (List D)
  | [], c => .ok [] c
  | d :: r, c => (noExc (f d c)).bind fun a c1 => (lcLoop f r c1).bind fun b c2 => .ok (a ++ b) c2
/-- one item of a comprehension -/
def lcItem (ts : List Nat) (ρ : Env) (rt : Env → Cells → Res Bool) (re : Env → Cells → Res W) : D → Cells → Res (List D) := fun d c => match bindIs ts d (wipeE ρ ts) with
  | some ρ1 => (rt ρ1 c).bind fun k c => if k = true then (re ρ1 c).bind fun w c => match w with
    | .v d => .ok [d] c
    | .c _ => .bad
    else .ok [] c
  | none => .bad
def bltD (f : Blt) (ds : List D) : Option D :=
  match f, ds with
  | .len, [d] => (lenD d).map fun n => .int n
  | .int, [.int i] => some (.int i)
  | .int, [.bl b] => some (.int (if b then 1 else 0))
  | .all, [.lst xs] => (allB xs).map .bl
  | .tuple, [d] => (itemsD d).map .tup
  | .list, [d] => (itemsD d).map .lst
  | .sorted, [d] => (itemsD d).bind fun xs => (sortD xs).map .lst
  | .min, [.int i, .int j] => some (.int (if j < i then j else i))
  | .sum, [.lst xs] => if (xs.all fun d => match d with | .int _ => true | _ => false) = true then some (.int (xs.map fun d => match d with | .int i => i | _ => 0).sum) else none
  | _, _ => none
def rdAll (c : Cells) : List W → Option (List D)
  | [] => some []
  | w :: r => match rd c w, rdAll c r with
    | some d, some ds => some (d :: ds)
    | _, _ => none
def zipD (xs ys : List D) : List D := (xs.zip ys).map fun p => .tup [p.1, p.2]
def rngD (lo : Int) (n : Nat) : List D := (List.range n).map fun (i : Nat) => .int (lo + i)
def okInt (i : Int) : Bool := decide (-(2 ^ 62) ≤ i ∧ i < 2 ^ 62)
/-- a list that was just made: a value, or a cell -/
def mkL (m : Bool) (ds : List D) (c : Cells) : Res W := if ds.length ≤ sizeLine then (if m = true then .ok (.c c.length) (c ++ [some ds]) else .ok (.v (.lst ds)) c) else .bad
/-- a + b of lists, to be a cell -/
def addC (x y : D) (c : Cells) : Res W := match x, y with
  | .lst xs, .lst ys => if xs.length + ys.length ≤ sizeLine then .ok (.c c.length) (c ++ [some (xs ++ ys)]) else .bad
  | _, _ => .bad
/-- a cell's items -/
def cellAt (w : W) (c : Cells) : Option (Nat × List D) := match w with
  | .c n => match c[n]? with
    | some (some ds) => some (n, ds)
    | _ => none
  | _ => none

structure Def where
  par : Nat
  slots : Nat
  body : Ss
structure Tab where
  glob : Nat → Option D
  defs : Nat → Option Def
  /-- which class's clause takes which exception -/
  sub : Exc → Exc → Bool

section
variable (G : Nat → Option D) (call : Nat → List W → Cells → Res W)
mutual
def evE : E → Env → Cells → Res W
  | .var i, ρ, c => match ρ[i]? with
    | some (some w) => .ok w c
    | _ => .bad
  | .con d, _, c => .ok (.v d) c
  | .glo g, _, c => ret (G g) c
  | .tup es, ρ, c => (evEs es ρ c).bind fun ws c => match vals ws with
    | some ds => if ds.length ≤ sizeLine then .ok (.v (.tup ds)) c else .bad
    | none => .bad
  | .lst es, ρ, c => (evEs es ρ c).bind fun ws c => match vals ws with
    | some ds => if ds.length ≤ sizeLine then .ok (.v (.lst ds)) c else .bad
    | none => .bad
  | .cel es, ρ, c => (evEs es ρ c).bind fun ws c => match vals ws with
    | some ds => if ds.length ≤ sizeLine then .ok (.c c.length) (c ++ [some ds]) else .bad
    | none => .bad
  | .dic ks es, ρ, c => (evEs es ρ c).bind fun ws c => match vals ws with
    | some ds => if ks.length = ds.length ∧ ks.Nodup then .ok (.v (.dct ks ds)) c else .bad
    | none => .bad
  | .and a b, ρ, c => (evE a ρ c).bind fun w c => (truth w c).bind fun k c => if k = true then (evE b ρ c).bind fun w c => (truth w c).bind fun k c => .ok (.v (.bl k)) c else .ok (.v (.bl false)) c
  | .or a b, ρ, c => (evE a ρ c).bind fun w c => (truth w c).bind fun k c => if k = true then .ok (.v (.bl true)) c else (evE b ρ c).bind fun w c => (truth w c).bind fun k c => .ok (.v (.bl k)) c
  | .not a, ρ, c => (evE a ρ c).bind fun w c => (truth w c).bind fun k c => .ok (.v (.bl (!k))) c
  | .cmp o a b, ρ, c => (evE a ρ c).bind fun x c => (evE b ρ c).bind fun y c => (rdR x c).bind fun x c => (rdR y c).bind fun y c => retB (cmpD o x y) c
  | .chn o p a b e, ρ, c => (evE a ρ c).bind fun x c => (evE b ρ c).bind fun y c => (rdR x c).bind fun x c => (rdR y c).bind fun y' c => (Res.ofO (cmpD o x y') c).bind fun k c => if k = true then (evE e ρ c).bind fun z c => (rdR y c).bind fun y c => (rdR z c).bind fun z c => retB (cmpD p y z) c else .ok (.v (.bl false)) c
  | .bin o a b, ρ, c => (evE a ρ c).bind fun x c => (evE b ρ c).bind fun y c => (rdR x c).bind fun x c => (rdR y c).bind fun y c => ret (opD o x y) c
  | .neg a, ρ, c => (evE a ρ c).bind fun x c => match x with
    | .v (.int i) => .ok (.v (.int (-i))) c
    | _ => .bad
  | .ite t a b, ρ, c => (evE t ρ c).bind fun w c => (truth w c).bind fun k c => if k = true then evE a ρ c else evE b ρ c
  | .idx a i, ρ, c => (evE a ρ c).bind fun x c => (evE i ρ c).bind fun y c => (rdR x c).bind fun x c => (valR y c).bind fun y c => ret (idxD x y) c
  | .slc a lo hi, ρ, c => (evE a ρ c).bind fun x c => (evEo lo ρ c).bind fun l c => (evEo hi ρ c).bind fun h c => (rdR x c).bind fun x c => ret (slcD x l h) c
  | .call f es, ρ, c => (evEs es ρ c).bind fun ws c => call f ws c
  | .blt f es, ρ, c => (evEs es ρ c).bind fun ws c => match rdAll c ws with
    | some ds => ret (bltD f ds) c
    | none => .bad
  | .isi a t, ρ, c => (evE a ρ c).bind fun x c => (rdR x c).bind fun d c => retB (tyD t d) c
  | .get a k e, ρ, c => (evE a ρ c).bind fun x c => match x with
    | .v (.dct ks ds) => (evE k ρ c).bind fun y c => (evE e ρ c).bind fun z c => match y, z with
      | .v (.str t), .v d => .ok (.v ((getK ks ds t).getD d)) c
      | _, _ => .bad
    | _ => .bad
  | .app a e, ρ, c => (evE a ρ c).bind fun x c => match x with
    | .c n => (evE e ρ c).bind fun y c => match c[n]?, y with
      | some (some ds), .v d => if ds.length < sizeLine then .ok (.v .non) (c.set n (some (ds ++ [d]))) else .bad
      | _, _ => .bad
    | _ => .bad
  | .pop a e, ρ, c => (evE a ρ c).bind fun x c => match x with
    | .c n => (evE e ρ c).bind fun y c => match c[n]?, y with
      | some (some ds), .v (.int i) => if 0 ≤ i ∧ i < ds.length ∧ i < 2 ^ 62 then match ds[i.toNat]? with
        | some d => .ok (.v d) (c.set n (some (ds.eraseIdx i.toNat)))
        | none => .bad
        else .bad
      | _, _ => .bad
    | _ => .bad
  | .frz a, ρ, c => (evE a ρ c).bind fun x c => match cellAt x c with
    | some (n, ds) => .ok (.v (.lst ds)) (c.set n none)
    | none => .bad
  | .cad a b, ρ, c => (evE a ρ c).bind fun x c => (evE b ρ c).bind fun y c => (rdR x c).bind fun x c => (rdR y c).bind fun y c => addC x y c
  | .lc m elt ts it t, ρ, c => (evIt it ρ c).bind fun xs c =>
    (lcLoop (lcItem ts ρ (evEoT t) (evE elt)) xs c).bind (mkL m)
  | .lc2 elt ts it t ts1 it1 t1, ρ, c => (evIt it ρ c).bind fun xs c =>
    (lcLoop (fun d c => match bindIs ts d (wipeE ρ (ts ++ ts1)) with
      | some ρ1 => (evEoT t ρ1 c).bind fun k c => if k = true then (evIt it1 ρ1 c).bind fun ys c =>
          lcLoop (fun e c => match bindIs ts1 e (wipeE ρ1 ts1) with
            | some ρ2 => (evEoT t1 ρ2 c).bind fun k c => if k = true then (evE elt ρ2 c).bind fun w c => match w with
              | .v d => .ok [d] c
              | .c _ => .bad
              else .ok [] c
            | none => .bad) ys c
        else .ok [] c
      | none => .bad) xs c).bind fun ds c => if ds.length ≤ sizeLine then .ok (.v (.lst ds)) c else .bad
def evEs : Es → Env → Cells → Res (List W)
  | .nil, _, c => .ok [] c
  | .cons e r, ρ, c => (evE e ρ c).bind fun w c => (evEs r ρ c).bind fun ws c => .ok (w :: ws) c
/-- a slice's part -/
def evEo : Eo → Env → Cells → Res (Option Int)
  | .non, _, c => .ok none c
  | .som e, ρ, c => (evE e ρ c).bind fun w c => match w with
    | .v (.int i) => .ok (some i) c
    | _ => .bad
/-- a comprehension's test -/
def evEoT : Eo → Env → Cells → Res Bool
  | .non, _, c => .ok true c
  | .som e, ρ, c => (evE e ρ c).bind fun w c => truth w c
/-- what is walked -/
def evIt : Iw → Env → Cells → Res (List D)
  | .zip a b, ρ, c => (evE a ρ c).bind fun x c => (evE b ρ c).bind fun y c => match x, y with
    | .v (.tup xs), .v (.tup ys) => .ok (zipD xs ys) c
    | .v (.lst xs), .v (.lst ys) => .ok (zipD xs ys) c
    | _, _ => .bad
  | .rng a, ρ, c => (evE a ρ c).bind fun x c => match x with
    | .v (.int j) => if okInt j = true then .ok (rngD 0 j.toNat) c else .bad
    | _ => .bad
  | .rng2 a b, ρ, c => (evE a ρ c).bind fun x c => (evE b ρ c).bind fun y c => match x, y with
    | .v (.int i), .v (.int j) => if okInt i = true ∧ okInt j = true then .ok (rngD i (j - i).toNat) c else .bad
    | _, _ => .bad
  | .val e, ρ, c => (evE e ρ c).bind fun x c => match x with
    | .v d => .ofO (walkD d) c
    | .c _ => .bad
end

/-! ### statements -/
inductive Fl where
  | nxt (ρ : Env)
  | ret (w : W)
/-- a for loop -/
def forLoop (f : D → Env → Cells → Res Fl) : List D → Env → Cells → Res Fl
  | [], ρ, c => .ok (.nxt ρ) c
  | d :: r, ρ, c => (f d ρ c).bind fun k c => match k with
    | .nxt ρ => forLoop f r ρ c
    | .ret w => .ok (.ret w) c
/-- a while loop, at most so many turns -/
def whlLoop (t : Env → Cells → Res Bool) (f : Env → Cells → Res Fl) : Nat → Env → Cells → Res Fl
  | 0, _, _ => .bad
  | n + 1, ρ, c => (t ρ c).bind fun k c => if k = true then (f ρ c).bind fun k c => match k with
      | .nxt ρ => whlLoop t f n ρ c
      | .ret w => .ok (.ret w) c
    else .ok (.nxt ρ) c
variable (sub : Exc → Exc → Bool) (wf : Nat)
/-- the clauses of a try: each hands back a constant -/
def evHs : Hs → Exc → Cells → Res Fl
  | .nil, x, c => .exc x c
  | .cons y d r, x, c => if sub x y = true then .ok (.ret (.v d)) c else evHs r x c
mutual
def evS : S → Env → Cells → Res Fl
  | .set (.name i) e, ρ, c => (evE G call e ρ c).bind fun w c => if i < ρ.length then .ok (.nxt (ρ.set i (some w))) c else .bad
  | .set (.names is) e, ρ, c => (evE G call e ρ c).bind fun w c => match w with
    | .v (.tup ds) => if ds.length = is.length ∧ (is.all fun i => decide (i < ρ.length)) = true then .ok (.nxt (bindNames is (ds.map .v) ρ)) c else .bad
    | _ => .bad
  | .set (.item a i) e, ρ, c => (evE G call e ρ c).bind fun w c => (evE G call a ρ c).bind fun x c => (evE G call i ρ c).bind fun y c => match cellAt x c, y, w with
    | some (n, ds), .v (.int j), .v d => match L2.ixN ds.length j with
      | some k => .ok (.nxt ρ) (c.set n (some (ds.set k d)))
      | none => .bad
    | _, _, _ => .bad
  | .par sw is es, ρ, c => (evEs G call es ρ c).bind fun ws c => if ws.length = is.length ∧ (is.all fun i => decide (i < ρ.length)) = true ∧ (sw = true ∨ (vals ws).isSome = true) then .ok (.nxt (bindNames is ws ρ)) c else .bad
  | .aug i e, ρ, c => match ρ[i]? with
    | some (some (.v (.int x))) => (evE G call e ρ c).bind fun w c => match w with
      | .v (.int y) => .ok (.nxt (ρ.set i (some (.v (.int (x + y)))))) c
      | _ => .bad
    | _ => .bad
  | .ife e a b, ρ, c => (evE G call e ρ c).bind fun w c => (truth w c).bind fun k c => if k = true then evSs a ρ c else evSs b ρ c
  | .for is it b, ρ, c => (evIt G call it ρ c).bind fun xs c => forLoop (fun d ρ c => match bindIs is d ρ with
      | some ρ => evSs b ρ c
      | none => .bad) xs ρ c
  | .whl e b, ρ, c => whlLoop (fun ρ c => (evE G call e ρ c).bind fun w c => truth w c) (fun ρ c => evSs b ρ c) wf ρ c
  | .ret e, ρ, c => (evE G call e ρ c).bind fun w c => .ok (.ret w) c
  | .rse x, _, c => .exc x c
  | .exp e, ρ, c => (evE G call e ρ c).bind fun _ c => .ok (.nxt ρ) c
  | .pass, ρ, c => .ok (.nxt ρ) c
  | .try b hs, ρ, c => match evSs b ρ c with
    | .exc x c1 => evHs sub hs x c1
    | r => r
def evSs : Ss → Env → Cells → Res Fl
  | .nil, ρ, c => .ok (.nxt ρ) c
  | .cons s r, ρ, c => (evS s ρ c).bind fun k c => match k with
    | .nxt ρ => evSs r ρ c
    | .ret w => .ok (.ret w) c
end
end
/-- a call's end: the cells that it made are gone, but the one that it hands back -/
def finish (n : Nat) : Res Fl → Res W
  | .ok (.nxt _) c => .ok (.v .non) (c.take n)
  | .ok (.ret (.v d)) c => .ok (.v d) (c.take n)
  | .ok (.ret (.c m)) c => if m < n then .ok (.c m) (c.take n) else match c[m]? with
    | some (some ds) => .ok (.c n) (c.take n ++ [some ds])
    | _ => .bad
  | .exc x c => .exc x (c.take n)
  | .bad => .bad
def startE (slots : Nat) (ws : List W) : Env := ws.map some ++ List.replicate (slots - ws.length) none
/-- a call, at most so deep -/
def ev (Γ : Tab) (wf : Nat) : Nat → Nat → List W → Cells → Res W
  | 0, _, _, _ => .bad
  | n + 1, f, ws, c => match Γ.defs f with
    | some d => if ws.length = d.par then finish c.length (evSs Γ.glob (ev Γ wf n) Γ.sub wf d.body (startE d.slots ws) c) else .bad
    | none => .bad
end Q
end
section
set_option autoImplicit false
set_option maxRecDepth 100000
namespace Q
def es : List E → Es
  | [] => .nil
  | e :: r => .cons e (es r)
def ss : List S → Ss
  | [] => .nil
  | s :: r => .cons s (ss r)
def hsl : List (Exc × D) → Hs
  | [] => .nil
  | (x, d) :: r => .cons x d (hsl r)
def txts (l : List String) : List PySem.Str := l.map PySem.Str.ofString
end Q
end
section
set_option autoImplicit false
/-! # The shallow side: combinators, and how they follow the evaluator (m ⊑ ev: where m is not .bad, ev is m) -/
namespace Q
abbrev M (α : Type) := Cells → Res α
section
variable {α β γ : Type}
def Le (a b : Res α) : Prop := a = .bad ∨ b = a
theorem Le.refl (a : Res α) : Le a a := .inr rfl
theorem Le.bad (b : Res α) : Le .bad b := .inl rfl
theorem Le.bind {a a' : Res α} {f f' : α → Cells → Res β} (h : Le a a') (k : ∀ x c, Le (f x c) (f' x c)) : Le (a.bind f) (a'.bind f') := by
  rcases h with h | h
  · rw [h]; exact .bad _
  · rw [h]
    cases a with
    | ok x c => exact k x c
    | exc x c => exact .refl _
    | bad => exact .bad _
theorem Le.ite {p : Prop} [Decidable p] {a a' b b' : Res α} (h : Le a a') (k : Le b b') : Le (if p then a else b) (if p then a' else b') := by split <;> assumption
def LeM (a b : M α) : Prop := ∀ c, Le (a c) (b c)

def M.pure (a : α) : M α := fun c => .ok a c
def M.bad : M α := fun _ => .bad
def M.bind (m : M α) (f : α → M β) : M β := fun c => (m c).bind fun a c => f a c
def M.exc (x : Exc) : M α := fun c => .exc x c
@[simp] theorem M.pure_bind (a : α) (f : α → M β) : M.bind (M.pure a) f = f a := Eq.trans rfl rfl
@[simp] theorem M.bad_bind (f : α → M β) : M.bind (M.bad : M α) f = M.bad := Eq.trans rfl rfl
@[simp] theorem M.exc_bind (x : Exc) (f : α → M β) : M.bind (M.exc x : M α) f = M.exc x := Eq.trans rfl rfl
theorem M.bind_assoc (m : M α) (f : α → M β) (g : β → M γ) : M.bind (M.bind m f) g = M.bind m fun a => M.bind (f a) g := by
  funext c
  unfold M.bind
  cases m c <;> rfl
@[simp] theorem M.ite_bind {p : Prop} [Decidable p] (a b : M α) (f : α → M β) : M.bind (if p then a else b) f = if p then M.bind a f else M.bind b f := by split <;> rfl
def M.ofO (o : Option α) : M α := match o with
  | some a => M.pure a
  | none => M.bad
@[simp] theorem M.ofO_some (a : α) : M.ofO (some a) = M.pure a := Eq.trans rfl rfl
@[simp] theorem M.ofO_none : M.ofO (none : Option α) = M.bad := Eq.trans rfl rfl
end

/-! ### combinators -/
def pW (w : W) : M W := M.pure w
def pV (d : D) : M W := M.pure (.v d)
def pB (b : Bool) : M Bool := M.pure b
@[simp] theorem pW_v (d : D) : pW (.v d) = pV d := Eq.trans rfl rfl
@[simp] theorem pV_bind {β : Type} (d : D) (f : W → M β) : M.bind (pV d) f = f (.v d) := Eq.trans rfl rfl
@[simp] theorem pW_bind {β : Type} (w : W) (f : W → M β) : M.bind (pW w) f = f w := Eq.trans rfl rfl
@[simp] theorem pB_bind {β : Type} (b : Bool) (f : Bool → M β) : M.bind (pB b) f = f b := Eq.trans rfl rfl
def bV (t : M Bool) : M W := M.bind t fun b => pV (.bl b)
def tst (m : M W) : M Bool := M.bind m fun w => fun c => truth w c
@[simp] theorem bV_pB (b : Bool) : bV (pB b) = pV (.bl b) := Eq.trans rfl rfl
@[simp] theorem tst_pV (b : Bool) : tst (pV (.bl b)) = pB b := Eq.trans rfl rfl
theorem tst_bV (t : M Bool) : tst (bV t) = t := by
  funext c
  unfold tst bV M.bind
  cases t c <;> rfl
def notT (t : M Bool) : M Bool := M.bind t fun b => pB (!b)
def andT (s t : M Bool) : M Bool := M.bind s fun b => if b = true then t else pB false
def orT (s t : M Bool) : M Bool := M.bind s fun b => if b = true then pB true else t
@[simp] theorem notT_pB (b : Bool) : notT (pB b) = pB (!b) := Eq.trans rfl rfl
@[simp] theorem andT_t (t : M Bool) : andT (pB true) t = t := Eq.trans rfl rfl
@[simp] theorem andT_f (t : M Bool) : andT (pB false) t = pB false := Eq.trans rfl rfl
@[simp] theorem orT_t (t : M Bool) : orT (pB true) t = pB true := Eq.trans rfl rfl
@[simp] theorem orT_f (t : M Bool) : orT (pB false) t = t := Eq.trans rfl rfl
theorem andT_pB (a b : Bool) : andT (pB a) (pB b) = pB (a && b) := by cases a <;> rfl
theorem orT_pB (a b : Bool) : orT (pB a) (pB b) = pB (a || b) := by cases a <;> rfl
def ifM {α : Type} (t : M Bool) (a b : M α) : M α := M.bind t fun k => if k = true then a else b
@[simp] theorem ifM_t {α : Type} (a b : M α) : ifM (pB true) a b = a := Eq.trans rfl rfl
@[simp] theorem ifM_f {α : Type} (a b : M α) : ifM (pB false) a b = b := Eq.trans rfl rfl
theorem ifM_pB {α : Type} (p : Bool) (a b : M α) : ifM (pB p) a b = if p = true then a else b := rfl
def rdM (w : W) : M D := fun c => rdR w c
@[simp] theorem rdM_v (d : D) : rdM (.v d) = M.pure d := Eq.trans rfl rfl
def cmpT (o : Cmp) (a b : M W) : M Bool := M.bind a fun x => M.bind b fun y => M.bind (rdM x) fun x => M.bind (rdM y) fun y => M.ofO (cmpD o x y)
@[simp] theorem cmpT_v (o : Cmp) (a b : D) : cmpT o (pV a) (pV b) = M.ofO (cmpD o a b) := Eq.trans rfl rfl
def chnT (o p : Cmp) (a b e : M W) : M Bool := M.bind a fun x => M.bind b fun y => M.bind (rdM x) fun x => M.bind (rdM y) fun y' => M.bind (M.ofO (cmpD o x y')) fun k => if k = true then M.bind e fun z => M.bind (rdM y) fun y => M.bind (rdM z) fun z => M.ofO (cmpD p y z) else pB false
@[simp] theorem chnT_v (o p : Cmp) (a b e : D) : chnT o p (pV a) (pV b) (pV e) = M.bind (M.ofO (cmpD o a b)) fun k => if k = true then M.ofO (cmpD p b e) else pB false := Eq.trans rfl rfl
def isT (t : Ty) (a : M W) : M Bool := M.bind a fun x => M.bind (rdM x) fun d => M.ofO (tyD t d)
@[simp] theorem isT_v (t : Ty) (d : D) : isT t (pV d) = M.ofO (tyD t d) := Eq.trans rfl rfl
def gloM (G : Nat → Option D) (g : Nat) : M W := fun c => ret (G g) c
def seqM : List (M W) → M (List W)
  | [] => M.pure []
  | m :: r => M.bind m fun w => M.bind (seqM r) fun ws => M.pure (w :: ws)
def valsM (ms : List (M W)) : M (List D) := M.bind (seqM ms) fun ws => M.ofO (vals ws)
@[simp] theorem valsM_nil : valsM [] = M.pure [] := Eq.trans rfl rfl
theorem vals_cons (d : D) (ws : List W) : vals (.v d :: ws) = (vals ws).map (d :: ·) := rfl
@[simp] theorem valsM_cons (d : D) (r : List (M W)) : valsM (pV d :: r) = M.bind (valsM r) fun ds => M.pure (d :: ds) := by
  funext c
  show ((seqM r c).bind fun ws c => Res.ok (W.v d :: ws) c).bind _ = (((seqM r) c).bind _).bind _
  cases seqM r c with
  | ok ws c =>
    show M.ofO (vals (.v d :: ws)) c = ((M.ofO (vals ws)) c).bind _
    rw [vals_cons]
    cases vals ws <;> rfl
  | exc x c => rfl
  | bad => rfl
def szM (ds : List D) (m : M W) : M W := if ds.length ≤ PySem.sizeLine then m else M.bad
def tupM (ms : List (M W)) : M W := M.bind (valsM ms) fun ds => szM ds (pV (.tup ds))
def lstM (ms : List (M W)) : M W := M.bind (valsM ms) fun ds => szM ds (pV (.lst ds))
def newC (ds : List D) : M W := fun c => .ok (.c c.length) (c ++ [some ds])
def celM (ms : List (M W)) : M W := M.bind (valsM ms) fun ds => szM ds (newC ds)
def dicM (ks : List PySem.Str) (ms : List (M W)) : M W := M.bind (valsM ms) fun ds => if ks.length = ds.length ∧ ks.Nodup then pV (.dct ks ds) else M.bad
def binM (o : Op) (a b : M W) : M W := M.bind a fun x => M.bind b fun y => M.bind (rdM x) fun x => M.bind (rdM y) fun y => M.bind (M.ofO (opD o x y)) fun d => pV d
@[simp] theorem binM_v (o : Op) (a b : D) : binM o (pV a) (pV b) = M.bind (M.ofO (opD o a b)) fun d => pV d := Eq.trans rfl rfl
def negW (w : W) : M W := match w with
  | .v (.int i) => pV (.int (-i))
  | _ => M.bad
def negM (a : M W) : M W := M.bind a negW
@[simp] theorem negM_v (i : Int) : negM (pV (.int i)) = pV (.int (-i)) := Eq.trans rfl rfl
def valM (w : W) : M D := fun c => valR w c
@[simp] theorem valM_v (d : D) : valM (.v d) = M.pure d := Eq.trans rfl rfl
def idxM (a i : M W) : M W := M.bind a fun x => M.bind i fun y => M.bind (rdM x) fun x => M.bind (valM y) fun y => M.bind (M.ofO (idxD x y)) fun d => pV d
@[simp] theorem idxM_v (a i : D) : idxM (pV a) (pV i) = M.bind (M.ofO (idxD a i)) fun d => pV d := Eq.trans rfl rfl
def intW (w : W) : M (Option Int) := match w with
  | .v (.int i) => M.pure (some i)
  | _ => M.bad
def oN : M (Option Int) := M.pure none
def oS (m : M W) : M (Option Int) := M.bind m intW
@[simp] theorem oS_v (i : Int) : oS (pV (.int i)) = M.pure (some i) := Eq.trans rfl rfl
@[simp] theorem oN_bind {β : Type} (f : Option Int → M β) : M.bind oN f = f none := Eq.trans rfl rfl
def slcM (a : M W) (lo hi : M (Option Int)) : M W := M.bind a fun x => M.bind lo fun l => M.bind hi fun h => M.bind (rdM x) fun x => M.bind (M.ofO (slcD x l h)) fun d => pV d
def rdsM (ms : List (M W)) : M (List D) := M.bind (seqM ms) fun ws c => .ofO (rdAll c ws) c
@[simp] theorem rdsM_nil : rdsM [] = M.pure [] := Eq.trans rfl rfl
theorem rdAll_cons (c : Cells) (d : D) (ws : List W) : rdAll c (.v d :: ws) = (rdAll c ws).map (d :: ·) := by
  show (match some d, rdAll c ws with
    | some d, some ds => some (d :: ds)
    | _, _ => none) = _
  cases rdAll c ws <;> rfl
@[simp] theorem rdsM_cons (d : D) (r : List (M W)) : rdsM (pV d :: r) = M.bind (rdsM r) fun ds => M.pure (d :: ds) := by
  funext c
  show ((seqM r c).bind fun ws c => Res.ok (W.v d :: ws) c).bind _ = (((seqM r) c).bind _).bind _
  cases seqM r c with
  | ok ws c =>
    show Res.ofO (rdAll c (.v d :: ws)) c = (Res.ofO (rdAll c ws) c).bind _
    rw [rdAll_cons]
    cases rdAll c ws <;> rfl
  | exc x c => rfl
  | bad => rfl
def bltM (f : Blt) (ms : List (M W)) : M W := M.bind (rdsM ms) fun ds => M.bind (M.ofO (bltD f ds)) fun d => pV d
def getW (x : W) (k e : M W) : M W := match x with
  | .v (.dct ks ds) => M.bind k fun y => M.bind e fun z => match y, z with
      | .v (.str t), .v d => pV ((getK ks ds t).getD d)
      | _, _ => M.bad
  | _ => M.bad
def getM (a k e : M W) : M W := M.bind a fun x => getW x k e
@[simp] theorem getM_v (ks : List PySem.Str) (ds : List D) (t : PySem.Str) (d : D) : getM (pV (.dct ks ds)) (pV (.str t)) (pV d) = pV ((getK ks ds t).getD d) := Eq.trans rfl rfl
def appW (x : W) (e : M W) : M W := match x with
  | .c n => M.bind e fun y => fun c => match c[n]?, y with
      | some (some ds), .v d => if ds.length < PySem.sizeLine then .ok (.v .non) (c.set n (some (ds ++ [d]))) else .bad
      | _, _ => .bad
  | _ => M.bad
def appM (a e : M W) : M W := M.bind a fun x => appW x e
def popW (x : W) (e : M W) : M W := match x with
  | .c n => M.bind e fun y => fun c => match c[n]?, y with
      | some (some ds), .v (.int i) => if 0 ≤ i ∧ i < ds.length ∧ i < 2 ^ 62 then match ds[i.toNat]? with
        | some d => .ok (.v d) (c.set n (some (ds.eraseIdx i.toNat)))
        | none => .bad
        else .bad
      | _, _ => .bad
  | _ => M.bad
def popM (a e : M W) : M W := M.bind a fun x => popW x e
def frzW (x : W) : M W := fun c => match cellAt x c with
    | some (n, ds) => .ok (.v (.lst ds)) (c.set n none)
    | none => .bad
def frzM (a : M W) : M W := M.bind a frzW
def cadM (a b : M W) : M W := M.bind a fun x => M.bind b fun y => M.bind (rdM x) fun x => M.bind (rdM y) fun y => fun c => addC x y c
/-- what is walked -/
def zipW (x y : W) : M (List D) := match x, y with
    | .v (.tup xs), .v (.tup ys) => M.pure (zipD xs ys)
    | .v (.lst xs), .v (.lst ys) => M.pure (zipD xs ys)
    | _, _ => M.bad
def zipM (a b : M W) : M (List D) := M.bind a fun x => M.bind b fun y => zipW x y
@[simp] theorem zipM_t (xs ys : List D) : zipM (pV (.tup xs)) (pV (.tup ys)) = M.pure (zipD xs ys) := Eq.trans rfl rfl
@[simp] theorem zipM_l (xs ys : List D) : zipM (pV (.lst xs)) (pV (.lst ys)) = M.pure (zipD xs ys) := Eq.trans rfl rfl
def rngW (x : W) : M (List D) := match x with
    | .v (.int j) => if okInt j = true then M.pure (rngD 0 j.toNat) else M.bad
    | _ => M.bad
def rngM (a : M W) : M (List D) := M.bind a rngW
def rng2W (x y : W) : M (List D) := match x, y with
    | .v (.int i), .v (.int j) => if okInt i = true ∧ okInt j = true then M.pure (rngD i (j - i).toNat) else M.bad
    | _, _ => M.bad
def rng2M (a b : M W) : M (List D) := M.bind a fun x => M.bind b fun y => rng2W x y
def walkW (x : W) : M (List D) := match x with
    | .v d => M.ofO (walkD d)
    | .c _ => M.bad
def walkM (a : M W) : M (List D) := M.bind a walkW
@[simp] theorem walkM_v (d : D) : walkM (pV d) = M.ofO (walkD d) := Eq.trans rfl rfl
/-- comprehensions -/
def mapC {α : Type} (f : α → M (List D)) : List α → M (List D)
  | [] => M.pure []
  | d :: r => fun c => (noExc (f d c)).bind fun a c1 => (mapC f r c1).bind fun b c2 => .ok (a ++ b) c2
def one1 (t : M Bool) (e : M W) : M (List D) := M.bind t fun k => if k = true then M.bind e fun w => match w with
    | .v d => M.pure [d]
    | .c _ => M.bad
    else M.pure []
def mkLM (m : Bool) (ds : List D) : M W := fun c => mkL m ds c
def lcM (m : Bool) (it : M (List D)) (t : D → M Bool) (e : D → M W) : M W := M.bind it fun xs => M.bind (mapC (fun d => one1 (t d) (e d)) xs) (mkLM m)
def pair {α : Type} (f : D → D → M α) (d : D) : M α := match d with
  | .tup [a, b] => f a b
  | _ => M.bad
def trip {α : Type} (f : D → D → D → M α) (d : D) : M α := match d with
  | .tup [a, b, e] => f a b e
  | _ => M.bad
def quad {α : Type} (f : D → D → D → D → M α) (d : D) : M α := match d with
  | .tup [a, b, e, g] => f a b e g
  | _ => M.bad
def quin {α : Type} (f : D → D → D → D → D → M α) (d : D) : M α := match d with
  | .tup [a, b, e, g, h] => f a b e g h
  | _ => M.bad
/-- calls' ends -/
def cutM (m : M W) : M W := fun c => finish c.length ((m c).bind fun w c => .ok (.ret w) c)
@[simp] theorem cutM_v (d : D) : cutM (pV d) = pV d := by
  funext c
  show Res.ok (W.v d) (c.take c.length) = _
  rw [List.take_length]
  rfl
@[simp] theorem cutM_exc (x : Exc) : cutM (M.exc x) = M.exc x := by
  funext c
  show Res.exc x (c.take c.length) = _
  rw [List.take_length]
  rfl
@[simp] theorem cutM_bad : cutM M.bad = M.bad := Eq.trans rfl rfl
@[simp] theorem cutM_ite {p : Prop} [Decidable p] (a b : M W) : cutM (if p then a else b) = if p then cutM a else cutM b := by split <;> rfl
/-- a loop's turn: on, or the call's answer -/
inductive St (σ : Type) where
  | nxt (s : σ)
  | ret (w : W)
def pN {σ : Type} (s : σ) : M (St σ) := M.pure (.nxt s)
def pR {σ : Type} (w : W) : M (St σ) := M.pure (.ret w)
def loopL {σ : Type} (f : σ → D → M (St σ)) : List D → σ → M (St σ)
  | [], s => pN s
  | d :: r, s => M.bind (f s d) fun k => match k with
    | .nxt s => loopL f r s
    | .ret w => pR w
def forM {σ β : Type} (rt : W → M β) (it : M (List D)) (s : σ) (f : σ → D → M (St σ)) (k : σ → M β) : M β := M.bind it fun xs => M.bind (loopL f xs s) fun r => match r with
  | .nxt s => k s
  | .ret w => rt w
def loopW {σ : Type} (t : σ → M Bool) (f : σ → M (St σ)) : Nat → σ → M (St σ)
  | 0, _ => M.bad
  | n + 1, s => M.bind (t s) fun k => if k = true then M.bind (f s) fun k => match k with
      | .nxt s => loopW t f n s
      | .ret w => pR w
    else pN s
def whlM {σ β : Type} (rt : W → M β) (wf : Nat) (s : σ) (t : σ → M Bool) (f : σ → M (St σ)) (k : σ → M β) : M β := M.bind (loopW t f wf s) fun r => match r with
  | .nxt s => k s
  | .ret w => rt w
def un2 {α : Type} (f : W → W → M α) (w : W) : M α := match w with
  | .v (.tup [a, b]) => f (.v a) (.v b)
  | _ => M.bad
def un3 {α : Type} (f : W → W → W → M α) (w : W) : M α := match w with
  | .v (.tup [a, b, e]) => f (.v a) (.v b) (.v e)
  | _ => M.bad
def un4 {α : Type} (f : W → W → W → W → M α) (w : W) : M α := match w with
  | .v (.tup [a, b, e, g]) => f (.v a) (.v b) (.v e) (.v g)
  | _ => M.bad
def un5 {α : Type} (f : W → W → W → W → W → M α) (w : W) : M α := match w with
  | .v (.tup [a, b, e, g, h]) => f (.v a) (.v b) (.v e) (.v g) (.v h)
  | _ => M.bad
/-- w must be a plain value -/
def vW {α : Type} (w : W) (m : M α) : M α := match w with
  | .v _ => m
  | .c _ => M.bad
@[simp] theorem vW_v {α : Type} (d : D) (m : M α) : vW (.v d) m = m := Eq.trans rfl rfl
def updW (x y w : W) : M Unit := fun c => match cellAt x c, y, w with
    | some (n, ds), .v (.int j), .v d => match L2.ixN ds.length j with
      | some i => .ok () (c.set n (some (ds.set i d)))
      | none => .bad
    | _, _, _ => .bad
def setW (x y w : W) {α : Type} (k : M α) : M α := M.bind (updW x y w) fun _ => k
def augW {α : Type} (x : W) (e : M W) (k : W → M α) : M α := match x with
  | .v (.int i) => M.bind e fun w => match w with
      | .v (.int y) => k (.v (.int (i + y)))
      | _ => M.bad
  | _ => M.bad
/-- the clauses of a try: each hands back a constant -/
def hsM (sub : Exc → Exc → Bool) : List (Exc × D) → Exc → M W
  | [], x => M.exc x
  | (y, d) :: r, x => if sub x y = true then pV d else hsM sub r x
def tryM (sub : Exc → Exc → Bool) (m : M W) (hs : List (Exc × D)) : M W := fun c => match m c with
  | .exc x c => hsM sub hs x c
  | r => r
end Q
end
section
set_option autoImplicit false
/-! # The shallow side follows the evaluator: the rules -/
namespace Q
section
variable {α β : Type}
theorem Res.bind_assoc {γ : Type} (r : Res α) (f : α → Cells → Res β) (g : β → Cells → Res γ) : (r.bind f).bind g = r.bind fun a c => (f a c).bind g := by cases r <;> rfl
theorem Res.bind_congr (r : Res α) {f g : α → Cells → Res β} (h : ∀ a c, f a c = g a c) : r.bind f = r.bind g := by cases r <;> simp [h]
theorem LeM.refl (a : M α) : LeM a a := fun _ => Le.refl _
theorem LeM.bind {a a' : M α} {f f' : α → M β} (h : LeM a a') (k : ∀ x, LeM (f x) (f' x)) : LeM (M.bind a f) (M.bind a' f') := fun c => Le.bind (h c) fun x c => k x c
theorem LeM.bindR {a a' : M α} {f : α → M β} (h : LeM a a') : LeM (M.bind a f) (M.bind a' f) := LeM.bind h fun _ => LeM.refl _
theorem LeM.ite {p : Prop} [Decidable p] {a a' b b' : M α} (h : LeM a a') (k : LeM b b') : LeM (if p then a else b) (if p then a' else b') := by split <;> assumption
theorem LeM.trans {a b d : M α} (h : LeM a b) (k : LeM b d) : LeM a d := fun c => by
  rcases h c with h | h
  · exact .inl h
  · rcases k c with k | k
    · exact .inl (by rw [← h, k])
    · exact .inr (by rw [k, h])
end
variable {G : Nat → Option D} {call : Nat → List W → Cells → Res W} {ρ : Env}
/-! ### the evaluator by the combinators -/
theorem retB_eq (o : Option Bool) : (fun c => retB o c) = M.bind (M.ofO o) fun b => pV (.bl b) := by cases o <;> rfl
theorem ret_eq (o : Option D) : (fun c => ret o c) = M.bind (M.ofO o) fun d => pV d := by cases o <;> rfl
theorem ev_con {d : D} : evE G call (.con d) ρ = pV d := rfl
theorem ev_not {a : E} : evE G call (.not a) ρ = bV (notT (tst (evE G call a ρ))) := by
  funext c
  show (evE G call a ρ c).bind _ = _
  simp only [bV, notT, tst, M.bind, Res.bind_assoc]
  exact Res.bind_congr _ fun w c => Res.bind_congr _ fun k c => rfl
theorem ev_and {a b : E} : evE G call (.and a b) ρ = bV (andT (tst (evE G call a ρ)) (tst (evE G call b ρ))) := by
  funext c
  show (evE G call a ρ c).bind _ = _
  simp only [bV, andT, tst, M.bind, Res.bind_assoc]
  refine Res.bind_congr _ fun w c => Res.bind_congr _ fun k c => ?_
  cases k
  · rfl
  · show (evE G call b ρ c).bind _ = _
    simp only [if_true, M.bind, Res.bind_assoc]
    exact Res.bind_congr _ fun w c => Res.bind_congr _ fun k c => rfl
theorem ev_or {a b : E} : evE G call (.or a b) ρ = bV (orT (tst (evE G call a ρ)) (tst (evE G call b ρ))) := by
  funext c
  show (evE G call a ρ c).bind _ = _
  simp only [bV, orT, tst, M.bind, Res.bind_assoc]
  refine Res.bind_congr _ fun w c => Res.bind_congr _ fun k c => ?_
  cases k
  · simp only [M.bind, Res.bind_assoc, Bool.false_eq_true, if_false]
    exact Res.bind_congr _ fun w c => Res.bind_congr _ fun k c => rfl
  · rfl
theorem ev_cmp {o : Cmp} {a b : E} : evE G call (.cmp o a b) ρ = bV (cmpT o (evE G call a ρ) (evE G call b ρ)) := by
  funext c
  show (evE G call a ρ c).bind _ = _
  simp only [bV, cmpT, M.bind, Res.bind_assoc]
  exact Res.bind_congr _ fun x c => Res.bind_congr _ fun y c => Res.bind_congr _ fun x c => Res.bind_congr _ fun y c => congrFun (retB_eq (cmpD o x y)) c
theorem ev_chn {o p : Cmp} {a b e : E} : evE G call (.chn o p a b e) ρ = bV (chnT o p (evE G call a ρ) (evE G call b ρ) (evE G call e ρ)) := by
  funext c
  show (evE G call a ρ c).bind _ = _
  simp only [bV, chnT, M.bind, Res.bind_assoc]
  refine Res.bind_congr _ fun x c => Res.bind_congr _ fun y c => Res.bind_congr _ fun x c => Res.bind_congr _ fun y' c => ?_
  cases cmpD o x y' with
  | none => rfl
  | some k =>
    cases k
    · rfl
    · show (evE G call e ρ c).bind _ = ((evE G call e ρ c).bind _).bind _
      simp only [M.bind, Res.bind_assoc]
      exact Res.bind_congr _ fun z c => Res.bind_congr _ fun y c => Res.bind_congr _ fun z c => congrFun (retB_eq (cmpD p y z)) c
theorem ev_isi {a : E} {t : Ty} : evE G call (.isi a t) ρ = bV (isT t (evE G call a ρ)) := by
  funext c
  show (evE G call a ρ c).bind _ = _
  simp only [bV, isT, M.bind, Res.bind_assoc]
  exact Res.bind_congr _ fun x c => Res.bind_congr _ fun d c => congrFun (retB_eq (tyD t d)) c
theorem ev_bin {o : Op} {a b : E} : evE G call (.bin o a b) ρ = binM o (evE G call a ρ) (evE G call b ρ) := by
  funext c
  show (evE G call a ρ c).bind _ = _
  simp only [binM, M.bind, Res.bind_assoc]
  exact Res.bind_congr _ fun x c => Res.bind_congr _ fun y c => Res.bind_congr _ fun x c => Res.bind_congr _ fun y c => congrFun (ret_eq (opD o x y)) c
theorem ev_neg {a : E} : evE G call (.neg a) ρ = negM (evE G call a ρ) := by
  funext c
  show (evE G call a ρ c).bind _ = (evE G call a ρ c).bind _
  exact Res.bind_congr _ fun x c => by cases x with
    | v d => cases d <;> rfl
    | c n => rfl
theorem ev_ite {t a b : E} : evE G call (.ite t a b) ρ = ifM (tst (evE G call t ρ)) (evE G call a ρ) (evE G call b ρ) := by
  funext c
  show (evE G call t ρ c).bind _ = _
  simp only [ifM, tst, M.bind, Res.bind_assoc]
  exact Res.bind_congr _ fun w c => Res.bind_congr _ fun k c => by cases k <;> rfl
theorem ev_idx {a i : E} : evE G call (.idx a i) ρ = idxM (evE G call a ρ) (evE G call i ρ) := by
  funext c
  show (evE G call a ρ c).bind _ = _
  simp only [idxM, M.bind, Res.bind_assoc]
  exact Res.bind_congr _ fun x c => Res.bind_congr _ fun y c => Res.bind_congr _ fun x c => Res.bind_congr _ fun y c => congrFun (ret_eq (idxD x y)) c
theorem ev_slc {a : E} {lo hi : Eo} : evE G call (.slc a lo hi) ρ = slcM (evE G call a ρ) (evEo G call lo ρ) (evEo G call hi ρ) := by
  funext c
  show (evE G call a ρ c).bind _ = _
  simp only [slcM, M.bind, Res.bind_assoc]
  exact Res.bind_congr _ fun x c => Res.bind_congr _ fun y c => Res.bind_congr _ fun y c => Res.bind_congr _ fun x c => congrFun (ret_eq _) c
theorem ev_blt {f : Blt} {es : Es} : evE G call (.blt f es) ρ = M.bind (M.bind (evEs G call es ρ) fun ws c => .ofO (rdAll c ws) c) fun ds => M.bind (M.ofO (bltD f ds)) fun d => pV d := by
  funext c
  show (evEs G call es ρ c).bind _ = _
  simp only [M.bind, Res.bind_assoc]
  refine Res.bind_congr _ fun ws c => ?_
  cases rdAll c ws with
  | none => rfl
  | some ds => exact congrFun (ret_eq (bltD f ds)) c
theorem ev_tup {es : Es} : evE G call (.tup es) ρ = M.bind (M.bind (evEs G call es ρ) fun ws => M.ofO (vals ws)) fun ds => szM ds (pV (.tup ds)) := by
  funext c
  show (evEs G call es ρ c).bind _ = _
  simp only [M.bind, Res.bind_assoc]
  refine Res.bind_congr _ fun ws c => ?_
  cases vals ws with
  | none => rfl
  | some ds =>
    show _ = szM ds _ c
    unfold szM
    dsimp only
    split <;> rfl
theorem ev_lst {es : Es} : evE G call (.lst es) ρ = M.bind (M.bind (evEs G call es ρ) fun ws => M.ofO (vals ws)) fun ds => szM ds (pV (.lst ds)) := by
  funext c
  show (evEs G call es ρ c).bind _ = _
  simp only [M.bind, Res.bind_assoc]
  refine Res.bind_congr _ fun ws c => ?_
  cases vals ws with
  | none => rfl
  | some ds =>
    show _ = szM ds _ c
    unfold szM
    dsimp only
    split <;> rfl
theorem ev_cel {es : Es} : evE G call (.cel es) ρ = M.bind (M.bind (evEs G call es ρ) fun ws => M.ofO (vals ws)) fun ds => szM ds (newC ds) := by
  funext c
  show (evEs G call es ρ c).bind _ = _
  simp only [M.bind, Res.bind_assoc]
  refine Res.bind_congr _ fun ws c => ?_
  cases vals ws with
  | none => rfl
  | some ds =>
    show _ = szM ds _ c
    unfold szM
    dsimp only
    split <;> rfl
theorem ev_dic {ks : List PySem.Str} {es : Es} : evE G call (.dic ks es) ρ = M.bind (M.bind (evEs G call es ρ) fun ws => M.ofO (vals ws)) fun ds => if ks.length = ds.length ∧ ks.Nodup then pV (.dct ks ds) else M.bad := by
  funext c
  show (evEs G call es ρ c).bind _ = _
  simp only [M.bind, Res.bind_assoc]
  refine Res.bind_congr _ fun ws c => ?_
  cases vals ws with
  | none => rfl
  | some ds =>
    show _ = (if _ then _ else _ : M W) c
    dsimp only
    split <;> rfl
theorem ev_get {a k e : E} : evE G call (.get a k e) ρ = getM (evE G call a ρ) (evE G call k ρ) (evE G call e ρ) := by
  funext c
  show (evE G call a ρ c).bind _ = (evE G call a ρ c).bind _
  refine Res.bind_congr _ fun x c => ?_
  cases x with
  | c n => rfl
  | v d => cases d with
    | dct ks ds =>
      show (evE G call k ρ c).bind _ = (evE G call k ρ c).bind _
      refine Res.bind_congr _ fun y c => ?_
      show (evE G call e ρ c).bind _ = (evE G call e ρ c).bind _
      refine Res.bind_congr _ fun z c => ?_
      cases y with
      | c n => rfl
      | v d => cases d <;> cases z <;> rfl
    | _ => rfl
theorem ev_app {a e : E} : evE G call (.app a e) ρ = appM (evE G call a ρ) (evE G call e ρ) := by
  funext c
  show (evE G call a ρ c).bind _ = (evE G call a ρ c).bind _
  refine Res.bind_congr _ fun x c => ?_
  cases x with
  | v d => rfl
  | c n => rfl
theorem ev_pop {a e : E} : evE G call (.pop a e) ρ = popM (evE G call a ρ) (evE G call e ρ) := by
  funext c
  show (evE G call a ρ c).bind _ = (evE G call a ρ c).bind _
  refine Res.bind_congr _ fun x c => ?_
  cases x with
  | v d => rfl
  | c n => rfl
theorem ev_frz {a : E} : evE G call (.frz a) ρ = frzM (evE G call a ρ) := rfl
theorem ev_cad {a b : E} : evE G call (.cad a b) ρ = cadM (evE G call a ρ) (evE G call b ρ) := rfl
theorem lcL_eq {α : Type} (f : D → M (List D)) : ∀ xs : List D, (fun c => lcLoop f xs c) = mapC f xs
  | [] => rfl
  | d :: r => by
    funext c
    show (noExc (f d c)).bind _ = (noExc (f d c)).bind _
    refine Res.bind_congr _ fun a c => ?_
    show (lcLoop f r c).bind _ = (mapC f r c).bind _
    rw [show lcLoop f r c = mapC f r c from congrFun (lcL_eq (α := α) f r) c]

/-! ### the judgements -/
def ShE (G : Nat → Option D) (call : Nat → List W → Cells → Res W) (e : E) (ρ : Env) (m : M W) : Prop := LeM m (evE G call e ρ)
def ShB (G : Nat → Option D) (call : Nat → List W → Cells → Res W) (e : E) (ρ : Env) (t : M Bool) : Prop := LeM (bV t) (evE G call e ρ)
def ShT (G : Nat → Option D) (call : Nat → List W → Cells → Res W) (e : E) (ρ : Env) (t : M Bool) : Prop := LeM t (tst (evE G call e ρ))
def ShEs (G : Nat → Option D) (call : Nat → List W → Cells → Res W) (es : Es) (ρ : Env) (ms : List (M W)) : Prop := LeM (seqM ms) (evEs G call es ρ)
def ShO (G : Nat → Option D) (call : Nat → List W → Cells → Res W) (e : Eo) (ρ : Env) (m : M (Option Int)) : Prop := LeM m (evEo G call e ρ)
def ShOT (G : Nat → Option D) (call : Nat → List W → Cells → Res W) (e : Eo) (ρ : Env) (m : M Bool) : Prop := LeM m (evEoT G call e ρ)
def ShI (G : Nat → Option D) (call : Nat → List W → Cells → Res W) (e : Iw) (ρ : Env) (m : M (List D)) : Prop := LeM m (evIt G call e ρ)
theorem sT_e {e : E} {m : M W} (h : ShE G call e ρ m) : ShT G call e ρ (tst m) := LeM.bindR h
theorem sT_b {e : E} {t : M Bool} (h : ShB G call e ρ t) : ShT G call e ρ t := by
  have := LeM.bindR (f := fun w => fun c => truth w c) h
  rw [show M.bind (bV t) (fun w c => truth w c) = t from tst_bV t] at this
  exact this
theorem sE_b {e : E} {t : M Bool} (h : ShB G call e ρ t) : ShE G call e ρ (bV t) := h
theorem sE_var {i : Nat} {w : W} (h : ρ[i]? = some (some w)) : ShE G call (.var i) ρ (pW w) := fun c => by
  have : evE G call (.var i) ρ c = .ok w c := by
    show (match ρ[i]? with
      | some (some w) => Res.ok w c
      | _ => .bad) = _
    rw [h]
  exact .inr this
theorem sE_con {d : D} : ShE G call (.con d) ρ (pV d) := LeM.refl _
theorem sE_glo {g : Nat} {d : D} (h : G g = some d) : ShE G call (.glo g) ρ (pV d) := fun c => by
  have : evE G call (.glo g) ρ c = .ok (.v d) c := by
    show ret (G g) c = _
    rw [h]
    rfl
  exact .inr this
theorem sB_not {a : E} {t : M Bool} (h : ShT G call a ρ t) : ShB G call (.not a) ρ (notT t) := by
  unfold ShB
  rw [ev_not]
  exact LeM.bindR (LeM.bindR h)
theorem sB_and {a b : E} {s t : M Bool} (h : ShT G call a ρ s) (k : ShT G call b ρ t) : ShB G call (.and a b) ρ (andT s t) := by
  unfold ShB
  rw [ev_and]
  exact LeM.bindR (LeM.bind h fun x => LeM.ite k (LeM.refl _))
theorem sB_or {a b : E} {s t : M Bool} (h : ShT G call a ρ s) (k : ShT G call b ρ t) : ShB G call (.or a b) ρ (orT s t) := by
  unfold ShB
  rw [ev_or]
  exact LeM.bindR (LeM.bind h fun x => LeM.ite (LeM.refl _) k)
theorem sB_cmp {o : Cmp} {a b : E} {m n : M W} (h : ShE G call a ρ m) (k : ShE G call b ρ n) : ShB G call (.cmp o a b) ρ (cmpT o m n) := by
  unfold ShB
  rw [ev_cmp]
  exact LeM.bindR (LeM.bind h fun x => LeM.bindR k)
theorem sB_chn {o p : Cmp} {a b e : E} {m n q : M W} (h : ShE G call a ρ m) (k : ShE G call b ρ n) (l : ShE G call e ρ q) : ShB G call (.chn o p a b e) ρ (chnT o p m n q) := by
  unfold ShB
  rw [ev_chn]
  exact LeM.bindR (LeM.bind h fun x => LeM.bind k fun y => LeM.bind (LeM.refl _) fun x => LeM.bind (LeM.refl _) fun y' => LeM.bind (LeM.refl _) fun b => LeM.ite (LeM.bindR l) (LeM.refl _))
theorem sB_isi {a : E} {t : Ty} {m : M W} (h : ShE G call a ρ m) : ShB G call (.isi a t) ρ (isT t m) := by
  unfold ShB
  rw [ev_isi]
  exact LeM.bindR (LeM.bindR h)
theorem sE_bin {o : Op} {a b : E} {m n : M W} (h : ShE G call a ρ m) (k : ShE G call b ρ n) : ShE G call (.bin o a b) ρ (binM o m n) := by
  unfold ShE
  rw [ev_bin]
  exact LeM.bind h fun x => LeM.bindR k
theorem sE_neg {a : E} {m : M W} (h : ShE G call a ρ m) : ShE G call (.neg a) ρ (negM m) := by
  unfold ShE
  rw [ev_neg]
  exact LeM.bindR h
theorem sE_ite {t a b : E} {s : M Bool} {m n : M W} (h : ShT G call t ρ s) (k : ShE G call a ρ m) (l : ShE G call b ρ n) : ShE G call (.ite t a b) ρ (ifM s m n) := by
  unfold ShE
  rw [ev_ite]
  exact LeM.bind h fun x => LeM.ite k l
theorem sE_idx {a i : E} {m n : M W} (h : ShE G call a ρ m) (k : ShE G call i ρ n) : ShE G call (.idx a i) ρ (idxM m n) := by
  unfold ShE
  rw [ev_idx]
  exact LeM.bind h fun x => LeM.bindR k
theorem sO_non : ShO G call .non ρ oN := LeM.refl _
theorem sO_som {e : E} {m : M W} (h : ShE G call e ρ m) : ShO G call (.som e) ρ (oS m) := fun c => by
  have e2 : evEo G call (.som e) ρ = oS (evE G call e ρ) := by
    funext c
    show (evE G call e ρ c).bind _ = (evE G call e ρ c).bind _
    exact Res.bind_congr _ fun x c => by cases x with
      | v d => cases d <;> rfl
      | c n => rfl
  rw [e2]
  exact LeM.bindR h c
theorem sE_slc {a : E} {lo hi : Eo} {m : M W} {l g : M (Option Int)} (h : ShE G call a ρ m) (k : ShO G call lo ρ l) (q : ShO G call hi ρ g) : ShE G call (.slc a lo hi) ρ (slcM m l g) := by
  unfold ShE
  rw [ev_slc]
  exact LeM.bind h fun x => LeM.bind k fun y => LeM.bindR q
theorem ss_nil : ShEs G call .nil ρ [] := LeM.refl _
theorem ss_cons {e : E} {es : Es} {m : M W} {ms : List (M W)} (h : ShE G call e ρ m) (k : ShEs G call es ρ ms) : ShEs G call (.cons e es) ρ (m :: ms) := LeM.bind h fun w => LeM.bindR k
theorem sE_tup {es : Es} {ms : List (M W)} (h : ShEs G call es ρ ms) : ShE G call (.tup es) ρ (tupM ms) := by
  unfold ShE
  rw [ev_tup]
  exact LeM.bindR (LeM.bindR h)
theorem sE_lst {es : Es} {ms : List (M W)} (h : ShEs G call es ρ ms) : ShE G call (.lst es) ρ (lstM ms) := by
  unfold ShE
  rw [ev_lst]
  exact LeM.bindR (LeM.bindR h)
theorem sE_cel {es : Es} {ms : List (M W)} (h : ShEs G call es ρ ms) : ShE G call (.cel es) ρ (celM ms) := by
  unfold ShE
  rw [ev_cel]
  exact LeM.bindR (LeM.bindR h)
theorem sE_dic {ks : List PySem.Str} {es : Es} {ms : List (M W)} (h : ShEs G call es ρ ms) : ShE G call (.dic ks es) ρ (dicM ks ms) := by
  unfold ShE
  rw [ev_dic]
  exact LeM.bindR (LeM.bindR h)
theorem sE_blt {f : Blt} {es : Es} {ms : List (M W)} (h : ShEs G call es ρ ms) : ShE G call (.blt f es) ρ (bltM f ms) := by
  unfold ShE
  rw [ev_blt]
  exact LeM.bindR (LeM.bindR h)
theorem sE_get {a k e : E} {m n q : M W} (h : ShE G call a ρ m) (i : ShE G call k ρ n) (j : ShE G call e ρ q) : ShE G call (.get a k e) ρ (getM m n q) := by
  unfold ShE
  rw [ev_get]
  refine LeM.bind h fun x => ?_
  cases x with
  | c n => exact LeM.refl _
  | v d => cases d with
    | dct ks ds => exact LeM.bind i fun y => LeM.bindR j
    | _ => exact LeM.refl _
theorem sE_app {a e : E} {m n : M W} (h : ShE G call a ρ m) (k : ShE G call e ρ n) : ShE G call (.app a e) ρ (appM m n) := by
  unfold ShE
  rw [ev_app]
  refine LeM.bind h fun x => ?_
  cases x with
  | c n => exact LeM.bindR k
  | v d => exact LeM.refl _
theorem sE_pop {a e : E} {m n : M W} (h : ShE G call a ρ m) (k : ShE G call e ρ n) : ShE G call (.pop a e) ρ (popM m n) := by
  unfold ShE
  rw [ev_pop]
  refine LeM.bind h fun x => ?_
  cases x with
  | c n => exact LeM.bindR k
  | v d => exact LeM.refl _
theorem sE_frz {a : E} {m : M W} (h : ShE G call a ρ m) : ShE G call (.frz a) ρ (frzM m) := LeM.bindR h
theorem sE_cad {a b : E} {m n : M W} (h : ShE G call a ρ m) (k : ShE G call b ρ n) : ShE G call (.cad a b) ρ (cadM m n) := LeM.bind h fun x => LeM.bindR k
/-- what is walked -/
theorem sI_val {e : E} {m : M W} (h : ShE G call e ρ m) : ShI G call (.val e) ρ (walkM m) := fun c => by
  have e2 : evIt G call (.val e) ρ = walkM (evE G call e ρ) := by
    funext c
    show (evE G call e ρ c).bind _ = (evE G call e ρ c).bind _
    exact Res.bind_congr _ fun x c => by cases x with
      | v d => show Res.ofO (walkD d) c = M.ofO (walkD d) c; cases walkD d <;> rfl
      | c n => rfl
  rw [e2]
  exact LeM.bindR h c
theorem sI_zip {a b : E} {m n : M W} (h : ShE G call a ρ m) (k : ShE G call b ρ n) : ShI G call (.zip a b) ρ (zipM m n) := fun c => by
  have e2 : evIt G call (.zip a b) ρ = zipM (evE G call a ρ) (evE G call b ρ) := by
    funext c
    show (evE G call a ρ c).bind _ = (evE G call a ρ c).bind _
    refine Res.bind_congr _ fun x c => ?_
    show (evE G call b ρ c).bind _ = (evE G call b ρ c).bind _
    refine Res.bind_congr _ fun y c => ?_
    cases x with
    | c n => rfl
    | v d => cases d <;> cases y <;> first | rfl | (rename_i d; cases d <;> rfl)
  rw [e2]
  exact LeM.bind h (fun x => LeM.bindR k) c
theorem sI_rng {a : E} {m : M W} (h : ShE G call a ρ m) : ShI G call (.rng a) ρ (rngM m) := fun c => by
  have e2 : evIt G call (.rng a) ρ = rngM (evE G call a ρ) := by
    funext c
    show (evE G call a ρ c).bind _ = (evE G call a ρ c).bind _
    exact Res.bind_congr _ fun x c => by cases x with
      | v d => cases d <;> first | rfl | (show (if _ then _ else _ : Res (List D)) = (if _ then _ else _ : M (List D)) c; split <;> rfl)
      | c n => rfl
  rw [e2]
  exact LeM.bindR h c
theorem sI_rng2 {a b : E} {m n : M W} (h : ShE G call a ρ m) (k : ShE G call b ρ n) : ShI G call (.rng2 a b) ρ (rng2M m n) := fun c => by
  have e2 : evIt G call (.rng2 a b) ρ = rng2M (evE G call a ρ) (evE G call b ρ) := by
    funext c
    show (evE G call a ρ c).bind _ = (evE G call a ρ c).bind _
    refine Res.bind_congr _ fun x c => ?_
    show (evE G call b ρ c).bind _ = (evE G call b ρ c).bind _
    refine Res.bind_congr _ fun y c => ?_
    cases x with
    | c n => rfl
    | v d => cases d <;> cases y <;> first | rfl | (rename_i d; cases d <;> first | rfl | (show (if _ then _ else _ : Res (List D)) = (if _ then _ else _ : M (List D)) c; split <;> rfl))
  rw [e2]
  exact LeM.bind h (fun x => LeM.bindR k) c
theorem sOT_non : ShOT G call .non ρ (pB true) := LeM.refl _
theorem sOT_som {e : E} {t : M Bool} (h : ShT G call e ρ t) : ShOT G call (.som e) ρ t := h
theorem mapC_le {α : Type} {f g : D → M (List D)} (h : ∀ d, LeM (f d) (g d)) : ∀ xs : List D, LeM (mapC f xs) (mapC g xs)
  | [] => LeM.refl _
  | d :: r => fun c => by
    refine Le.bind ?_ fun a c => Le.bind (mapC_le (α := α) h r c) fun b c => Le.refl _
    rcases h d c with q | q
    · rw [q]; exact .bad _
    · rw [q]; exact .refl _
theorem sE_lc {m : Bool} {elt : E} {ts : List Nat} {it : Iw} {t : Eo} {mi : M (List D)} {mt : D → M Bool} {me : D → M W} (hi : ShI G call it ρ mi)
    (h : ∀ d, LeM (one1 (mt d) (me d)) (lcItem ts ρ (evEoT G call t) (evE G call elt) d)) : ShE G call (.lc m elt ts it t) ρ (lcM m mi mt me) := by
  refine LeM.bind hi fun xs => ?_
  have := mapC_le (α := Nat) h xs
  rw [← lcL_eq (α := Nat) (lcItem ts ρ (evEoT G call t) (evE G call elt)) xs] at this
  exact LeM.bind (f := mkLM m) (f' := mkLM m) this fun x => LeM.refl _
theorem one1_eq {ts : List Nat} {elt : E} {t : Eo} {d : D} {ρ1 : Env} (h : bindIs ts d (wipeE ρ ts) = some ρ1) : lcItem ts ρ (evEoT G call t) (evE G call elt) d = one1 (evEoT G call t ρ1) (evE G call elt ρ1) := by
  funext c
  show (match bindIs ts d (wipeE ρ ts) with
    | some ρ1 => (evEoT G call t ρ1 c).bind fun k c => if k = true then (evE G call elt ρ1 c).bind fun w c => match w with
      | .v d => .ok [d] c
      | .c _ => .bad
      else .ok [] c
    | none => .bad) = _
  rw [h]
  refine Res.bind_congr _ fun k c => ?_
  cases k
  · rfl
  · refine Res.bind_congr _ fun w c => ?_
    cases w <;> rfl
theorem one1_le {s t : M Bool} {m n : M W} (h : LeM s t) (k : LeM m n) : LeM (one1 s m) (one1 t n) := LeM.bind h fun x => LeM.ite (LeM.bindR k) (LeM.refl _)
theorem sE_lc1 {m : Bool} {elt : E} {i : Nat} {it : Iw} {t : Eo} {mi : M (List D)} {mt : D → M Bool} {me : D → M W} (hl : i < ρ.length) (hi : ShI G call it ρ mi)
    (ht : ∀ d, ShOT G call t ((wipeE ρ [i]).set i (some (.v d))) (mt d)) (he : ∀ d, ShE G call elt ((wipeE ρ [i]).set i (some (.v d))) (me d)) : ShE G call (.lc m elt [i] it t) ρ (lcM m mi mt me) :=
  sE_lc hi fun d => by
    rw [one1_eq (ρ1 := (wipeE ρ [i]).set i (some (.v d))) (by
      show (if i < (wipeE ρ [i]).length then _ else _) = _
      rw [if_pos]
      show i < (ρ.set i none).length
      rw [List.length_set]
      exact hl)]
    exact one1_le (ht d) (he d)
theorem wipe_len (ρ : Env) (ts : List Nat) : (wipeE ρ ts).length = ρ.length := by
  induction ts with
  | nil => rfl
  | cons a r ih => show ((wipeE ρ r).set a none).length = _; rw [List.length_set, ih]
/-- more than one name -/
theorem bind_tup {ts : List Nat} {ds : List D} {ρ : Env} (h2 : 2 ≤ ts.length) (hl : ts.all (fun i => decide (i < ρ.length)) = true) : bindIs ts (.tup ds) ρ = if ds.length = ts.length then some (bindNames ts (ds.map .v) ρ) else none := by
  unfold bindIs
  split
  · simp at h2
  · dsimp only
    simp only [hl, and_true]
theorem bind_no {ts : List Nat} {d : D} {ρ : Env} (h2 : 2 ≤ ts.length) (hd : ∀ ds, d ≠ .tup ds) : bindIs ts d ρ = none := by
  unfold bindIs
  split
  · simp at h2
  · cases d <;> first | rfl | exact absurd rfl (hd _)
theorem lci_bad {ts : List Nat} {elt : E} {t : Eo} {d : D} (h : bindIs ts d (wipeE ρ ts) = none) : lcItem ts ρ (evEoT G call t) (evE G call elt) d = M.bad := by
  funext c
  show (match bindIs ts d (wipeE ρ ts) with
    | some ρ1 => (evEoT G call t ρ1 c).bind _
    | none => .bad) = _
  rw [h]
  rfl
theorem bad_le {α : Type} (m : M α) : LeM M.bad m := fun _ => .bad _
theorem sE_lc2 {m : Bool} {elt : E} {i j : Nat} {it : Iw} {t : Eo} {mi : M (List D)} {mt : D → D → M Bool} {me : D → D → M W} (hl : [i, j].all (fun i => decide (i < ρ.length)) = true) (hi : ShI G call it ρ mi)
    (ht : ∀ x y, ShOT G call t (bindNames [i, j] [.v x, .v y] (wipeE ρ [i, j])) (mt x y)) (he : ∀ x y, ShE G call elt (bindNames [i, j] [.v x, .v y] (wipeE ρ [i, j])) (me x y)) : ShE G call (.lc m elt [i, j] it t) ρ (lcM m mi (pair mt) (pair me)) :=
  sE_lc hi fun d => by
    have hl' : [i, j].all (fun k => decide (k < (wipeE ρ [i, j]).length)) = true := by rw [wipe_len]; exact hl
    cases d with
    | tup ds => match ds with
      | [x, y] =>
        rw [one1_eq (ρ1 := bindNames [i, j] [.v x, .v y] (wipeE ρ [i, j])) (by rw [bind_tup (by simp) hl']; rfl)]
        exact one1_le (ht x y) (he x y)
      | [] => exact bad_le _
      | [_] => exact bad_le _
      | _ :: _ :: _ :: _ => exact bad_le _
    | _ => exact bad_le _
theorem sE_lc3 {m : Bool} {elt : E} {i j l : Nat} {it : Iw} {t : Eo} {mi : M (List D)} {mt : D → D → D → M Bool} {me : D → D → D → M W} (hl : [i, j, l].all (fun i => decide (i < ρ.length)) = true) (hi : ShI G call it ρ mi)
    (ht : ∀ x y z, ShOT G call t (bindNames [i, j, l] [.v x, .v y, .v z] (wipeE ρ [i, j, l])) (mt x y z)) (he : ∀ x y z, ShE G call elt (bindNames [i, j, l] [.v x, .v y, .v z] (wipeE ρ [i, j, l])) (me x y z)) : ShE G call (.lc m elt [i, j, l] it t) ρ (lcM m mi (trip mt) (trip me)) :=
  sE_lc hi fun d => by
    have hl' : [i, j, l].all (fun k => decide (k < (wipeE ρ [i, j, l]).length)) = true := by rw [wipe_len]; exact hl
    cases d with
    | tup ds => match ds with
      | [x, y, z] =>
        rw [one1_eq (ρ1 := bindNames [i, j, l] [.v x, .v y, .v z] (wipeE ρ [i, j, l])) (by rw [bind_tup (by simp) hl']; rfl)]
        exact one1_le (ht x y z) (he x y z)
      | [] => exact bad_le _
      | [_] => exact bad_le _
      | [_, _] => exact bad_le _
      | _ :: _ :: _ :: _ :: _ => exact bad_le _
    | _ => exact bad_le _
/-! ### calls -/
def call0 (F : M W) : M W := F
def call1 (F : W → M W) (a : M W) : M W := M.bind a F
def call2 (F : W → W → M W) (a b : M W) : M W := M.bind a fun x => M.bind b fun y => F x y
def call3 (F : W → W → W → M W) (a b d : M W) : M W := M.bind a fun x => M.bind b fun y => M.bind d fun z => F x y z
def call4 (F : W → W → W → W → M W) (a b d e : M W) : M W := M.bind a fun x => M.bind b fun y => M.bind d fun z => M.bind e fun u => F x y z u
def call5 (F : W → W → W → W → W → M W) (a b d e g : M W) : M W := M.bind a fun x => M.bind b fun y => M.bind d fun z => M.bind e fun u => M.bind g fun v => F x y z u v
def call6 (F : W → W → W → W → W → W → M W) (a b d e g h : M W) : M W := M.bind a fun x => M.bind b fun y => M.bind d fun z => M.bind e fun u => M.bind g fun v => M.bind h fun t => F x y z u v t
@[simp] theorem call1_v (F : W → M W) (a : D) : call1 F (pV a) = F (.v a) := Eq.trans rfl rfl
@[simp] theorem call2_v (F : W → W → M W) (a b : D) : call2 F (pV a) (pV b) = F (.v a) (.v b) := Eq.trans rfl rfl
@[simp] theorem call3_v (F : W → W → W → M W) (a b d : D) : call3 F (pV a) (pV b) (pV d) = F (.v a) (.v b) (.v d) := Eq.trans rfl rfl
@[simp] theorem call4_v (F : W → W → W → W → M W) (a b d e : D) : call4 F (pV a) (pV b) (pV d) (pV e) = F (.v a) (.v b) (.v d) (.v e) := Eq.trans rfl rfl
theorem evcall {f : Nat} {es : Es} : evE G call (.call f es) ρ = M.bind (evEs G call es ρ) fun ws => call f ws := rfl
theorem sc1 {f : Nat} {F : W → M W} {a : E} {m : M W} (hf : ∀ x, LeM (F x) (call f [x])) (h : ShE G call a ρ m) : ShE G call (.call f (.cons a .nil)) ρ (call1 F m) := by
  have q : LeM (M.bind (seqM [m]) fun ws => call f ws) (evE G call (.call f (.cons a .nil)) ρ) := LeM.bindR (ss_cons h ss_nil)
  refine LeM.trans ?_ q
  show LeM _ (M.bind (M.bind m fun w => M.bind (M.pure []) fun ws => M.pure (w :: ws)) fun ws => call f ws)
  simp only [M.bind_assoc, M.pure_bind]
  exact LeM.bind (LeM.refl _) fun x => hf x
theorem sc2 {f : Nat} {F : W → W → M W} {a b : E} {m n : M W} (hf : ∀ x y, LeM (F x y) (call f [x, y])) (h : ShE G call a ρ m) (k : ShE G call b ρ n) : ShE G call (.call f (.cons a (.cons b .nil))) ρ (call2 F m n) := by
  have q : LeM (M.bind (seqM [m, n]) fun ws => call f ws) (evE G call (.call f (.cons a (.cons b .nil))) ρ) := LeM.bindR (ss_cons h (ss_cons k ss_nil))
  refine LeM.trans ?_ q
  simp only [seqM, M.bind_assoc, M.pure_bind]
  exact LeM.bind (LeM.refl _) fun x => LeM.bind (LeM.refl _) fun y => hf x y
theorem sc3 {f : Nat} {F : W → W → W → M W} {a b d : E} {m n o : M W} (hf : ∀ x y z, LeM (F x y z) (call f [x, y, z])) (h : ShE G call a ρ m) (k : ShE G call b ρ n) (l : ShE G call d ρ o) : ShE G call (.call f (.cons a (.cons b (.cons d .nil)))) ρ (call3 F m n o) := by
  have q : LeM (M.bind (seqM [m, n, o]) fun ws => call f ws) (evE G call (.call f (.cons a (.cons b (.cons d .nil)))) ρ) := LeM.bindR (ss_cons h (ss_cons k (ss_cons l ss_nil)))
  refine LeM.trans ?_ q
  simp only [seqM, M.bind_assoc, M.pure_bind]
  exact LeM.bind (LeM.refl _) fun x => LeM.bind (LeM.refl _) fun y => LeM.bind (LeM.refl _) fun z => hf x y z
theorem sc4 {f : Nat} {F : W → W → W → W → M W} {a b d e : E} {m n o p : M W} (hf : ∀ x y z u, LeM (F x y z u) (call f [x, y, z, u])) (h : ShE G call a ρ m) (k : ShE G call b ρ n) (l : ShE G call d ρ o) (i : ShE G call e ρ p) : ShE G call (.call f (.cons a (.cons b (.cons d (.cons e .nil))))) ρ (call4 F m n o p) := by
  have q : LeM (M.bind (seqM [m, n, o, p]) fun ws => call f ws) (evE G call (.call f (.cons a (.cons b (.cons d (.cons e .nil))))) ρ) := LeM.bindR (ss_cons h (ss_cons k (ss_cons l (ss_cons i ss_nil))))
  refine LeM.trans ?_ q
  simp only [seqM, M.bind_assoc, M.pure_bind]
  exact LeM.bind (LeM.refl _) fun x => LeM.bind (LeM.refl _) fun y => LeM.bind (LeM.refl _) fun z => LeM.bind (LeM.refl _) fun u => hf x y z u
theorem sc5 {f : Nat} {F : W → W → W → W → W → M W} {a b d e g : E} {m n o p r : M W} (hf : ∀ x y z u v, LeM (F x y z u v) (call f [x, y, z, u, v])) (h : ShE G call a ρ m) (k : ShE G call b ρ n) (l : ShE G call d ρ o) (i : ShE G call e ρ p) (j : ShE G call g ρ r) : ShE G call (.call f (.cons a (.cons b (.cons d (.cons e (.cons g .nil)))))) ρ (call5 F m n o p r) := by
  have q : LeM (M.bind (seqM [m, n, o, p, r]) fun ws => call f ws) (evE G call (.call f (.cons a (.cons b (.cons d (.cons e (.cons g .nil)))))) ρ) := LeM.bindR (ss_cons h (ss_cons k (ss_cons l (ss_cons i (ss_cons j ss_nil)))))
  refine LeM.trans ?_ q
  simp only [seqM, M.bind_assoc, M.pure_bind]
  exact LeM.bind (LeM.refl _) fun x => LeM.bind (LeM.refl _) fun y => LeM.bind (LeM.refl _) fun z => LeM.bind (LeM.refl _) fun u => LeM.bind (LeM.refl _) fun v => hf x y z u v
end Q
end
section
set_option autoImplicit false
/-! # The shallow side follows the evaluator: statements -/
namespace Q
section
variable {G : Nat → Option D} {call : Nat → List W → Cells → Res W} {sub : Exc → Exc → Bool} {wf : Nat} {ρ : Env} {α β : Type}
def BLe (Y : β → Fl → Prop) (m : M β) (y : M Fl) : Prop := ∀ c, match m c with
  | .ok b c' => ∃ fl, y c = .ok fl c' ∧ Y b fl
  | .exc e c' => y c = .exc e c'
  | .bad => True
theorem BLe.bad {Y : β → Fl → Prop} (y : M Fl) : BLe Y M.bad y := fun _ => trivial
theorem BLe.bind {Y : β → Fl → Prop} {m m' : M α} {f : α → M β} {f' : α → M Fl} (h : LeM m m') (k : ∀ a, BLe Y (f a) (f' a)) : BLe Y (M.bind m f) (M.bind m' f') := fun c => by
  unfold M.bind
  rcases h c with h | h
  · rw [h]; exact trivial
  · rw [h]
    cases m c with
    | ok a c => exact k a c
    | exc x c => exact rfl
    | bad => exact trivial
theorem BLe.ite {Y : β → Fl → Prop} {p : Prop} [Decidable p] {a b : M β} {a' b' : M Fl} (h : BLe Y a a') (k : BLe Y b b') : BLe Y (if p then a else b) (if p then a' else b') := by split <;> assumption
/-- from one end to another -/
theorem BLe.seq {Y : β → Fl → Prop} {Y0 : α → Fl → Prop} {m : M α} {y : M Fl} {f : α → M β} {g : Fl → M Fl} (h : BLe Y0 m y) (k : ∀ a fl, Y0 a fl → BLe Y (f a) (g fl)) : BLe Y (M.bind m f) (M.bind y g) := fun c => by
  have h := h c
  unfold M.bind
  revert h
  cases m c with
  | ok a c =>
    intro ⟨fl, h1, h2⟩
    rw [h1]
    exact k a fl h2 c
  | exc x c =>
    intro h
    rw [h]
    exact rfl
  | bad => intro _; exact trivial
variable (G call sub wf) in
/-- the blocks that are to be done -/
def evK : List Ss → Env → M Fl
  | [], ρ => M.pure (.nxt ρ)
  | b :: rs, ρ => M.bind (evSs G call sub wf b ρ) fun k => match k with
    | .nxt ρ => evK rs ρ
    | .ret w => M.pure (.ret w)
theorem evK_nil {rs : List Ss} : evK G call sub wf (.nil :: rs) ρ = evK G call sub wf rs ρ := rfl
theorem evK_cons {s : S} {r : Ss} {rs : List Ss} : evK G call sub wf (.cons s r :: rs) ρ = M.bind (evS G call sub wf s ρ) fun k => match k with
    | .nxt ρ => evK G call sub wf (r :: rs) ρ
    | .ret w => M.pure (.ret w) := by
  show M.bind (fun c => (evS G call sub wf s ρ c).bind _) _ = _
  funext c
  show (Res.bind _ _).bind _ = Res.bind _ _
  rw [Res.bind_assoc]
  refine Res.bind_congr _ fun k c => ?_
  cases k <;> rfl
theorem evK_one {b : Ss} : evK G call sub wf [b] ρ = evSs G call sub wf b ρ := by
  funext c
  show Res.bind _ _ = _
  cases evSs G call sub wf b ρ c with
  | ok k c => cases k <;> rfl
  | exc x c => rfl
  | bad => rfl
/-- ends -/
def EW (w : W) (fl : Fl) : Prop := fl = .ret w ∨ (w = .v .non ∧ ∃ ρ, fl = .nxt ρ)
def ER (w : W) (fl : Fl) : Prop := fl = .ret w
def EL {σ J : Type} (T : σ → J → Env) (s : St σ) (fl : Fl) : Prop := match s with
  | .nxt s => ∃ j, fl = .nxt (T s j)
  | .ret w => fl = .ret w
/-- how a block hands an answer out -/
def Rt (Y : β → Fl → Prop) (rt : W → M β) : Prop := ∀ w, BLe Y (rt w) (M.pure (.ret w))
theorem rtW : Rt EW pW := fun w c => ⟨_, rfl, .inl rfl⟩
theorem rtR : Rt ER pW := fun w c => ⟨_, rfl, rfl⟩
theorem rtL {σ J : Type} {T : σ → J → Env} : Rt (EL T) pR := fun w c => ⟨_, rfl, rfl⟩
variable {Y : β → Fl → Prop}
theorem b_nil {rs : List Ss} {m : M β} (h : BLe Y m (evK G call sub wf rs ρ)) : BLe Y m (evK G call sub wf (.nil :: rs) ρ) := h
theorem b_endW : BLe EW (pV .non) (evK G call sub wf [] ρ) := fun c => ⟨_, rfl, .inr ⟨rfl, _, rfl⟩⟩
theorem b_endL {σ J : Type} {T : σ → J → Env} {s : σ} (h : ∃ j, ρ = T s j) : BLe (EL T) (pN s) (evK G call sub wf [] ρ) := fun c => ⟨_, rfl, by obtain ⟨j, h⟩ := h; exact ⟨j, by rw [h]⟩⟩
theorem b_ret {e : E} {r : Ss} {rs : List Ss} {m : M W} {rt : W → M β} (hr : Rt Y rt) (h : ShE G call e ρ m) : BLe Y (M.bind m rt) (evK G call sub wf (.cons (.ret e) r :: rs) ρ) := by
  rw [evK_cons]
  have e1 : evS G call sub wf (.ret e) ρ = M.bind (evE G call e ρ) fun w => M.pure (.ret w) := rfl
  rw [e1, M.bind_assoc]
  exact BLe.bind h fun w => hr w
theorem b_retW {e : E} {r : Ss} {rs : List Ss} {m : M W} (h : ShE G call e ρ m) : BLe EW m (evK G call sub wf (.cons (.ret e) r :: rs) ρ) := by
  have q := b_ret (sub := sub) (wf := wf) (r := r) (rs := rs) rtW h
  have e1 : M.bind m pW = m := by funext c; show (m c).bind _ = _; cases m c <;> rfl
  rwa [e1] at q
theorem b_retR {e : E} {r : Ss} {rs : List Ss} {m : M W} (h : ShE G call e ρ m) : BLe ER m (evK G call sub wf (.cons (.ret e) r :: rs) ρ) := by
  have q := b_ret (sub := sub) (wf := wf) (r := r) (rs := rs) rtR h
  have e1 : M.bind m pW = m := by funext c; show (m c).bind _ = _; cases m c <;> rfl
  rwa [e1] at q
theorem b_rse {x : Exc} {r : Ss} {rs : List Ss} : BLe Y (M.exc x) (evK G call sub wf (.cons (.rse x) r :: rs) ρ) := fun _ => rfl
theorem b_pass {r : Ss} {rs : List Ss} {m : M β} (h : BLe Y m (evK G call sub wf (r :: rs) ρ)) : BLe Y m (evK G call sub wf (.cons .pass r :: rs) ρ) := by
  rw [evK_cons]
  exact h
theorem b_exp {e : E} {r : Ss} {rs : List Ss} {m : M W} {k : M β} (h : ShE G call e ρ m) (hk : BLe Y k (evK G call sub wf (r :: rs) ρ)) : BLe Y (M.bind m fun _ => k) (evK G call sub wf (.cons (.exp e) r :: rs) ρ) := by
  rw [evK_cons]
  have e1 : evS G call sub wf (.exp e) ρ = M.bind (evE G call e ρ) fun w => M.pure (.nxt ρ) := rfl
  rw [e1, M.bind_assoc]
  exact BLe.bind h fun w => hk
theorem b_set {i : Nat} {e : E} {r : Ss} {rs : List Ss} {m : M W} {k : W → M β} (hi : i < ρ.length) (h : ShE G call e ρ m) (hk : ∀ w, BLe Y (k w) (evK G call sub wf (r :: rs) (ρ.set i (some w)))) : BLe Y (M.bind m k) (evK G call sub wf (.cons (.set (.name i) e) r :: rs) ρ) := by
  rw [evK_cons]
  have e1 : evS G call sub wf (.set (.name i) e) ρ = M.bind (evE G call e ρ) fun w => M.pure (.nxt (ρ.set i (some w))) := by
    funext c
    show (evE G call e ρ c).bind _ = _
    refine Res.bind_congr _ fun w c => ?_
    rw [if_pos hi]
    rfl
  rw [e1, M.bind_assoc]
  exact BLe.bind h fun w => hk w
def okIs (is : List Nat) (ρ : Env) : Prop := (is.all fun i => decide (i < ρ.length)) = true
theorem ev_sets {is : List Nat} {e : E} (hi : okIs is ρ) : evS G call sub wf (.set (.names is) e) ρ = M.bind (evE G call e ρ) fun w => match w with
    | .v (.tup ds) => if ds.length = is.length then M.pure (Fl.nxt (bindNames is (ds.map .v) ρ)) else M.bad
    | _ => M.bad := by
  funext c
  show (evE G call e ρ c).bind _ = (evE G call e ρ c).bind _
  refine Res.bind_congr _ fun w c => ?_
  cases w with
  | c n => rfl
  | v d => cases d with
    | tup ds =>
      have hi' : (is.all fun i => decide (i < ρ.length)) = true := hi
      show (if _ ∧ _ then _ else _ : Res Fl) = (if _ then _ else _ : M Fl) c
      by_cases q : ds.length = is.length
      · rw [if_pos ⟨q, hi'⟩, if_pos q]; rfl
      · rw [if_neg (fun z => q z.1), if_neg q]; rfl
    | _ => rfl
theorem b_un2 {i j : Nat} {e : E} {r : Ss} {rs : List Ss} {m : M W} {k : W → W → M β} (hi : okIs [i, j] ρ) (h : ShE G call e ρ m) (hk : ∀ x y, BLe Y (k x y) (evK G call sub wf (r :: rs) (bindNames [i, j] [x, y] ρ))) : BLe Y (M.bind m (un2 k)) (evK G call sub wf (.cons (.set (.names [i, j]) e) r :: rs) ρ) := by
  rw [evK_cons, ev_sets hi, M.bind_assoc]
  refine BLe.bind h fun w => ?_
  cases w with
  | c n => exact BLe.bad _
  | v d => cases d with
    | tup ds => match ds with
      | [x, y] => exact hk (.v x) (.v y)
      | [] => exact BLe.bad _
      | [_] => exact BLe.bad _
      | _ :: _ :: _ :: _ => exact BLe.bad _
    | _ => exact BLe.bad _
theorem b_un3 {i j l : Nat} {e : E} {r : Ss} {rs : List Ss} {m : M W} {k : W → W → W → M β} (hi : okIs [i, j, l] ρ) (h : ShE G call e ρ m) (hk : ∀ x y z, BLe Y (k x y z) (evK G call sub wf (r :: rs) (bindNames [i, j, l] [x, y, z] ρ))) : BLe Y (M.bind m (un3 k)) (evK G call sub wf (.cons (.set (.names [i, j, l]) e) r :: rs) ρ) := by
  rw [evK_cons, ev_sets hi, M.bind_assoc]
  refine BLe.bind h fun w => ?_
  cases w with
  | c n => exact BLe.bad _
  | v d => cases d with
    | tup ds => match ds with
      | [x, y, z] => exact hk (.v x) (.v y) (.v z)
      | [] => exact BLe.bad _
      | [_] => exact BLe.bad _
      | [_, _] => exact BLe.bad _
      | _ :: _ :: _ :: _ :: _ => exact BLe.bad _
    | _ => exact BLe.bad _
theorem b_un4 {i j l o : Nat} {e : E} {r : Ss} {rs : List Ss} {m : M W} {k : W → W → W → W → M β} (hi : okIs [i, j, l, o] ρ) (h : ShE G call e ρ m) (hk : ∀ x y z u, BLe Y (k x y z u) (evK G call sub wf (r :: rs) (bindNames [i, j, l, o] [x, y, z, u] ρ))) : BLe Y (M.bind m (un4 k)) (evK G call sub wf (.cons (.set (.names [i, j, l, o]) e) r :: rs) ρ) := by
  rw [evK_cons, ev_sets hi, M.bind_assoc]
  refine BLe.bind h fun w => ?_
  cases w with
  | c n => exact BLe.bad _
  | v d => cases d with
    | tup ds => match ds with
      | [x, y, z, u] => exact hk (.v x) (.v y) (.v z) (.v u)
      | [] => exact BLe.bad _
      | [_] => exact BLe.bad _
      | [_, _] => exact BLe.bad _
      | [_, _, _] => exact BLe.bad _
      | _ :: _ :: _ :: _ :: _ :: _ => exact BLe.bad _
    | _ => exact BLe.bad _
theorem b_un5 {i j l o q : Nat} {e : E} {r : Ss} {rs : List Ss} {m : M W} {k : W → W → W → W → W → M β} (hi : okIs [i, j, l, o, q] ρ) (h : ShE G call e ρ m) (hk : ∀ x y z u v, BLe Y (k x y z u v) (evK G call sub wf (r :: rs) (bindNames [i, j, l, o, q] [x, y, z, u, v] ρ))) : BLe Y (M.bind m (un5 k)) (evK G call sub wf (.cons (.set (.names [i, j, l, o, q]) e) r :: rs) ρ) := by
  rw [evK_cons, ev_sets hi, M.bind_assoc]
  refine BLe.bind h fun w => ?_
  cases w with
  | c n => exact BLe.bad _
  | v d => cases d with
    | tup ds => match ds with
      | [x, y, z, u, v] => exact hk (.v x) (.v y) (.v z) (.v u) (.v v)
      | [] => exact BLe.bad _
      | [_] => exact BLe.bad _
      | [_, _] => exact BLe.bad _
      | [_, _, _] => exact BLe.bad _
      | [_, _, _, _] => exact BLe.bad _
      | _ :: _ :: _ :: _ :: _ :: _ :: _ => exact BLe.bad _
    | _ => exact BLe.bad _
/-- several names at once -/
theorem ev_par {sw : Bool} {is : List Nat} {es : Es} (hi : okIs is ρ) : evS G call sub wf (.par sw is es) ρ = M.bind (evEs G call es ρ) fun ws => if ws.length = is.length ∧ (sw = true ∨ (vals ws).isSome = true) then M.pure (Fl.nxt (bindNames is ws ρ)) else M.bad := by
  funext c
  show (evEs G call es ρ c).bind _ = (evEs G call es ρ c).bind _
  refine Res.bind_congr _ fun ws c => ?_
  have hi' : (is.all fun i => decide (i < ρ.length)) = true := hi
  show (if _ ∧ _ ∧ _ then _ else _ : Res Fl) = (if _ then _ else _ : M Fl) c
  by_cases q : ws.length = is.length ∧ (sw = true ∨ (vals ws).isSome = true)
  · rw [if_pos ⟨q.1, hi', q.2⟩, if_pos q]; rfl
  · rw [if_neg (fun z => q ⟨z.1, z.2.2⟩), if_neg q]; rfl
theorem b_par2 {i j : Nat} {a b : E} {r : Ss} {rs : List Ss} {m n : M W} {k : W → W → M β} (hi : okIs [i, j] ρ) (h : ShE G call a ρ m) (g : ShE G call b ρ n) (hk : ∀ x y, BLe Y (k x y) (evK G call sub wf (r :: rs) (bindNames [i, j] [x, y] ρ))) :
    BLe Y (M.bind m fun x => M.bind n fun y => k x y) (evK G call sub wf (.cons (.par true [i, j] (.cons a (.cons b .nil))) r :: rs) ρ) := by
  rw [evK_cons, ev_par hi, M.bind_assoc]
  have q := BLe.bind (Y := Y) (f := fun ws => match ws with | [x, y] => k x y | _ => M.bad) (f' := fun ws => M.bind (if ws.length = [i, j].length ∧ (true = true ∨ (vals ws).isSome = true) then M.pure (Fl.nxt (bindNames [i, j] ws ρ)) else M.bad) fun k => match k with
    | Fl.nxt ρ => evK G call sub wf (r :: rs) ρ
    | Fl.ret w => M.pure (.ret w)) (ss_cons h (ss_cons g ss_nil)) (fun ws => by
      match ws with
      | [x, y] => exact hk x y
      | [] => exact BLe.bad _
      | [_] => exact BLe.bad _
      | _ :: _ :: _ :: _ => exact BLe.bad _)
  have e1 : (M.bind m fun x => M.bind n fun y => k x y) = M.bind (seqM [m, n]) fun ws => match ws with | [x, y] => k x y | _ => M.bad := by simp only [seqM, M.bind_assoc, M.pure_bind]
  rw [e1]
  exact q
theorem b_par3 {i j l : Nat} {a b d : E} {r : Ss} {rs : List Ss} {m n o : M W} {k : W → W → W → M β} (hi : okIs [i, j, l] ρ) (h : ShE G call a ρ m) (g : ShE G call b ρ n) (g2 : ShE G call d ρ o) (hk : ∀ x y z, BLe Y (k x y z) (evK G call sub wf (r :: rs) (bindNames [i, j, l] [x, y, z] ρ))) :
    BLe Y (M.bind m fun x => M.bind n fun y => M.bind o fun z => k x y z) (evK G call sub wf (.cons (.par true [i, j, l] (.cons a (.cons b (.cons d .nil)))) r :: rs) ρ) := by
  rw [evK_cons, ev_par hi, M.bind_assoc]
  have q := BLe.bind (Y := Y) (f := fun ws => match ws with | [x, y, z] => k x y z | _ => M.bad) (f' := fun ws => M.bind (if ws.length = [i, j, l].length ∧ (true = true ∨ (vals ws).isSome = true) then M.pure (Fl.nxt (bindNames [i, j, l] ws ρ)) else M.bad) fun k => match k with
    | Fl.nxt ρ => evK G call sub wf (r :: rs) ρ
    | Fl.ret w => M.pure (.ret w)) (ss_cons h (ss_cons g (ss_cons g2 ss_nil))) (fun ws => by
      match ws with
      | [x, y, z] => exact hk x y z
      | [] => exact BLe.bad _
      | [_] => exact BLe.bad _
      | [_, _] => exact BLe.bad _
      | _ :: _ :: _ :: _ :: _ => exact BLe.bad _)
  have e1 : (M.bind m fun x => M.bind n fun y => M.bind o fun z => k x y z) = M.bind (seqM [m, n, o]) fun ws => match ws with | [x, y, z] => k x y z | _ => M.bad := by simp only [seqM, M.bind_assoc, M.pure_bind]
  rw [e1]
  exact q
theorem isSome2 (x y : W) : (vals [x, y]).isSome = true ↔ ∃ a b, x = .v a ∧ y = .v b := by
  cases x <;> cases y <;> simp [vals]
theorem b_pav2 {i j : Nat} {a b : E} {r : Ss} {rs : List Ss} {m n : M W} {k : W → W → M β} (hi : okIs [i, j] ρ) (h : ShE G call a ρ m) (g : ShE G call b ρ n) (hk : ∀ x y, BLe Y (k x y) (evK G call sub wf (r :: rs) (bindNames [i, j] [x, y] ρ))) :
    BLe Y (M.bind m fun x => M.bind n fun y => vW x (vW y (k x y))) (evK G call sub wf (.cons (.par false [i, j] (.cons a (.cons b .nil))) r :: rs) ρ) := by
  rw [evK_cons, ev_par hi, M.bind_assoc]
  have q := BLe.bind (Y := Y) (f := fun ws => match ws with | [x, y] => vW x (vW y (k x y)) | _ => M.bad) (f' := fun ws => M.bind (if ws.length = [i, j].length ∧ (false = true ∨ (vals ws).isSome = true) then M.pure (Fl.nxt (bindNames [i, j] ws ρ)) else M.bad) fun k => match k with
    | Fl.nxt ρ => evK G call sub wf (r :: rs) ρ
    | Fl.ret w => M.pure (.ret w)) (ss_cons h (ss_cons g ss_nil)) (fun ws => by
      match ws with
      | [x, y] => cases x with
        | c n => exact BLe.bad _
        | v a => cases y with
          | c n => exact BLe.bad _
          | v b => exact hk (.v a) (.v b)
      | [] => exact BLe.bad _
      | [_] => exact BLe.bad _
      | _ :: _ :: _ :: _ => exact BLe.bad _)
  simp only [seqM, M.bind_assoc, M.pure_bind] at q
  exact q
theorem b_pav3 {i j l : Nat} {a b d : E} {r : Ss} {rs : List Ss} {m n o : M W} {k : W → W → W → M β} (hi : okIs [i, j, l] ρ) (h : ShE G call a ρ m) (g : ShE G call b ρ n) (g2 : ShE G call d ρ o) (hk : ∀ x y z, BLe Y (k x y z) (evK G call sub wf (r :: rs) (bindNames [i, j, l] [x, y, z] ρ))) :
    BLe Y (M.bind m fun x => M.bind n fun y => M.bind o fun z => vW x (vW y (vW z (k x y z)))) (evK G call sub wf (.cons (.par false [i, j, l] (.cons a (.cons b (.cons d .nil)))) r :: rs) ρ) := by
  rw [evK_cons, ev_par hi, M.bind_assoc]
  have q := BLe.bind (Y := Y) (f := fun ws => match ws with | [x, y, z] => vW x (vW y (vW z (k x y z))) | _ => M.bad) (f' := fun ws => M.bind (if ws.length = [i, j, l].length ∧ (false = true ∨ (vals ws).isSome = true) then M.pure (Fl.nxt (bindNames [i, j, l] ws ρ)) else M.bad) fun k => match k with
    | Fl.nxt ρ => evK G call sub wf (r :: rs) ρ
    | Fl.ret w => M.pure (.ret w)) (ss_cons h (ss_cons g (ss_cons g2 ss_nil))) (fun ws => by
      match ws with
      | [x, y, z] => cases x with
        | c n => exact BLe.bad _
        | v a => cases y with
          | c n => exact BLe.bad _
          | v b => cases z with
            | c n => exact BLe.bad _
            | v d => exact hk (.v a) (.v b) (.v d)
      | [] => exact BLe.bad _
      | [_] => exact BLe.bad _
      | [_, _] => exact BLe.bad _
      | _ :: _ :: _ :: _ :: _ => exact BLe.bad _)
  simp only [seqM, M.bind_assoc, M.pure_bind] at q
  exact q
theorem b_pav4 {i j l u : Nat} {a b d f : E} {r : Ss} {rs : List Ss} {m n o p : M W} {k : W → W → W → W → M β} (hi : okIs [i, j, l, u] ρ) (h : ShE G call a ρ m) (g : ShE G call b ρ n) (g2 : ShE G call d ρ o) (g3 : ShE G call f ρ p) (hk : ∀ x y z t, BLe Y (k x y z t) (evK G call sub wf (r :: rs) (bindNames [i, j, l, u] [x, y, z, t] ρ))) :
    BLe Y (M.bind m fun x => M.bind n fun y => M.bind o fun z => M.bind p fun t => vW x (vW y (vW z (vW t (k x y z t))))) (evK G call sub wf (.cons (.par false [i, j, l, u] (.cons a (.cons b (.cons d (.cons f .nil))))) r :: rs) ρ) := by
  rw [evK_cons, ev_par hi, M.bind_assoc]
  have q := BLe.bind (Y := Y) (f := fun ws => match ws with | [x, y, z, t] => vW x (vW y (vW z (vW t (k x y z t)))) | _ => M.bad) (f' := fun ws => M.bind (if ws.length = [i, j, l, u].length ∧ (false = true ∨ (vals ws).isSome = true) then M.pure (Fl.nxt (bindNames [i, j, l, u] ws ρ)) else M.bad) fun k => match k with
    | Fl.nxt ρ => evK G call sub wf (r :: rs) ρ
    | Fl.ret w => M.pure (.ret w)) (ss_cons h (ss_cons g (ss_cons g2 (ss_cons g3 ss_nil)))) (fun ws => by
      match ws with
      | [x, y, z, t] => cases x with
        | c n => exact BLe.bad _
        | v a => cases y with
          | c n => exact BLe.bad _
          | v b => cases z with
            | c n => exact BLe.bad _
            | v d => cases t with
              | c n => exact BLe.bad _
              | v e => exact hk (.v a) (.v b) (.v d) (.v e)
      | [] => exact BLe.bad _
      | [_] => exact BLe.bad _
      | [_, _] => exact BLe.bad _
      | [_, _, _] => exact BLe.bad _
      | _ :: _ :: _ :: _ :: _ :: _ => exact BLe.bad _)
  simp only [seqM, M.bind_assoc, M.pure_bind] at q
  exact q
theorem b_item {a i e : E} {r : Ss} {rs : List Ss} {m n o : M W} {k : M β} (h : ShE G call e ρ m) (g : ShE G call a ρ n) (g2 : ShE G call i ρ o) (hk : BLe Y k (evK G call sub wf (r :: rs) ρ)) :
    BLe Y (M.bind m fun w => M.bind n fun x => M.bind o fun y => setW x y w k) (evK G call sub wf (.cons (.set (.item a i) e) r :: rs) ρ) := by
  rw [evK_cons]
  have e1 : evS G call sub wf (.set (.item a i) e) ρ = M.bind (evE G call e ρ) fun w => M.bind (evE G call a ρ) fun x => M.bind (evE G call i ρ) fun y => M.bind (updW x y w) fun _ => M.pure (.nxt ρ) := by
    funext c
    show (evE G call e ρ c).bind _ = (evE G call e ρ c).bind _
    refine Res.bind_congr _ fun w c => ?_
    show (evE G call a ρ c).bind _ = (evE G call a ρ c).bind _
    refine Res.bind_congr _ fun x c => ?_
    show (evE G call i ρ c).bind _ = (evE G call i ρ c).bind _
    refine Res.bind_congr _ fun y c => ?_
    show _ = (updW x y w c).bind _
    unfold updW
    cases cellAt x c with
    | none => rfl
    | some p =>
      obtain ⟨n, ds⟩ := p
      cases y with
      | c l => rfl
      | v y => cases y with
        | int jj => cases w with
          | c l => rfl
          | v d =>
            dsimp only
            cases L2.ixN ds.length jj <;> rfl
        | _ => rfl
  rw [e1]
  simp only [M.bind_assoc]
  exact BLe.bind h fun w => BLe.bind g fun x => BLe.bind g2 fun y => BLe.bind (LeM.refl _) fun _ => hk
theorem b_aug {i : Nat} {x : W} {e : E} {r : Ss} {rs : List Ss} {m : M W} {k : W → M β} (hx : ρ[i]? = some (some x)) (h : ShE G call e ρ m) (hk : ∀ w, BLe Y (k w) (evK G call sub wf (r :: rs) (ρ.set i (some w)))) :
    BLe Y (augW x m k) (evK G call sub wf (.cons (.aug i e) r :: rs) ρ) := by
  rw [evK_cons]
  cases x with
  | c n => exact BLe.bad _
  | v d => cases d with
    | int z =>
      have e1 : evS G call sub wf (.aug i e) ρ = M.bind (evE G call e ρ) fun w => match w with
        | .v (.int y) => M.pure (Fl.nxt (ρ.set i (some (.v (.int (z + y))))))
        | _ => M.bad := by
        funext c
        show (match ρ[i]? with
          | some (some (.v (.int x))) => (evE G call e ρ c).bind fun w c => match w with
            | .v (.int y) => .ok (Fl.nxt (ρ.set i (some (.v (.int (x + y)))))) c
            | _ => .bad
          | _ => .bad) = _
        rw [hx]
        refine Res.bind_congr _ fun w c => ?_
        cases w with
        | c n => rfl
        | v d => cases d <;> rfl
      rw [e1, M.bind_assoc]
      refine BLe.bind h fun w => ?_
      cases w with
      | c n => exact BLe.bad _
      | v d => cases d with
        | int y => exact hk _
        | _ => exact BLe.bad _
    | _ => exact BLe.bad _
theorem b_ife {e : E} {a b r : Ss} {rs : List Ss} {t : M Bool} {m n : M β} (h : ShT G call e ρ t) (g : BLe Y m (evK G call sub wf (a :: r :: rs) ρ)) (g2 : BLe Y n (evK G call sub wf (b :: r :: rs) ρ)) : BLe Y (ifM t m n) (evK G call sub wf (.cons (.ife e a b) r :: rs) ρ) := by
  rw [evK_cons]
  have e1 : evS G call sub wf (.ife e a b) ρ = M.bind (tst (evE G call e ρ)) fun k => if k = true then evSs G call sub wf a ρ else evSs G call sub wf b ρ := by
    funext c
    show (evE G call e ρ c).bind _ = _
    simp only [tst, M.bind, Res.bind_assoc]
    exact Res.bind_congr _ fun w c => Res.bind_congr _ fun k c => by cases k <;> rfl
  rw [e1, M.bind_assoc]
  refine BLe.bind h fun k => ?_
  cases k
  · exact g2
  · exact g
/-! ### loops -/
theorem loop_le {σ J : Type} {T : σ → J → Env} {f : σ → D → M (St σ)} {g : D → Env → M Fl} (h : ∀ s j d, BLe (EL T) (f s d) (g d (T s j))) : ∀ (xs : List D) (s : σ) (j : J), BLe (EL T) (loopL f xs s) (fun c => forLoop g xs (T s j) c)
  | [], s, j => fun c => ⟨_, rfl, j, rfl⟩
  | d :: r, s, j => by
    have e1 : (fun c => forLoop g (d :: r) (T s j) c) = M.bind (g d (T s j)) fun k => match k with
      | .nxt ρ => fun c => forLoop g r ρ c
      | .ret w => M.pure (.ret w) := by
      funext c
      show (g d (T s j) c).bind _ = _
      refine Res.bind_congr _ fun k c => ?_
      cases k <;> rfl
    rw [e1]
    refine BLe.seq (h s j d) fun a fl q => ?_
    cases a with
    | nxt s' =>
      obtain ⟨j', q⟩ := q
      rw [q]
      exact loop_le h r s' j'
    | ret w =>
      have q : fl = .ret w := q
      rw [q]
      exact rtL w
theorem b_for {σ J : Type} (T : σ → J → Env) {s0 : σ} {j0 : J} {is : List Nat} {it : Iw} {b r : Ss} {rs : List Ss} {mi : M (List D)} {f : σ → D → M (St σ)} {k : σ → M β} {rt : W → M β} (hr : Rt Y rt) (hi : ShI G call it (T s0 j0) mi)
    (hb : ∀ s j d, BLe (EL T) (f s d) (fun c => match bindIs is d (T s j) with
      | some ρ => evSs G call sub wf b ρ c
      | none => .bad)) (hk : ∀ s j, BLe Y (k s) (evK G call sub wf (r :: rs) (T s j))) : BLe Y (forM rt mi s0 f k) (evK G call sub wf (.cons (.for is it b) r :: rs) (T s0 j0)) := by
  rw [evK_cons]
  have e1 : evS G call sub wf (.for is it b) (T s0 j0) = M.bind (evIt G call it (T s0 j0)) fun xs => fun c => forLoop (fun d ρ c => match bindIs is d ρ with
      | some ρ => evSs G call sub wf b ρ c
      | none => .bad) xs (T s0 j0) c := rfl
  rw [e1, M.bind_assoc]
  refine BLe.bind hi fun xs => BLe.seq (loop_le hb xs s0 j0) fun a fl q => ?_
  cases a with
  | nxt s' =>
    obtain ⟨j', q⟩ := q
    rw [q]
    exact hk s' j'
  | ret w =>
    have q : fl = .ret w := q
    rw [q]
    exact hr w
theorem b_for1 {σ J : Type} (T : σ → J → Env) {s0 : σ} {j0 : J} {i : Nat} {it : Iw} {b r : Ss} {rs : List Ss} {mi : M (List D)} {f : σ → D → M (St σ)} {k : σ → M β} {rt : W → M β} (hl : ∀ s j, i < (T s j).length) (hr : Rt Y rt) (hi : ShI G call it (T s0 j0) mi)
    (hb : ∀ s j d, BLe (EL T) (f s d) (evK G call sub wf [b] ((T s j).set i (some (.v d))))) (hk : ∀ s j, BLe Y (k s) (evK G call sub wf (r :: rs) (T s j))) : BLe Y (forM rt mi s0 f k) (evK G call sub wf (.cons (.for [i] it b) r :: rs) (T s0 j0)) :=
  b_for T hr hi (fun s j d => by
    have := hb s j d
    rw [evK_one] at this
    have e1 : bindIs [i] d (T s j) = some ((T s j).set i (some (.v d))) := if_pos (hl s j)
    rw [e1]
    exact this) hk
theorem b_forN {σ J : Type} (T : σ → J → Env) {s0 : σ} {j0 : J} {is : List Nat} {it : Iw} {b r : Ss} {rs : List Ss} {mi : M (List D)} {f : σ → List D → M (St σ)} {k : σ → M β} {rt : W → M β} (h2 : 2 ≤ is.length) (hl : ∀ s j, okIs is (T s j)) (hr : Rt Y rt) (hi : ShI G call it (T s0 j0) mi)
    (hb : ∀ s j ds, ds.length = is.length → BLe (EL T) (f s ds) (evK G call sub wf [b] (bindNames is (ds.map .v) (T s j)))) (hk : ∀ s j, BLe Y (k s) (evK G call sub wf (r :: rs) (T s j))) : BLe Y (forM rt mi s0 (fun s d => match d with
      | .tup ds => if ds.length = is.length then f s ds else M.bad
      | _ => M.bad) k) (evK G call sub wf (.cons (.for is it b) r :: rs) (T s0 j0)) :=
  b_for T hr hi (fun s j d => by
    cases d with
    | tup ds =>
      rw [bind_tup h2 (hl s j)]
      dsimp only
      by_cases q : ds.length = is.length
      · rw [if_pos q, if_pos q]
        have := hb s j ds q
        rw [evK_one] at this
        exact this
      · rw [if_neg q]
        exact BLe.bad _
    | _ => exact BLe.bad _) hk
theorem b_for2 {σ J : Type} (T : σ → J → Env) {s0 : σ} {j0 : J} {i j : Nat} {it : Iw} {b r : Ss} {rs : List Ss} {mi : M (List D)} {f : σ → D → D → M (St σ)} {k : σ → M β} {rt : W → M β} (hl : ∀ s q, okIs [i, j] (T s q)) (hr : Rt Y rt) (hi : ShI G call it (T s0 j0) mi)
    (hb : ∀ s q x y, BLe (EL T) (f s x y) (evK G call sub wf [b] (bindNames [i, j] [.v x, .v y] (T s q)))) (hk : ∀ s j, BLe Y (k s) (evK G call sub wf (r :: rs) (T s j))) : BLe Y (forM rt mi s0 (fun s => pair (f s)) k) (evK G call sub wf (.cons (.for [i, j] it b) r :: rs) (T s0 j0)) :=
  b_for T hr hi (fun s q d => by
    cases d with
    | tup ds =>
      rw [bind_tup (by simp) (hl s q)]
      match ds with
      | [x, y] =>
        have := hb s q x y
        rw [evK_one] at this
        exact this
      | [] => exact BLe.bad _
      | [_] => exact BLe.bad _
      | _ :: _ :: _ :: _ => exact BLe.bad _
    | _ => exact BLe.bad _) hk
theorem b_for3 {σ J : Type} (T : σ → J → Env) {s0 : σ} {j0 : J} {i j l : Nat} {it : Iw} {b r : Ss} {rs : List Ss} {mi : M (List D)} {f : σ → D → D → D → M (St σ)} {k : σ → M β} {rt : W → M β} (hl : ∀ s q, okIs [i, j, l] (T s q)) (hr : Rt Y rt) (hi : ShI G call it (T s0 j0) mi)
    (hb : ∀ s q x y z, BLe (EL T) (f s x y z) (evK G call sub wf [b] (bindNames [i, j, l] [.v x, .v y, .v z] (T s q)))) (hk : ∀ s j, BLe Y (k s) (evK G call sub wf (r :: rs) (T s j))) : BLe Y (forM rt mi s0 (fun s => trip (f s)) k) (evK G call sub wf (.cons (.for [i, j, l] it b) r :: rs) (T s0 j0)) :=
  b_for T hr hi (fun s q d => by
    cases d with
    | tup ds =>
      rw [bind_tup (by simp) (hl s q)]
      match ds with
      | [x, y, z] =>
        have := hb s q x y z
        rw [evK_one] at this
        exact this
      | [] => exact BLe.bad _
      | [_] => exact BLe.bad _
      | [_, _] => exact BLe.bad _
      | _ :: _ :: _ :: _ :: _ => exact BLe.bad _
    | _ => exact BLe.bad _) hk
theorem b_for4 {σ J : Type} (T : σ → J → Env) {s0 : σ} {j0 : J} {i j l o : Nat} {it : Iw} {b r : Ss} {rs : List Ss} {mi : M (List D)} {f : σ → D → D → D → D → M (St σ)} {k : σ → M β} {rt : W → M β} (hl : ∀ s q, okIs [i, j, l, o] (T s q)) (hr : Rt Y rt) (hi : ShI G call it (T s0 j0) mi)
    (hb : ∀ s q x y z u, BLe (EL T) (f s x y z u) (evK G call sub wf [b] (bindNames [i, j, l, o] [.v x, .v y, .v z, .v u] (T s q)))) (hk : ∀ s j, BLe Y (k s) (evK G call sub wf (r :: rs) (T s j))) : BLe Y (forM rt mi s0 (fun s => quad (f s)) k) (evK G call sub wf (.cons (.for [i, j, l, o] it b) r :: rs) (T s0 j0)) :=
  b_for T hr hi (fun s q d => by
    cases d with
    | tup ds =>
      rw [bind_tup (by simp) (hl s q)]
      match ds with
      | [x, y, z, u] =>
        have := hb s q x y z u
        rw [evK_one] at this
        exact this
      | [] => exact BLe.bad _
      | [_] => exact BLe.bad _
      | [_, _] => exact BLe.bad _
      | [_, _, _] => exact BLe.bad _
      | _ :: _ :: _ :: _ :: _ :: _ => exact BLe.bad _
    | _ => exact BLe.bad _) hk
theorem while_le {σ J : Type} {T : σ → J → Env} {t : σ → M Bool} {f : σ → M (St σ)} {t' : Env → M Bool} {g : Env → M Fl} (ht : ∀ s j, LeM (t s) (t' (T s j))) (h : ∀ s j, BLe (EL T) (f s) (g (T s j))) : ∀ (n : Nat) (s : σ) (j : J), BLe (EL T) (loopW t f n s) (fun c => whlLoop t' g n (T s j) c)
  | 0, s, j => BLe.bad _
  | n + 1, s, j => by
    have e1 : (fun c => whlLoop t' g (n + 1) (T s j) c) = M.bind (t' (T s j)) fun k => if k = true then M.bind (g (T s j)) fun k => match k with
      | .nxt ρ => fun c => whlLoop t' g n ρ c
      | .ret w => M.pure (.ret w)
      else M.pure (.nxt (T s j)) := by
      funext c
      show (t' (T s j) c).bind _ = _
      refine Res.bind_congr _ fun k c => ?_
      cases k
      · rfl
      · show (g (T s j) c).bind _ = _
        refine Res.bind_congr _ fun k c => ?_
        cases k <;> rfl
    rw [e1]
    refine BLe.bind (ht s j) fun k => BLe.ite (BLe.seq (h s j) fun a fl q => ?_) fun c => ⟨_, rfl, j, rfl⟩
    cases a with
    | nxt s' =>
      obtain ⟨j', q⟩ := q
      rw [q]
      exact while_le ht h n s' j'
    | ret w =>
      have q : fl = .ret w := q
      rw [q]
      exact rtL w
theorem b_whl {σ J : Type} (T : σ → J → Env) {s0 : σ} {j0 : J} {e : E} {b r : Ss} {rs : List Ss} {t : σ → M Bool} {f : σ → M (St σ)} {k : σ → M β} {rt : W → M β} (hr : Rt Y rt) (ht : ∀ s j, ShT G call e (T s j) (t s))
    (hb : ∀ s j, BLe (EL T) (f s) (evK G call sub wf [b] (T s j))) (hk : ∀ s j, BLe Y (k s) (evK G call sub wf (r :: rs) (T s j))) : BLe Y (whlM rt wf s0 t f k) (evK G call sub wf (.cons (.whl e b) r :: rs) (T s0 j0)) := by
  rw [evK_cons]
  have e1 : evS G call sub wf (.whl e b) (T s0 j0) = fun c => whlLoop (fun ρ => tst (evE G call e ρ)) (fun ρ => evSs G call sub wf b ρ) wf (T s0 j0) c := rfl
  rw [e1]
  refine BLe.seq (while_le ht (fun s j => by have := hb s j; rw [evK_one] at this; exact this) wf s0 j0) fun a fl q => ?_
  cases a with
  | nxt s' =>
    obtain ⟨j', q⟩ := q
    rw [q]
    exact hk s' j'
  | ret w =>
    have q : fl = .ret w := q
    rw [q]
    exact hr w
theorem hs_eq : ∀ (hs : List (Exc × D)) (x : Exc), (fun c => evHs sub (hsl hs) x c) = M.bind (hsM sub hs x) fun w => M.pure (.ret w)
  | [], x => rfl
  | (y, d) :: r, x => by
    funext c
    show (if sub x y = true then _ else _ : Res Fl) = M.bind (if sub x y = true then _ else _) _ c
    split
    · rfl
    · exact congrFun (hs_eq r x) c
theorem b_try {b r : Ss} {rs : List Ss} {hs : List (Exc × D)} {m : M W} {rt : W → M β} (hr : Rt Y rt) (h : BLe ER m (evK G call sub wf [b] ρ)) : BLe Y (M.bind (tryM sub m hs) rt) (evK G call sub wf (.cons (.try b (hsl hs)) r :: rs) ρ) := by
  rw [evK_cons]
  rw [evK_one] at h
  intro c
  have h := h c
  show match M.bind (tryM sub m hs) rt c with
    | .ok b c' => _
    | .exc e c' => _
    | .bad => _
  have e1 : evS G call sub wf (.try b (hsl hs)) ρ c = match evSs G call sub wf b ρ c with
    | .exc x c1 => evHs sub (hsl hs) x c1
    | r => r := rfl
  unfold M.bind tryM
  rw [e1]
  revert h
  cases m c with
  | bad => intro _; exact trivial
  | ok w c =>
    intro ⟨fl, h1, h2⟩
    rw [h1]
    have h2 : fl = .ret w := h2
    rw [h2]
    exact hr w c
  | exc x c =>
    intro h
    rw [h]
    have q := congrFun (hs_eq (sub := sub) hs x) c
    dsimp only at q ⊢
    rw [q]
    have := BLe.bind (Y := Y) (f' := fun w => M.bind (M.pure (Fl.ret w)) fun k => match k with
      | Fl.nxt ρ => evK G call sub wf (r :: rs) ρ
      | Fl.ret w => M.pure (.ret w)) (LeM.refl (hsM sub hs x)) (fun w => hr w)
    rw [← M.bind_assoc] at this
    exact this c
/-! ### defs -/
theorem def_le {Γ : Tab} {n f : Nat} {d : Def} {ws : List W} {m : M W} (hd : Γ.defs f = some d) (hl : ws.length = d.par) (h : BLe EW m (evK Γ.glob (ev Γ wf n) Γ.sub wf [d.body] (startE d.slots ws))) : LeM (cutM m) (ev Γ wf (n + 1) f ws) := fun c => by
  have e1 : ev Γ wf (n + 1) f ws c = finish c.length (evSs Γ.glob (ev Γ wf n) Γ.sub wf d.body (startE d.slots ws) c) := by
    show (match Γ.defs f with
      | some d => if ws.length = d.par then finish c.length (evSs Γ.glob (ev Γ wf n) Γ.sub wf d.body (startE d.slots ws) c) else .bad
      | none => .bad) = _
    rw [hd]
    exact if_pos hl
  rw [evK_one] at h
  have h := h c
  rw [e1]
  unfold cutM
  revert h
  cases m c with
  | bad => intro _; exact .inl rfl
  | exc x c => intro h; rw [h]; exact .inr rfl
  | ok w c =>
    intro ⟨fl, h1, h2⟩
    rw [h1]
    rcases h2 with h2 | ⟨h2, ρ, h3⟩
    · rw [h2]; exact .inr rfl
    · rw [h2, h3]; exact .inr rfl
theorem bad_ev {Γ : Tab} {n f : Nat} {ws : List W} : LeM M.bad (ev Γ wf n f ws) := fun _ => .inl rfl
end
end Q
namespace Q
section
variable {G : Nat → Option D} {call : Nat → List W → Cells → Res W} {sub : Exc → Exc → Bool} {wf : Nat} {ρ : Env} {β : Type} {Y : β → Fl → Prop}
/-- a branch's end goes on -/
def joinM {σ β : Type} (rt : W → M β) (m : M (St σ)) (k : σ → M β) : M β := M.bind m fun r => match r with
  | .nxt s => k s
  | .ret w => rt w
theorem b_join {σ J : Type} (T : σ → J → Env) {e : E} {a b r : Ss} {rs : List Ss} {t : M Bool} {m n : M (St σ)} {k : σ → M β} {rt : W → M β} (hr : Rt Y rt) (h : ShT G call e ρ t) (g : BLe (EL T) m (evK G call sub wf [a] ρ)) (g2 : BLe (EL T) n (evK G call sub wf [b] ρ))
    (hk : ∀ s j, BLe Y (k s) (evK G call sub wf (r :: rs) (T s j))) : BLe Y (joinM rt (ifM t m n) k) (evK G call sub wf (.cons (.ife e a b) r :: rs) ρ) := by
  rw [evK_cons]
  rw [evK_one] at g g2
  have e1 : evS G call sub wf (.ife e a b) ρ = M.bind (tst (evE G call e ρ)) fun k => if k = true then evSs G call sub wf a ρ else evSs G call sub wf b ρ := by
    funext c
    show (evE G call e ρ c).bind _ = _
    simp only [tst, M.bind, Res.bind_assoc]
    exact Res.bind_congr _ fun w c => Res.bind_congr _ fun k c => by cases k <;> rfl
  rw [e1]
  refine BLe.seq (Y0 := EL T) (BLe.bind h fun k => BLe.ite g g2) fun a fl q => ?_
  cases a with
  | nxt s' =>
    obtain ⟨j', q⟩ := q
    rw [q]
    exact hk s' j'
  | ret w =>
    have q : fl = .ret w := q
    rw [q]
    exact hr w
end
end Q
end
section
set_option autoImplicit false
namespace Q
theorem ltE {i n : Nat} (h : Nat.blt i n = true) : i < n := by
  exact Nat.le_of_ble_eq_true h
/-- which clause takes which exception (by their places in errors.py; 0 is the base) -/
def subX (x y : Exc) : Bool := y == 0 || x == y
end Q
end
section
set_option autoImplicit false
set_option maxRecDepth 100000
/-! # the program's defs, shallow (printed by mksh.py) -/
namespace Sh
open PySem Q
def g_LETTERS : D := (.str "abcdefghijklmnopqrstuvwxyz")
def g_KINDS : D := (.tup [(.str "rows"), (.str "keys"), (.str "values")])
def g_HOWS : D := (.tup [(.str "live"), (.str "once")])
def g_CHANGES : D := (.tup [(.str "add"), (.str "drop"), (.str "set"), (.str "move")])
def g_MOST_TABLES : D := (.int 3)
def g_MOST_VIEWS : D := (.int 5)
def g_MOST_STEPS : D := (.int 40)
def g_MOST_ITEMS : D := (.int 80)
def g_MOST_DEEP : D := (.int 8)
def g_MOST_OPS : D := (.int 6)
def g_MOST_SHORT : D := (.int 9)
def g_PLAIN_OPS : D := (.dct ["keys", "values", "bykey", "byvalue"] [(.tup [(.str "rows")]), (.tup [(.str "rows")]), (.tup [(.str "rows"), (.str "keys")]), (.tup [(.str "rows"), (.str "values")])])
def g_TEST_OPS : D := (.dct ["keep", "pass"] [(.tup [(.str "rows"), (.str "keys")]), (.tup [(.str "rows"), (.str "values")])])
def F_is_whole (v_value : W) (v_low : W) (v_high : W) : M W := cutM (bV (andT (isT .int (pW v_value)) (andT (notT (isT .bool (pW v_value))) (chnT .le .le (pW v_low) (pW v_value) (pW v_high)))))
def F_is_label (v_value : W) : M W := cutM (ifM (orT (notT (isT .str (pW v_value))) (notT (chnT .le .le (pV (.int 1)) (bltM .len [(pW v_value)]) (pV (.int 8)))))
    (pV (.bl false))
    (bltM .all [(lcM false (walkM (pW v_value)) (fun d1 => (pB true)) (fun d1 => (bV (cmpT .in_ (pV d1) (pV g_LETTERS)))))]))
def F_are_labels (v_value : W) (v_least : W) (v_most : W) : M W := cutM (ifM (orT (notT (isT .tuple (pW v_value))) (orT (notT (chnT .le .le (pW v_least) (bltM .len [(pW v_value)]) (pW v_most))) (notT (tst (bltM .all [(lcM false (walkM (pW v_value)) (fun d1 => (pB true)) (fun d1 => (call1 F_is_label (pV d1))))])))))
    (pV (.bl false))
    (bltM .all [(lcM false (zipM (pW v_value) (slcM (pW v_value) (oS (pV (.int 1))) oN)) (pair (fun d2 d3 => (pB true))) (pair (fun d2 d3 => (bV (cmpT .lt (pV d2) (pV d3))))))]))
def F_is_declared (v_tables : W) (v_value : W) : M W := cutM (ifM (orT (notT (isT .tuple (pW v_value))) (orT (cmpT .ne (bltM .len [(pW v_value)]) (pV (.int 4))) (orT (notT (tst (call1 F_is_label (idxM (pW v_value) (pV (.int 0)))))) (cmpT .in_ (idxM (pW v_value) (pV (.int 0))) (pW v_tables)))))
    (pV (.bl false))
    (ifM (orT (notT (isT .str (idxM (pW v_value) (pV (.int 1))))) (orT (cmpT .notIn (idxM (pW v_value) (pV (.int 1))) (pV g_KINDS)) (notT (isT .bool (idxM (pW v_value) (pV (.int 3)))))))
    (pV (.bl false))
    (bV (andT (tst (call3 F_are_labels (idxM (pW v_value) (pV (.int 2))) (pV (.int 1)) (pV g_MOST_TABLES))) (tst (bltM .all [(lcM false (walkM (idxM (pW v_value) (pV (.int 2)))) (fun d1 => (pB true)) (fun d1 => (bV (cmpT .in_ (pV d1) (pW v_tables)))))]))))))
def F_is_head (v_tables : W) (v_views : W) : M W := cutM (ifM (orT (notT (tst (call3 F_are_labels (pW v_tables) (pV (.int 1)) (pV g_MOST_TABLES)))) (orT (notT (isT .tuple (pW v_views))) (notT (chnT .le .le (pV (.int 1)) (bltM .len [(pW v_views)]) (pV g_MOST_VIEWS)))))
    (pV (.bl false))
    (ifM (notT (tst (bltM .all [(lcM false (walkM (pW v_views)) (fun d1 => (pB true)) (fun d1 => (call2 F_is_declared (pW v_tables) (pV d1))))])))
    (pV (.bl false))
    (bltM .all [(lcM false (zipM (pW v_views) (slcM (pW v_views) (oS (pV (.int 1))) oN)) (pair (fun d2 d3 => (pB true))) (pair (fun d2 d3 => (bV (cmpT .lt (idxM (pV d2) (pV (.int 0))) (idxM (pV d3) (pV (.int 0))))))))])))
def F_told_of (v_views : W) (v_name : W) : M W := cutM (M.bind (lcM false (walkM (pW v_views)) (fun d1 => (andT (isT .str (pW v_name)) (cmpT .eq (idxM (pV d1) (pV (.int 0))) (pW v_name)))) (fun d1 => (pV d1))) fun v_found =>
    (ifM (cmpT .ne (pW v_found) (lstM [])) (idxM (pW v_found) (pV (.int 0))) (pV .non)))
def F_begun (v_tables : W) (v_views : W) (v_source : W) : M W := cutM (ifM (orT (notT (isT .tuple (pW v_source))) (orT (cmpT .ne (bltM .len [(pW v_source)]) (pV (.int 2))) (notT (isT .str (idxM (pW v_source) (pV (.int 0)))))))
    (pV .non)
    (ifM (andT (cmpT .eq (idxM (pW v_source) (pV (.int 0))) (pV (.str "table"))) (andT (isT .str (idxM (pW v_source) (pV (.int 1)))) (cmpT .in_ (idxM (pW v_source) (pV (.int 1))) (pW v_tables))))
    (tupM [(pV (.str "rows")), (tupM [(idxM (pW v_source) (pV (.int 1)))]), (pV (.bl true))])
    (M.bind (ifM (cmpT .eq (idxM (pW v_source) (pV (.int 0))) (pV (.str "of"))) (call2 F_told_of (pW v_views) (idxM (pW v_source) (pV (.int 1)))) (pV .non)) fun v_view =>
    (ifM (cmpT .isN (pW v_view) (pV .non)) (pV .non) (slcM (pW v_view) (oS (pV (.int 1))) oN)))))
def F_with_op (v_views : W) (v_state : W) (v_op : W) : M W := cutM (M.bind (pW v_state) (un3 fun v_kind v_names v_long =>
    (ifM (orT (notT (isT .tuple (pW v_op))) (orT (cmpT .eq (pW v_op) (tupM [])) (notT (isT .str (idxM (pW v_op) (pV (.int 0)))))))
    (pV .non)
    (M.bind (idxM (pW v_op) (pV (.int 0))) fun v_word =>
    (ifM (andT (cmpT .eq (pW v_word) (pV (.str "back"))) (cmpT .eq (bltM .len [(pW v_op)]) (pV (.int 1))))
    (pW v_state)
    (ifM (andT (cmpT .in_ (pW v_word) (pV g_PLAIN_OPS)) (cmpT .eq (bltM .len [(pW v_op)]) (pV (.int 1))))
    (ifM (cmpT .in_ (pW v_kind) (idxM (pV g_PLAIN_OPS) (pW v_word))) (tupM [(ifM (cmpT .in_ (pW v_word) (pV g_KINDS)) (pW v_word) (pW v_kind)), (pW v_names), (pW v_long)]) (pV .non))
    (ifM (andT (cmpT .in_ (pW v_word) (tupM [(pV (.str "first")), (pV (.str "last"))])) (cmpT .eq (bltM .len [(pW v_op)]) (pV (.int 2))))
    (ifM (tst (call3 F_is_whole (idxM (pW v_op) (pV (.int 1))) (pV (.int 1)) (pV g_MOST_SHORT))) (tupM [(pW v_kind), (pW v_names), (pV (.bl false))]) (pV .non))
    (ifM (andT (cmpT .in_ (pW v_word) (pV g_TEST_OPS)) (cmpT .eq (bltM .len [(pW v_op)]) (pV (.int 2))))
    (ifM (andT (tst (call1 F_is_label (idxM (pW v_op) (pV (.int 1))))) (cmpT .in_ (pW v_kind) (idxM (pV g_TEST_OPS) (pW v_word)))) (pW v_state) (pV .non))
    (ifM (orT (cmpT .notIn (pW v_word) (tupM [(pV (.str "in")), (pV (.str "out"))])) (orT (cmpT .ne (bltM .len [(pW v_op)]) (pV (.int 2))) (cmpT .eq (pW v_kind) (pV (.str "values")))))
    (pV .non)
    (M.bind (call2 F_told_of (pW v_views) (idxM (pW v_op) (pV (.int 1)))) fun v_view =>
    (ifM (orT (cmpT .isN (pW v_view) (pV .non)) (orT (cmpT .eq (idxM (pW v_view) (pV (.int 1))) (pV (.str "values"))) (orT (notT (tst (idxM (pW v_view) (pV (.int 3))))) (notT (tst (bltM .all [(lcM false (walkM (idxM (pW v_view) (pV (.int 2)))) (fun d1 => (pB true)) (fun d1 => (bV (cmpT .notIn (pV d1) (pW v_names)))))]))))))
    (pV .non)
    (tupM [(pW v_kind), (bltM .tuple [(bltM .sorted [(binM .add (pW v_names) (idxM (pW v_view) (pV (.int 2))))])]), (pW v_long)]))))))))))))
def F_shape_of (v_tables : W) (v_views : W) (v_source : W) (v_ops : W) : M W := cutM (M.bind (call3 F_begun (pW v_tables) (pW v_views) (pW v_source)) fun v_state =>
    (ifM (orT (notT (isT .tuple (pW v_ops))) (cmpT .gt (bltM .len [(pW v_ops)]) (pV g_MOST_OPS)))
    (pV .non)
    (forM pW (walkM (pW v_ops)) v_state (fun (s1 : W) d1 =>
    (ifM (cmpT .notN (pW s1) (pV .non))
    (M.bind (call3 F_with_op (pW v_views) (pW s1) (pV d1)) fun v_state_2 =>
    (pN v_state_2))
    (pN s1))) fun s1 =>
    (pW s1))))
def F_is_view_step (v_tables : W) (v_views : W) (v_item : W) : M W := cutM (ifM (orT (cmpT .ne (bltM .len [(pW v_item)]) (pV (.int 5))) (orT (notT (isT .str (idxM (pW v_item) (pV (.int 2))))) (cmpT .notIn (idxM (pW v_item) (pV (.int 2))) (pV g_HOWS))))
    (pV (.bl false))
    (M.bind (call2 F_told_of (pW v_views) (idxM (pW v_item) (pV (.int 1)))) fun v_view =>
    (M.bind (call4 F_shape_of (pW v_tables) (pW v_views) (idxM (pW v_item) (pV (.int 3))) (idxM (pW v_item) (pV (.int 4)))) fun v_state =>
    (ifM (orT (cmpT .isN (pW v_view) (pV .non)) (cmpT .isN (pW v_state) (pV .non)))
    (pV (.bl false))
    (bV (andT (cmpT .eq (slcM (pW v_view) (oS (pV (.int 1))) (oS (pV (.int 3)))) (slcM (pW v_state) oN (oS (pV (.int 2))))) (orT (tst (idxM (pW v_state) (pV (.int 2)))) (notT (tst (idxM (pW v_view) (pV (.int 3))))))))))))
def F_is_simple (v_tables : W) (v_views : W) (v_item : W) : M W := cutM (ifM (cmpT .eq (idxM (pW v_item) (pV (.int 0))) (pV (.str "view")))
    (call3 F_is_view_step (pW v_tables) (pW v_views) (pW v_item))
    (ifM (orT (cmpT .ne (bltM .len [(pW v_item)]) (pV (.int 2))) (notT (isT .str (idxM (pW v_item) (pV (.int 1))))))
    (pV (.bl false))
    (ifM (cmpT .in_ (idxM (pW v_item) (pV (.int 0))) (pV g_CHANGES))
    (bV (cmpT .in_ (idxM (pW v_item) (pV (.int 1))) (pW v_tables)))
    (bV (andT (cmpT .eq (idxM (pW v_item) (pV (.int 0))) (pV (.str "tell"))) (cmpT .notN (call2 F_told_of (pW v_views) (idxM (pW v_item) (pV (.int 1)))) (pV .non)))))))
def F_inner (v_item : W) : M W := cutM (ifM (cmpT .in_ (idxM (pW v_item) (pV (.int 0))) (tupM [(pV (.str "either")), (pV (.str "loop"))]))
    (slcM (pW v_item) (oS (pV (.int 1))) oN)
    (ifM (cmpT .eq (idxM (pW v_item) (pV (.int 0))) (pV (.str "walk"))) (slcM (pW v_item) (oS (pV (.int 2))) oN) (tupM [])))
mutual
def F_measured_item : Nat → W → W → W → W → M W
  | 0, _, _, _, _ => M.bad
  | m + 1, v_tables, v_views, v_item, v_deep => cutM (ifM (orT (notT (isT .tuple (pW v_item))) (orT (cmpT .eq (pW v_item) (tupM [])) (notT (isT .str (idxM (pW v_item) (pV (.int 0)))))))
    (pV .non)
    (ifM (cmpT .notIn (idxM (pW v_item) (pV (.int 0))) (tupM [(pV (.str "either")), (pV (.str "loop")), (pV (.str "walk"))]))
    (ifM (tst (call3 F_is_simple (pW v_tables) (pW v_views) (pW v_item))) (tupM [(pV (.int 1)), (pV (.int 1))]) (pV .non))
    (ifM (orT (andT (cmpT .eq (idxM (pW v_item) (pV (.int 0))) (pV (.str "either"))) (notT (chnT .le .le (pV (.int 3)) (bltM .len [(pW v_item)]) (pV (.int 5))))) (andT (cmpT .eq (idxM (pW v_item) (pV (.int 0))) (pV (.str "loop"))) (cmpT .ne (bltM .len [(pW v_item)]) (pV (.int 2)))))
    (pV .non)
    (joinM pW (ifM (cmpT .eq (idxM (pW v_item) (pV (.int 0))) (pV (.str "walk")))
    (M.bind (ifM (cmpT .eq (bltM .len [(pW v_item)]) (pV (.int 3))) (call2 F_told_of (pW v_views) (idxM (pW v_item) (pV (.int 1)))) (pV .non)) fun v_view =>
    (ifM (orT (cmpT .isN (pW v_view) (pV .non)) (notT (tst (idxM (pW v_view) (pV (.int 3))))))
    (M.bind (pV .non) pR)
    (pN ())))
    (pN ())) fun s1 =>
    (M.bind (tupM [(bltM .int [(bV (cmpT .eq (idxM (pW v_item) (pV (.int 0))) (pV (.str "walk"))))]), (pV (.int 1))]) fun v_found =>
    (forM pW (walkM (call1 F_inner (pW v_item))) v_found (fun (s2 : W) d1 =>
    (M.bind (call4 (F_measured m) (pW v_tables) (pW v_views) (pV d1) (binM .add (pW v_deep) (pV (.int 1)))) fun v_more =>
    (ifM (cmpT .isN (pW v_more) (pV .non))
    (M.bind (pV .non) pR)
    (M.bind (tupM [(binM .add (idxM (pW s2) (pV (.int 0))) (idxM (pW v_more) (pV (.int 0)))), (binM .add (idxM (pW s2) (pV (.int 1))) (idxM (pW v_more) (pV (.int 1))))]) fun v_found_2 =>
    (pN v_found_2))))) fun s2 =>
    (pW s2)))))))
def F_measured : Nat → W → W → W → W → M W
  | 0, _, _, _, _ => M.bad
  | m + 1, v_tables, v_views, v_body, v_deep => cutM (ifM (orT (notT (isT .tuple (pW v_body))) (cmpT .gt (pW v_deep) (pV g_MOST_DEEP)))
    (pV .non)
    (M.bind (tupM [(pV (.int 0)), (pV (.int 0))]) fun v_found =>
    (forM pW (walkM (pW v_body)) v_found (fun (s1 : W) d1 =>
    (M.bind (call4 (F_measured_item m) (pW v_tables) (pW v_views) (pV d1) (pW v_deep)) fun v_more =>
    (ifM (cmpT .isN (pW v_more) (pV .non))
    (M.bind (pV .non) pR)
    (M.bind (tupM [(binM .add (idxM (pW s1) (pV (.int 0))) (idxM (pW v_more) (pV (.int 0)))), (binM .add (idxM (pW s1) (pV (.int 1))) (idxM (pW v_more) (pV (.int 1))))]) fun v_found_2 =>
    (pN v_found_2))))) fun s1 =>
    (pW s1))))
end
def F_is_program (v_value : W) : M W := cutM (ifM (orT (notT (isT .tuple (pW v_value))) (orT (cmpT .ne (bltM .len [(pW v_value)]) (pV (.int 3))) (notT (tst (call2 F_is_head (idxM (pW v_value) (pV (.int 0))) (idxM (pW v_value) (pV (.int 1))))))))
    (pV (.bl false))
    (M.bind (call4 (F_measured 40) (idxM (pW v_value) (pV (.int 0))) (idxM (pW v_value) (pV (.int 1))) (idxM (pW v_value) (pV (.int 2))) (pV (.int 1))) fun v_found =>
    (bV (andT (cmpT .notN (pW v_found) (pV .non)) (andT (cmpT .le (idxM (pW v_found) (pV (.int 0))) (pV g_MOST_STEPS)) (cmpT .le (idxM (pW v_found) (pV (.int 1))) (pV g_MOST_ITEMS)))))))
def F_need_program (v_program : W) : M W := cutM (ifM (notT (tst (call1 F_is_program (pW v_program))))
    (M.exc 1)
    (pV .non))
def F_steps_in : Nat → W → M W
  | 0, _ => M.bad
  | m + 1, v_body => cutM (M.bind (lstM []) fun v_found =>
    (forM pW (walkM (pW v_body)) v_found (fun (s1 : W) d1 =>
    (joinM pR (ifM (cmpT .eq (idxM (pV d1) (pV (.int 0))) (pV (.str "walk")))
    (M.bind (binM .add (pW s1) (lstM [(slcM (pV d1) oN (oS (pV (.int 2))))])) fun v_found_2 =>
    (pN v_found_2))
    (ifM (cmpT .notIn (idxM (pV d1) (pV (.int 0))) (tupM [(pV (.str "either")), (pV (.str "loop"))]))
    (M.bind (binM .add (pW s1) (lstM [(pV d1)])) fun v_found_3 =>
    (pN v_found_3))
    (pN s1))) fun s2 =>
    (forM pR (walkM (call1 F_inner (pV d1))) s2 (fun (s3 : W) d2 =>
    (M.bind (binM .add (pW s3) (call1 (F_steps_in m) (pV d2))) fun v_found_4 =>
    (pN v_found_4))) fun s3 =>
    (pN s3)))) fun s1 =>
    (pW s1)))
def F_steps (v_program : W) : M W := cutM (M.bind (call1 F_need_program (pW v_program)) fun _ =>
    (call1 (F_steps_in 40) (idxM (pW v_program) (pV (.int 2)))))
def F__law_deck (v_cell : W) (v_turn : W) : M W := cutM (ifM (cmpT .ge (pW v_cell) (binM .pow (pV (.int 10)) (pV (.int 18))))
    (celM [(binM .sub (pW v_cell) (binM .pow (pV (.int 10)) (pV (.int 18)))), (binM .mod (bltM .int [(pW v_cell)]) (pV (.int 2147483579))), (pW v_turn)])
    (celM [(pV (.int 0)), (binM .mod (bltM .int [(pW v_cell)]) (pV (.int 2147483579))), (pW v_turn)]))
def F__law_pick (v_deck : W) (v_limit : W) : M W := cutM (ifM (cmpT .gt (idxM (pW v_deck) (pV (.int 0))) (pV (.int 1)))
    (M.bind (binM .mod (bltM .int [(idxM (pW v_deck) (pV (.int 0)))]) (pW v_limit)) fun v_got =>
    (M.bind (binM .fdiv (idxM (pW v_deck) (pV (.int 0))) (pW v_limit)) fun w1 => M.bind (pW v_deck) fun w2 => M.bind (pV (.int 0)) fun w3 => setW w2 w3 w1
    (pW v_got)))
    (M.bind (binM .add (idxM (pW v_deck) (pV (.int 2))) (pV (.int 1))) fun w4 => M.bind (pW v_deck) fun w5 => M.bind (pV (.int 2)) fun w6 => setW w5 w6 w4
    (M.bind (binM .mod (bltM .int [(binM .pow (bltM .int [(binM .add (idxM (pW v_deck) (pV (.int 1))) (binM .mul (pV (.int 15485867)) (idxM (pW v_deck) (pV (.int 2)))))]) (pV (.int 5)))]) (pV (.int 2147483647))) fun v_number =>
    (M.bind (binM .fdiv (binM .mod (bltM .int [(binM .pow (bltM .int [(binM .add (pW v_number) (binM .mul (pV (.int 7919)) (idxM (pW v_deck) (pV (.int 2)))))]) (pV (.int 3)))]) (pV (.int 2147483629))) (pV (.int 32))) fun v_got_2 =>
    (binM .mod (bltM .int [(pW v_got_2)]) (pW v_limit))))))
def F__law_one (v_deck : W) (v_items : W) : M W := cutM (idxM (pW v_items) (call2 F__law_pick (pW v_deck) (bltM .len [(pW v_items)])))
def F__law_head (v_deck : W) : M W := cutM (M.bind (slcM (lstM [(pV (.str "t")), (pV (.str "a")), (pV (.str "boxes")), (pV (.str "tt"))]) (oS (call2 F__law_pick (pW v_deck) (pV (.int 2)))) oN) fun v_pool =>
    (M.bind (bltM .tuple [(bltM .sorted [(slcM (pW v_pool) oN (oS (binM .add (pV (.int 1)) (call2 F__law_pick (pW v_deck) (pV (.int 3))))))])]) fun v_tables =>
    (M.bind (celM [(pV (.str "k")), (pV (.str "v")), (pV (.str "w")), (pV (.str "inbox")), (pV (.str "xs")), (pV (.str "u"))]) fun v_names =>
    (M.bind (celM []) fun v_found =>
    (forM pW (rngM (binM .add (pV (.int 1)) (call2 F__law_pick (pW v_deck) (pV (.int 4))))) () (fun (s1 : Unit) d1 =>
    (M.bind (popM (pW v_names) (call2 F__law_pick (pW v_deck) (bltM .len [(pW v_names)]))) fun v_name =>
    (M.bind (call2 F__law_one (pW v_deck) (lstM [(pW v_tables), (slcM (pW v_tables) oN (oS (pV (.int 1)))), (slcM (pW v_tables) (oS (negM (pV (.int 1)))) oN), (slcM (pW v_tables) oN (oS (pV (.int 2))))])) fun v_some =>
    (M.bind (call2 F__law_one (pW v_deck) (lstM [(pV (.str "rows")), (pV (.str "rows")), (pV (.str "keys")), (pV (.str "keys")), (pV (.str "values"))])) fun v_kind =>
    (M.bind (appM (pW v_found) (tupM [(pW v_name), (pW v_kind), (pW v_some), (bV (cmpT .eq (call2 F__law_pick (pW v_deck) (pV (.int 2))) (pV (.int 0))))])) fun _ =>
    (pN ())))))) fun s1 =>
    (M.bind (appM (pW v_found) (tupM [(pV (.str "zz")), (pV (.str "rows")), (slcM (pW v_tables) oN (oS (pV (.int 1)))), (pV (.bl true))])) fun _ =>
    (tupM [(pW v_tables), (bltM .tuple [(bltM .sorted [(pW v_found)])])])))))))
def F__law_list (v_head : W) (v_name : W) : M W := cutM (M.bind (lcM false (walkM (idxM (pW v_head) (pV (.int 1)))) (fun d1 => (andT (isT .str (pW v_name)) (cmpT .eq (idxM (pV d1) (pV (.int 0))) (pW v_name)))) (fun d1 => (pV d1))) fun v_found =>
    (ifM (cmpT .ne (pW v_found) (lstM [])) (idxM (pW v_found) (pV (.int 0))) (pV .non)))
def F__law_source (v_head : W) (v_source : W) : M W := cutM (ifM (orT (notT (isT .tuple (pW v_source))) (orT (cmpT .ne (bltM .len [(pW v_source)]) (pV (.int 2))) (notT (isT .str (idxM (pW v_source) (pV (.int 1)))))))
    (pV .non)
    (ifM (cmpT .eq (idxM (pW v_source) (pV (.int 0))) (pV (.str "table")))
    (ifM (cmpT .in_ (idxM (pW v_source) (pV (.int 1))) (idxM (pW v_head) (pV (.int 0)))) (tupM [(pV (.str "rows")), (tupM [(idxM (pW v_source) (pV (.int 1)))]), (pV (.bl true))]) (pV .non))
    (M.bind (call2 F__law_list (pW v_head) (idxM (pW v_source) (pV (.int 1)))) fun v_row =>
    (ifM (andT (cmpT .eq (idxM (pW v_source) (pV (.int 0))) (pV (.str "of"))) (cmpT .notN (pW v_row) (pV .non))) (slcM (pW v_row) (oS (pV (.int 1))) oN) (pV .non)))))
def F__law_is_label (v_value : W) : M W := cutM (ifM (orT (notT (isT .str (pW v_value))) (notT (chnT .le .le (pV (.int 1)) (bltM .len [(pW v_value)]) (pV (.int 8)))))
    (pV (.bl false))
    (bV (cmpT .eq (lcM false (walkM (pW v_value)) (fun d1 => (cmpT .notIn (pV d1) (pV (.str "abcdefghijklmnopqrstuvwxyz")))) (fun d1 => (pV d1))) (lstM []))))
def F__law_with (v_head : W) (v_state : W) (v_op : W) : M W := cutM (M.bind (pW v_state) (un3 fun v_kind v_names v_is_long =>
    (ifM (orT (notT (isT .tuple (pW v_op))) (orT (notT (chnT .le .le (pV (.int 1)) (bltM .len [(pW v_op)]) (pV (.int 2)))) (notT (isT .str (idxM (pW v_op) (pV (.int 0)))))))
    (pV .non)
    (ifM (andT (cmpT .eq (bltM .len [(pW v_op)]) (pV (.int 1))) (cmpT .in_ (idxM (pW v_op) (pV (.int 0))) (tupM [(pV (.str "keys")), (pV (.str "values"))])))
    (ifM (cmpT .eq (pW v_kind) (pV (.str "rows"))) (tupM [(idxM (pW v_op) (pV (.int 0))), (pW v_names), (pW v_is_long)]) (pV .non))
    (ifM (cmpT .eq (bltM .len [(pW v_op)]) (pV (.int 1)))
    (M.bind (dicM ["bykey", "byvalue", "back"] [(pV (.str "values")), (pV (.str "keys")), (pV (.str ""))]) fun v_bad =>
    (ifM (andT (cmpT .in_ (idxM (pW v_op) (pV (.int 0))) (pW v_bad)) (cmpT .ne (pW v_kind) (idxM (pW v_bad) (idxM (pW v_op) (pV (.int 0)))))) (pW v_state) (pV .non)))
    (ifM (cmpT .in_ (idxM (pW v_op) (pV (.int 0))) (tupM [(pV (.str "first")), (pV (.str "last"))]))
    (M.bind (bV (andT (isT .int (idxM (pW v_op) (pV (.int 1)))) (andT (notT (isT .bool (idxM (pW v_op) (pV (.int 1))))) (chnT .le .le (pV (.int 1)) (idxM (pW v_op) (pV (.int 1))) (pV (.int 9)))))) fun v_fine =>
    (ifM (tst (pW v_fine)) (tupM [(pW v_kind), (pW v_names), (pV (.bl false))]) (pV .non)))
    (ifM (orT (andT (cmpT .eq (idxM (pW v_op) (pV (.int 0))) (pV (.str "keep"))) (cmpT .ne (pW v_kind) (pV (.str "values")))) (andT (cmpT .eq (idxM (pW v_op) (pV (.int 0))) (pV (.str "pass"))) (cmpT .ne (pW v_kind) (pV (.str "keys")))))
    (ifM (tst (call1 F__law_is_label (idxM (pW v_op) (pV (.int 1))))) (pW v_state) (pV .non))
    (M.bind (call2 F__law_list (pW v_head) (idxM (pW v_op) (pV (.int 1)))) fun v_row =>
    (ifM (orT (cmpT .notIn (idxM (pW v_op) (pV (.int 0))) (tupM [(pV (.str "in")), (pV (.str "out"))])) (orT (cmpT .eq (pW v_kind) (pV (.str "values"))) (orT (cmpT .isN (pW v_row) (pV .non)) (orT (cmpT .eq (idxM (pW v_row) (pV (.int 1))) (pV (.str "values"))) (notT (tst (idxM (pW v_row) (pV (.int 3)))))))))
    (pV .non)
    (ifM (cmpT .ne (lcM false (walkM (idxM (pW v_row) (pV (.int 2)))) (fun d1 => (cmpT .in_ (pV d1) (pW v_names))) (fun d1 => (pV d1))) (lstM []))
    (pV .non)
    (tupM [(pW v_kind), (bltM .tuple [(bltM .sorted [(binM .add (pW v_names) (idxM (pW v_row) (pV (.int 2))))])]), (pW v_is_long)])))))))))))
def F__law_shape (v_head : W) (v_source : W) (v_ops : W) : M W := cutM (M.bind (call2 F__law_source (pW v_head) (pW v_source)) fun v_state =>
    (forM pW (walkM (pW v_ops)) v_state (fun (s1 : W) d1 =>
    (ifM (cmpT .notN (pW s1) (pV .non))
    (M.bind (call3 F__law_with (pW v_head) (pW s1) (pV d1)) fun v_state_2 =>
    (pN v_state_2))
    (pN s1))) fun s1 =>
    (pW s1)))
def F__law_op (v_deck : W) (v_head : W) (v_state : W) : M W := cutM (M.bind (call2 F__law_one (pW v_deck) (lstM [(pV (.str "keys")), (pV (.str "values")), (pV (.str "bykey")), (pV (.str "byvalue")), (pV (.str "back")), (pV (.str "first")), (pV (.str "last")), (pV (.str "keep")), (pV (.str "pass")), (pV (.str "in")), (pV (.str "out"))])) fun v_word =>
    (M.bind (call2 F__law_one (pW v_deck) (lstM [(pV (.int 1)), (pV (.int 2)), (pV (.int 3)), (binM .add (pV (.int 1)) (call2 F__law_pick (pW v_deck) (pV (.int 9))))])) fun v_number =>
    (M.bind (call2 F__law_one (pW v_deck) (lstM [(pV (.str "even")), (pV (.str "x"))])) fun v_test =>
    (M.bind (idxM (call2 F__law_one (pW v_deck) (idxM (pW v_head) (pV (.int 1)))) (pV (.int 0))) fun v_other =>
    (M.bind (dicM ["first", "last", "keep", "pass"] [(tupM [(pW v_number)]), (tupM [(pW v_number)]), (tupM [(pW v_test)]), (tupM [(pW v_test)])]) fun v_more =>
    (M.bind (binM .add (tupM [(pW v_word)]) (getM (pW v_more) (pW v_word) (ifM (cmpT .in_ (pW v_word) (tupM [(pV (.str "in")), (pV (.str "out"))])) (tupM [(pW v_other)]) (tupM [])))) fun v_op =>
    (ifM (cmpT .notN (call3 F__law_with (pW v_head) (pW v_state) (pW v_op)) (pV .non)) (pW v_op) (tupM [(pV (.str "back"))]))))))))
def F__law_view (v_deck : W) (v_head : W) : M W := cutM (M.bind (call2 F__law_one (pW v_deck) (lstM [(pV (.str "live")), (pV (.str "live")), (pV (.str "live")), (pV (.str "once"))])) fun v_how =>
    (forM pW (rngM (pV (.int 4))) () (fun (s1 : Unit) d1 =>
    (M.bind (call2 F__law_one (pW v_deck) (lstM [(tupM [(pV (.str "table")), (call2 F__law_one (pW v_deck) (idxM (pW v_head) (pV (.int 0))))]), (tupM [(pV (.str "of")), (idxM (call2 F__law_one (pW v_deck) (idxM (pW v_head) (pV (.int 1)))) (pV (.int 0)))])])) fun v_source =>
    (M.bind (call2 F__law_source (pW v_head) (pW v_source)) fun v_state =>
    (M.bind (tupM []) fun v_ops =>
    (vW v_state (vW v_ops (forM pR (rngM (call2 F__law_one (pW v_deck) (lstM [(pV (.int 0)), (pV (.int 1)), (pV (.int 1)), (pV (.int 2)), (pV (.int 3)), (pV (.int 5))]))) (v_state, v_ops) (fun (s2 : W × W) d2 =>
    (M.bind (call3 F__law_op (pW v_deck) (pW v_head) (pW s2.1)) fun v_op =>
    (M.bind (call3 F__law_with (pW v_head) (pW s2.1) (pW v_op)) fun v_state_2 =>
    (M.bind (binM .add (pW s2.2) (tupM [(pW v_op)])) fun v_ops_2 =>
    (vW v_state_2 (vW v_ops_2 (pN (v_state_2, v_ops_2)))))))) fun s2 =>
    (M.bind (lcM false (walkM (idxM (pW v_head) (pV (.int 1)))) (fun d3 => (andT (cmpT .eq (slcM (pV d3) (oS (pV (.int 1))) (oS (pV (.int 3)))) (slcM (pW s2.1) oN (oS (pV (.int 2))))) (orT (tst (idxM (pW s2.1) (pV (.int 2)))) (notT (tst (idxM (pV d3) (pV (.int 3)))))))) (fun d3 => (idxM (pV d3) (pV (.int 0))))) fun v_fits =>
    (ifM (cmpT .ne (pW v_fits) (lstM []))
    (M.bind (tupM [(pV (.str "view")), (call2 F__law_one (pW v_deck) (pW v_fits)), (pW v_how), (pW v_source), (pW s2.2)]) pR)
    (pN ())))))))))) fun s1 =>
    (tupM [(pV (.str "view")), (pV (.str "zz")), (pW v_how), (tupM [(pV (.str "table")), (idxM (idxM (pW v_head) (pV (.int 0))) (pV (.int 0)))]), (tupM [])])))
def F__law_body : Nat → W → W → W → W → M W
  | 0, _, _, _, _ => M.bad
  | m + 1, v_deck, v_head, v_deep, v_left => cutM (M.bind (celM []) fun v_items =>
    (M.bind (lcM false (walkM (idxM (pW v_head) (pV (.int 1)))) (fun d1 => (tst (idxM (pV d1) (pV (.int 3))))) (fun d1 => (idxM (pV d1) (pV (.int 0))))) fun v_walks =>
    (forM pW (rngM (binM .add (pV (.int 1)) (call2 F__law_pick (pW v_deck) (pV (.int 5))))) () (fun (s1 : Unit) d2 =>
    (M.bind (call2 F__law_pick (pW v_deck) (pV (.int 20))) fun v_kind =>
    (M.bind (binM .sub (idxM (pW v_left) (pV (.int 0))) (pV (.int 1))) fun w4 => M.bind (pW v_left) fun w5 => M.bind (pV (.int 0)) fun w6 => setW w5 w6 w4
    (ifM (cmpT .lt (idxM (pW v_left) (pV (.int 0))) (pV (.int 0)))
    (M.bind (bltM .tuple [(pW v_items)]) pR)
    (ifM (cmpT .lt (pW v_kind) (pV (.int 7)))
    (M.bind (appM (pW v_items) (call2 F__law_view (pW v_deck) (pW v_head))) fun _ =>
    (pN ()))
    (ifM (cmpT .lt (pW v_kind) (pV (.int 11)))
    (M.bind (appM (pW v_items) (tupM [(call2 F__law_one (pW v_deck) (lstM [(pV (.str "add")), (pV (.str "drop")), (pV (.str "set")), (pV (.str "move"))])), (call2 F__law_one (pW v_deck) (idxM (pW v_head) (pV (.int 0))))])) fun _ =>
    (pN ()))
    (ifM (orT (cmpT .lt (pW v_kind) (pV (.int 14))) (cmpT .eq (pW v_deep) (pV (.int 0))))
    (M.bind (appM (pW v_items) (tupM [(pV (.str "tell")), (idxM (call2 F__law_one (pW v_deck) (idxM (pW v_head) (pV (.int 1)))) (pV (.int 0)))])) fun _ =>
    (pN ()))
    (ifM (cmpT .lt (pW v_kind) (pV (.int 16)))
    (M.bind (appM (pW v_items) (tupM [(pV (.str "walk")), (call2 F__law_one (pW v_deck) (pW v_walks)), (call4 (F__law_body m) (pW v_deck) (pW v_head) (binM .sub (pW v_deep) (pV (.int 1))) (pW v_left))])) fun _ =>
    (pN ()))
    (ifM (cmpT .lt (pW v_kind) (pV (.int 18)))
    (M.bind (appM (pW v_items) (tupM [(pV (.str "loop")), (call4 (F__law_body m) (pW v_deck) (pW v_head) (binM .sub (pW v_deep) (pV (.int 1))) (pW v_left))])) fun _ =>
    (pN ()))
    (M.bind (lcM true (rngM (binM .add (pV (.int 2)) (call2 F__law_pick (pW v_deck) (pV (.int 2))))) (fun d3 => (pB true)) (fun d3 => (call4 (F__law_body m) (pW v_deck) (pW v_head) (binM .sub (pW v_deep) (pV (.int 1))) (pW v_left)))) fun v_some =>
    (M.bind (ifM (cmpT .eq (call2 F__law_pick (pW v_deck) (pV (.int 2))) (pV (.int 0))) (idxM (pW v_some) (pV (.int 0))) (tupM [])) fun w1 => M.bind (pW v_some) fun w2 => M.bind (pV (.int 0)) fun w3 => setW w2 w3 w1
    (M.bind (appM (pW v_items) (bltM .tuple [(binM .add (lstM [(pV (.str "either"))]) (pW v_some))])) fun _ =>
    (pN ()))))))))))))) fun s1 =>
    (bltM .tuple [(pW v_items)]))))
def F__law_program (v_deck : W) (v_limit : W) : M W := cutM (M.bind (call1 F__law_head (pW v_deck)) fun v_head =>
    (M.bind (celM [(pW v_limit)]) fun v_left =>
    (M.bind (tupM []) fun v_body =>
    (whlM pW 100 v_body (fun s1 => (andT (cmpT .lt (bltM .len [(pW s1)]) (pV (.int 3))) (cmpT .gt (idxM (pW v_left) (pV (.int 0))) (pV (.int 0))))) (fun s1 =>
    (M.bind (binM .add (pW s1) (call4 (F__law_body 40) (pW v_deck) (pW v_head) (call2 F__law_pick (pW v_deck) (pV (.int 4))) (pW v_left))) fun v_body_2 =>
    (pN v_body_2))) fun s1 =>
    (binM .add (pW v_head) (tupM [(pW s1)]))))))
def F__law_inner (v_item : W) : M W := cutM (ifM (cmpT .eq (idxM (pW v_item) (pV (.int 0))) (pV (.str "walk")))
    (slcM (pW v_item) (oS (pV (.int 2))) oN)
    (ifM (cmpT .in_ (idxM (pW v_item) (pV (.int 0))) (tupM [(pV (.str "either")), (pV (.str "loop"))])) (slcM (pW v_item) (oS (pV (.int 1))) oN) (tupM [])))
def F__law_rows : Nat → W → W → M W
  | 0, _, _ => M.bad
  | m + 1, v_body, v_at => cutM (M.bind (celM []) fun v_rows =>
    (forM pW (walkM (pW v_body)) () (fun (s1 : Unit) d1 =>
    (M.bind (idxM (pW v_at) (pV (.int 0))) fun v_number =>
    (joinM pR (ifM (cmpT .notIn (idxM (pV d1) (pV (.int 0))) (tupM [(pV (.str "either")), (pV (.str "loop"))]))
    (M.bind (binM .add (idxM (pW v_at) (pV (.int 0))) (pV (.int 1))) fun w1 => M.bind (pW v_at) fun w2 => M.bind (pV (.int 0)) fun w3 => setW w2 w3 w1
    (pN ()))
    (pN ())) fun s2 =>
    (M.bind (appM (pW v_rows) (tupM [(idxM (pV d1) (pV (.int 0))), (pW v_number), (pV d1), (lcM false (walkM (call1 F__law_inner (pV d1))) (fun d2 => (pB true)) (fun d2 => (call2 (F__law_rows m) (pV d2) (pW v_at))))])) fun _ =>
    (pN ()))))) fun s1 =>
    (frzM (pW v_rows))))
def F__law_steps : Nat → W → M W
  | 0, _ => M.bad
  | m + 1, v_rows => cutM (M.bind (celM []) fun v_found =>
    (forM pW (walkM (pW v_rows)) v_found (fun (s1 : W) => quad (fun d1 d2 d3 d4 =>
    (joinM pR (ifM (cmpT .notIn (pV d1) (tupM [(pV (.str "either")), (pV (.str "loop"))]))
    (M.bind (appM (pW s1) (ifM (cmpT .eq (pV d1) (pV (.str "walk"))) (slcM (pV d3) oN (oS (pV (.int 2)))) (pV d3))) fun _ =>
    (pN ()))
    (pN ())) fun s2 =>
    (forM pR (walkM (pV d4)) s1 (fun (s3 : W) d5 =>
    (M.bind (cadM (pW s3) (call1 (F__law_steps m) (pV d5))) fun v_found_2 =>
    (pN v_found_2))) fun s3 =>
    (pN s3))))) fun s1 =>
    (frzM (pW s1))))
def F__law_labels (v_value : W) (v_least : W) (v_most : W) : M W := cutM (ifM (orT (notT (isT .tuple (pW v_value))) (notT (chnT .le .le (pW v_least) (bltM .len [(pW v_value)]) (pW v_most))))
    (pV (.bl false))
    (ifM (cmpT .ne (lcM false (walkM (pW v_value)) (fun d1 => (notT (tst (call1 F__law_is_label (pV d1))))) (fun d1 => (pV d1))) (lstM []))
    (pV (.bl false))
    (bV (cmpT .eq (lcM false (rng2M (pV (.int 1)) (bltM .len [(pW v_value)])) (fun d2 => (cmpT .ge (idxM (pW v_value) (binM .sub (pV d2) (pV (.int 1)))) (idxM (pW v_value) (pV d2)))) (fun d2 => (pV d2))) (lstM [])))))
def F__law_is_head (v_tables : W) (v_lists : W) : M W := cutM (ifM (orT (notT (tst (call3 F__law_labels (pW v_tables) (pV (.int 1)) (pV (.int 3))))) (orT (notT (isT .tuple (pW v_lists))) (notT (chnT .le .le (pV (.int 1)) (bltM .len [(pW v_lists)]) (pV (.int 5))))))
    (pV (.bl false))
    (forM pW (walkM (pW v_lists)) () (fun (s1 : Unit) d1 =>
    (ifM (orT (notT (isT .tuple (pV d1))) (orT (cmpT .ne (bltM .len [(pV d1)]) (pV (.int 4))) (orT (notT (tst (call1 F__law_is_label (idxM (pV d1) (pV (.int 0)))))) (cmpT .in_ (idxM (pV d1) (pV (.int 0))) (pW v_tables)))))
    (M.bind (pV (.bl false)) pR)
    (ifM (orT (notT (isT .str (idxM (pV d1) (pV (.int 1))))) (orT (cmpT .notIn (idxM (pV d1) (pV (.int 1))) (tupM [(pV (.str "rows")), (pV (.str "keys")), (pV (.str "values"))])) (notT (isT .bool (idxM (pV d1) (pV (.int 3)))))))
    (M.bind (pV (.bl false)) pR)
    (ifM (orT (notT (tst (call3 F__law_labels (idxM (pV d1) (pV (.int 2))) (pV (.int 1)) (pV (.int 3))))) (cmpT .ne (lcM false (walkM (idxM (pV d1) (pV (.int 2)))) (fun d2 => (cmpT .notIn (pV d2) (pW v_tables))) (fun d2 => (pV d2))) (lstM [])))
    (M.bind (pV (.bl false)) pR)
    (pN ()))))) fun s1 =>
    (bV (cmpT .eq (lcM false (rng2M (pV (.int 1)) (bltM .len [(pW v_lists)])) (fun d3 => (cmpT .ge (idxM (idxM (pW v_lists) (binM .sub (pV d3) (pV (.int 1)))) (pV (.int 0))) (idxM (idxM (pW v_lists) (pV d3)) (pV (.int 0))))) (fun d3 => (pV d3))) (lstM [])))))
def F__law_is_simple (v_head : W) (v_item : W) : M W := cutM (ifM (cmpT .eq (idxM (pW v_item) (pV (.int 0))) (pV (.str "view")))
    (ifM (orT (cmpT .ne (bltM .len [(pW v_item)]) (pV (.int 5))) (orT (notT (isT .str (idxM (pW v_item) (pV (.int 2))))) (cmpT .notIn (idxM (pW v_item) (pV (.int 2))) (tupM [(pV (.str "live")), (pV (.str "once"))]))))
    (pV (.bl false))
    (M.bind (call2 F__law_list (pW v_head) (idxM (pW v_item) (pV (.int 1)))) fun v_row =>
    (ifM (orT (cmpT .isN (pW v_row) (pV .non)) (orT (notT (isT .tuple (idxM (pW v_item) (pV (.int 4))))) (cmpT .gt (bltM .len [(idxM (pW v_item) (pV (.int 4)))]) (pV (.int 6)))))
    (pV (.bl false))
    (M.bind (call3 F__law_shape (pW v_head) (idxM (pW v_item) (pV (.int 3))) (idxM (pW v_item) (pV (.int 4)))) fun v_state =>
    (bV (andT (cmpT .notN (pW v_state) (pV .non)) (andT (cmpT .eq (slcM (pW v_state) oN (oS (pV (.int 2)))) (slcM (pW v_row) (oS (pV (.int 1))) (oS (pV (.int 3))))) (orT (tst (idxM (pW v_state) (pV (.int 2)))) (notT (tst (idxM (pW v_row) (pV (.int 3)))))))))))))
    (ifM (orT (cmpT .ne (bltM .len [(pW v_item)]) (pV (.int 2))) (notT (isT .str (idxM (pW v_item) (pV (.int 1))))))
    (pV (.bl false))
    (ifM (cmpT .in_ (idxM (pW v_item) (pV (.int 0))) (tupM [(pV (.str "add")), (pV (.str "drop")), (pV (.str "set")), (pV (.str "move"))]))
    (bV (cmpT .in_ (idxM (pW v_item) (pV (.int 1))) (idxM (pW v_head) (pV (.int 0)))))
    (bV (andT (cmpT .eq (idxM (pW v_item) (pV (.int 0))) (pV (.str "tell"))) (cmpT .notN (call2 F__law_list (pW v_head) (idxM (pW v_item) (pV (.int 1)))) (pV .non)))))))
def F__law_size : Nat → W → W → W → M W
  | 0, _, _, _ => M.bad
  | m + 1, v_head, v_body, v_deep => cutM (ifM (orT (notT (isT .tuple (pW v_body))) (cmpT .gt (pW v_deep) (pV (.int 8))))
    (pV .non)
    (M.bind (pV (.int 0)) fun v_many =>
    (M.bind (pV (.int 0)) fun v_items =>
    (vW v_many (vW v_items (forM pW (walkM (pW v_body)) (v_many, v_items) (fun (s1 : W × W) d1 =>
    (ifM (orT (notT (isT .tuple (pV d1))) (orT (cmpT .eq (pV d1) (tupM [])) (notT (isT .str (idxM (pV d1) (pV (.int 0)))))))
    (M.bind (pV .non) pR)
    (M.bind (tupM []) fun v_parts =>
    (joinM pR (ifM (cmpT .in_ (idxM (pV d1) (pV (.int 0))) (tupM [(pV (.str "either")), (pV (.str "loop")), (pV (.str "walk"))]))
    (M.bind (ifM (cmpT .eq (idxM (pV d1) (pV (.int 0))) (pV (.str "walk"))) (slcM (pV d1) (oS (pV (.int 2))) oN) (slcM (pV d1) (oS (pV (.int 1))) oN)) fun v_parts_2 =>
    (M.bind (ifM (andT (cmpT .eq (idxM (pV d1) (pV (.int 0))) (pV (.str "walk"))) (cmpT .gt (bltM .len [(pV d1)]) (pV (.int 1)))) (call2 F__law_list (pW v_head) (idxM (pV d1) (pV (.int 1)))) (pV .non)) fun v_row =>
    (ifM (andT (cmpT .eq (idxM (pV d1) (pV (.int 0))) (pV (.str "walk"))) (orT (cmpT .isN (pW v_row) (pV .non)) (notT (tst (idxM (pW v_row) (pV (.int 3)))))))
    (M.bind (pV .non) pR)
    (ifM (orT (cmpT .lt (bltM .len [(pW v_parts_2)]) (pV (.int 1))) (orT (cmpT .gt (bltM .len [(pW v_parts_2)]) (pV (.int 4))) (cmpT .ne (bV (cmpT .eq (idxM (pV d1) (pV (.int 0))) (pV (.str "either")))) (bV (cmpT .gt (bltM .len [(pW v_parts_2)]) (pV (.int 1)))))))
    (M.bind (pV .non) pR)
    (pN v_parts_2)))))
    (ifM (notT (tst (call2 F__law_is_simple (pW v_head) (pV d1))))
    (M.bind (pV .non) pR)
    (pN v_parts))) fun s2 =>
    (M.bind (binM .add (pW s1.1) (bltM .int [(bV (cmpT .notIn (idxM (pV d1) (pV (.int 0))) (tupM [(pV (.str "either")), (pV (.str "loop"))])))])) fun v_many_2 =>
    (M.bind (binM .add (pW s1.2) (pV (.int 1))) fun v_items_2 =>
    (forM pR (walkM (pW s2)) (v_many_2, v_items_2) (fun (s3 : W × W) d2 =>
    (M.bind (call3 (F__law_size m) (pW v_head) (pV d2) (binM .add (pW v_deep) (pV (.int 1)))) fun v_within =>
    (ifM (cmpT .isN (pW v_within) (pV .non))
    (M.bind (pV .non) pR)
    (M.bind (binM .add (pW s3.1) (idxM (pW v_within) (pV (.int 0)))) fun v_many_3 =>
    (M.bind (binM .add (pW s3.2) (idxM (pW v_within) (pV (.int 1)))) fun v_items_3 =>
    (pN (v_many_3, v_items_3))))))) fun s3 =>
    (pN (s3.1, s3.2))))))))) fun s1 =>
    (tupM [(pW s1.1), (pW s1.2)])))))))
def F__law_is_program (v_value : W) : M W := cutM (ifM (orT (notT (isT .tuple (pW v_value))) (orT (cmpT .ne (bltM .len [(pW v_value)]) (pV (.int 3))) (notT (tst (call2 F__law_is_head (idxM (pW v_value) (pV (.int 0))) (idxM (pW v_value) (pV (.int 1))))))))
    (pV (.bl false))
    (M.bind (call3 (F__law_size 40) (slcM (pW v_value) oN (oS (pV (.int 2)))) (idxM (pW v_value) (pV (.int 2))) (pV (.int 1))) fun v_found =>
    (bV (andT (cmpT .notN (pW v_found) (pV .non)) (andT (cmpT .le (idxM (pW v_found) (pV (.int 0))) (pV (.int 40))) (cmpT .le (idxM (pW v_found) (pV (.int 1))) (pV (.int 80))))))))
def F__law_odd (v_deck : W) : M W := cutM (M.bind (lstM [(pV .non), (pV (.bl true)), (pV (.bl false)), (pV (.int 0)), (pV (.int 1)), (pV (.int 9)), (pV (.int 10)), (negM (pV (.int 1))), (binM .pow (pV (.int 10)) (pV (.int 30))), (pV (.str "")), (pV (.str "t")), (pV (.str "a")), (pV (.str "k")), (pV (.str "v")), (pV (.str "zz")), (pV (.str "A")), (pV (.str "abcdefgh")), (pV (.str "abcdefghi"))]) fun v_some =>
    (M.bind (binM .add (pW v_some) (lstM [(pV (.str "rows")), (pV (.str "keys")), (pV (.str "values")), (pV (.str "live")), (pV (.str "once")), (pV (.str "table")), (pV (.str "of")), (pV (.str "view")), (pV (.str "tell")), (pV (.str "walk")), (pV (.str "loop")), (tupM []), (lstM [])])) fun v_some_2 =>
    (M.bind (binM .add (pW v_some_2) (lstM [(tupM [(pV (.str "keys"))]), (tupM [(pV (.str "back"))]), (tupM [(pV (.str "first")), (pV (.int 1))]), (tupM [(pV (.str "in")), (pV (.str "zz"))]), (tupM [(pV (.str "tell")), (pV (.str "zz"))]), (tupM [(pV (.str "t"))])])) fun v_some_3 =>
    (call2 F__law_one (pW v_deck) (binM .add (pW v_some_3) (lstM [(tupM [(pV (.str "loop")), (tupM [])])]))))))
def F__law_bent : Nat → W → W → M W
  | 0, _, _ => M.bad
  | m + 1, v_deck, v_value => cutM (ifM (orT (notT (isT .tuple (pW v_value))) (orT (cmpT .eq (pW v_value) (tupM [])) (cmpT .eq (call2 F__law_pick (pW v_deck) (pV (.int 6))) (pV (.int 0)))))
    (ifM (andT (isT .int (pW v_value)) (cmpT .eq (call2 F__law_pick (pW v_deck) (pV (.int 2))) (pV (.int 0))))
    (binM .add (pW v_value) (call2 F__law_one (pW v_deck) (lstM [(pV (.int 1)), (negM (pV (.int 1))), (pV (.int 9))])))
    (call1 F__law_odd (pW v_deck)))
    (M.bind (call2 F__law_pick (pW v_deck) (bltM .len [(pW v_value)])) fun v_at =>
    (M.bind (call2 F__law_pick (pW v_deck) (pV (.int 10))) fun v_way =>
    (ifM (cmpT .eq (pW v_way) (pV (.int 0)))
    (binM .add (slcM (pW v_value) oN (oS (pW v_at))) (slcM (pW v_value) (oS (binM .add (pW v_at) (pV (.int 1)))) oN))
    (ifM (cmpT .eq (pW v_way) (pV (.int 1)))
    (binM .add (slcM (pW v_value) oN (oS (binM .add (pW v_at) (pV (.int 1))))) (slcM (pW v_value) (oS (pW v_at)) oN))
    (ifM (cmpT .eq (pW v_way) (pV (.int 2)))
    (binM .add (binM .add (slcM (pW v_value) oN (oS (pW v_at))) (tupM [(call1 F__law_odd (pW v_deck))])) (slcM (pW v_value) (oS (pW v_at)) oN))
    (ifM (cmpT .eq (pW v_way) (pV (.int 3)))
    (bltM .list [(pW v_value)])
    (ifM (cmpT .eq (pW v_way) (pV (.int 4)))
    (binM .add (slcM (pW v_value) (oS (pW v_at)) oN) (slcM (pW v_value) oN (oS (pW v_at))))
    (binM .add (binM .add (slcM (pW v_value) oN (oS (pW v_at))) (tupM [(call2 (F__law_bent m) (pW v_deck) (idxM (pW v_value) (pW v_at)))])) (slcM (pW v_value) (oS (binM .add (pW v_at) (pV (.int 1)))) oN))))))))))
def F__law_told (v_value : W) : M W := cutM (M.bind (call1 F_is_program (pW v_value)) fun v_said =>
    (bV (andT (isT .bool (pW v_said)) (cmpT .eq (pW v_said) (call1 F__law_is_program (pW v_value))))))
def F_law_k01 (v_script : W) : M W := cutM (forM pW (walkM (slcM (binM .add (lstM [(pV (.int 0))]) (pW v_script)) oN (oS (pV (.int 6))))) () (fun (s1 : Unit) d1 =>
    (M.bind (call2 F__law_deck (pV d1) (pV (.int 3))) fun v_deck =>
    (M.bind (call2 F__law_program (pW v_deck) (pV (.int 14))) fun v_program =>
    (ifM (orT (cmpT .notT (call1 F_is_program (pW v_program)) (pV (.bl true))) (cmpT .ne (call1 F_steps (pW v_program)) (call1 (F__law_steps 40) (call2 (F__law_rows 40) (idxM (pW v_program) (pV (.int 2))) (celM [(pV (.int 0))])))))
    (M.bind (pV (.bl false)) pR)
    (forM pR (rngM (pV (.int 8))) () (fun (s2 : Unit) d2 =>
    (M.bind (pW v_program) fun v_value =>
    (forM pR (rngM (pV (.int 3))) v_value (fun (s3 : W) d3 =>
    (M.bind (call2 (F__law_bent 40) (pW v_deck) (pW s3)) fun v_value_2 =>
    (ifM (notT (tst (call1 F__law_told (pW v_value_2))))
    (M.bind (pV (.bl false)) pR)
    (pN v_value_2)))) fun s3 =>
    (pN ())))) fun s2 =>
    (ifM (orT (notT (tst (call1 F__law_told (call1 F__law_odd (pW v_deck))))) (notT (tst (call1 F__law_told (binM .add (slcM (pW v_program) oN (oS (pV (.int 2)))) (tupM [(binM .add (idxM (pW v_program) (pV (.int 2))) (tupM [(tupM [(pV (.str "tell")), (pV (.str "none"))])]))]))))))
    (M.bind (pV (.bl false)) pR)
    (pN ()))))))) fun s1 =>
    (M.bind (tupM [(tupM [(pV (.str "t"))]), (tupM [(tupM [(pV (.str "k")), (pV (.str "keys")), (tupM [(pV (.str "t"))]), (pV (.bl true))]), (tupM [(pV (.str "v")), (pV (.str "values")), (tupM [(pV (.str "t"))]), (pV (.bl false))])])]) fun v_head =>
    (M.bind (celM []) fun v_rows =>
    (M.bind (tupM []) fun v_deep =>
    (forM pW (walkM (tupM [(pV (.int 39)), (pV (.int 40)), (pV (.int 41)), (pV (.int 80)), (pV (.int 81))])) v_rows (fun (s4 : W) d4 =>
    (M.bind (cadM (pW s4) (lstM [(binM .mul (tupM [(tupM [(pV (.str "tell")), (pV (.str "v"))])]) (pV d4)), (binM .mul (tupM [(tupM [(pV (.str "loop")), (tupM [])])]) (pV d4)), (binM .mul (tupM [(tupM [(pV (.str "walk")), (pV (.str "k")), (tupM [])])]) (pV d4))])) fun v_rows_2 =>
    (pN v_rows_2))) fun s4 =>
    (forM pW (rngM (pV (.int 9))) v_deep (fun (s5 : W) d5 =>
    (M.bind (tupM [(idxM (lstM [(tupM [(pV (.str "loop")), (pW s5)]), (tupM [(pV (.str "walk")), (pV (.str "k")), (pW s5)]), (tupM [(pV (.str "either")), (pW s5), (tupM [])])]) (binM .mod (bltM .int [(pV d5)]) (pV (.int 3))))]) fun v_deep_2 =>
    (M.bind (appM (pW s4) (pW v_deep_2)) fun _ =>
    (pN v_deep_2)))) fun s5 =>
    (M.bind (lstM [(binM .mul (tupM [(tupM [(pV (.str "keys"))])]) (pV (.int 2))), (tupM [(tupM [(pV (.str "values"))]), (tupM [(pV (.str "bykey"))])]), (tupM [(tupM [(pV (.str "keys"))]), (tupM [(pV (.str "byvalue"))])]), (tupM [(tupM [(pV (.str "first")), (pV (.int 10))])]), (tupM [(tupM [(pV (.str "in")), (pV (.str "k"))])])]) fun v_some =>
    (forM pW (walkM (pW v_some)) () (fun (s6 : Unit) d6 =>
    (M.bind (appM (pW s4) (tupM [(tupM [(pV (.str "view")), (pV (.str "k")), (pV (.str "live")), (tupM [(pV (.str "table")), (pV (.str "t"))]), (pV d6)])])) fun _ =>
    (pN ()))) fun s6 =>
    (M.bind (cadM (pW s4) (lstM [(tupM [(tupM [(pV (.str "view")), (pV (.str "k")), (pV (.str "once")), (tupM [(pV (.str "of")), (pV (.str "k"))]), (tupM [(tupM [(pV (.str "first")), (pV (.int 1))])])])]), (tupM [(tupM [(pV (.str "view")), (pV (.str "k")), (pV (.str "live")), (tupM [(pV (.str "of")), (pV (.str "k"))]), (tupM [])])])])) fun v_rows_3 =>
    (M.bind (appM (pW v_rows_3) (tupM [(tupM [(pV (.str "view")), (pV (.str "v")), (pV (.str "live")), (tupM [(pV (.str "table")), (pV (.str "t"))]), (tupM [(tupM [(pV (.str "byvalue"))]), (tupM [(pV (.str "values"))]), (tupM [(pV (.str "last")), (pV (.int 9))]), (tupM [(pV (.str "pass")), (pV (.str "x"))])])])])) fun _ =>
    (bV (cmpT .eq (lcM false (walkM (frzM (pW v_rows_3))) (fun d7 => (notT (tst (call1 F__law_told (binM .add (pW v_head) (tupM [(pV d7)])))))) (fun d7 => (pV d7))) (lstM [])))))))))))))
end Sh
end
section
set_option autoImplicit false
set_option maxRecDepth 100000
namespace K01
open PySem Q Sh
/-- is_whole -/
def i_is_whole : Def where
  par := 3
  slots := 3
  body := (.cons (.ret (.and (.isi (.var 0) .int) (.and (.not (.isi (.var 0) .bool)) (.chn .le .le (.var 1) (.var 0) (.var 2)))))
  .nil)
def n_is_whole : List Str := ["value", "low", "high"]
/-- is_label -/
def i_is_label : Def where
  par := 1
  slots := 2
  body := (.cons (.ife (.or (.not (.isi (.var 0) .str)) (.not (.chn .le .le (.con (.int 1)) (.blt .len (.cons (.var 0) .nil)) (.con (.int 8))))) (.cons (.ret (.con (.bl false)))
  .nil) .nil)
  (.cons (.ret (.blt .all (.cons (.lc false (.cmp .in_ (.var 1) (.glo 0)) [1] (.val (.var 0)) .non) .nil)))
  .nil))
def n_is_label : List Str := ["value", "letter"]
/-- are_labels -/
def i_are_labels : Def where
  par := 3
  slots := 6
  body := (.cons (.ife (.or (.not (.isi (.var 0) .tuple)) (.or (.not (.chn .le .le (.var 1) (.blt .len (.cons (.var 0) .nil)) (.var 2))) (.not (.blt .all (.cons (.lc false (.call 1 (.cons (.var 3) .nil)) [3] (.val (.var 0)) .non) .nil))))) (.cons (.ret (.con (.bl false)))
  .nil) .nil)
  (.cons (.ret (.blt .all (.cons (.lc false (.cmp .lt (.var 4) (.var 5)) [4, 5] (.zip (.var 0) (.slc (.var 0) (.som (.con (.int 1))) .non)) .non) .nil)))
  .nil))
def n_are_labels : List Str := ["value", "least", "most", "name", "one", "other"]
/-- is_declared -/
def i_is_declared : Def where
  par := 2
  slots := 3
  body := (.cons (.ife (.or (.not (.isi (.var 1) .tuple)) (.or (.cmp .ne (.blt .len (.cons (.var 1) .nil)) (.con (.int 4))) (.or (.not (.call 1 (.cons (.idx (.var 1) (.con (.int 0))) .nil))) (.cmp .in_ (.idx (.var 1) (.con (.int 0))) (.var 0))))) (.cons (.ret (.con (.bl false)))
  .nil) .nil)
  (.cons (.ife (.or (.not (.isi (.idx (.var 1) (.con (.int 1))) .str)) (.or (.cmp .notIn (.idx (.var 1) (.con (.int 1))) (.glo 1)) (.not (.isi (.idx (.var 1) (.con (.int 3))) .bool)))) (.cons (.ret (.con (.bl false)))
  .nil) .nil)
  (.cons (.ret (.and (.call 2 (.cons (.idx (.var 1) (.con (.int 2))) (.cons (.con (.int 1)) (.cons (.glo 4) .nil)))) (.blt .all (.cons (.lc false (.cmp .in_ (.var 2) (.var 0)) [2] (.val (.idx (.var 1) (.con (.int 2)))) .non) .nil))))
  .nil)))
def n_is_declared : List Str := ["tables", "value", "name"]
/-- is_head -/
def i_is_head : Def where
  par := 2
  slots := 5
  body := (.cons (.ife (.or (.not (.call 2 (.cons (.var 0) (.cons (.con (.int 1)) (.cons (.glo 4) .nil))))) (.or (.not (.isi (.var 1) .tuple)) (.not (.chn .le .le (.con (.int 1)) (.blt .len (.cons (.var 1) .nil)) (.glo 5))))) (.cons (.ret (.con (.bl false)))
  .nil) .nil)
  (.cons (.ife (.not (.blt .all (.cons (.lc false (.call 3 (.cons (.var 0) (.cons (.var 2) .nil))) [2] (.val (.var 1)) .non) .nil))) (.cons (.ret (.con (.bl false)))
  .nil) .nil)
  (.cons (.ret (.blt .all (.cons (.lc false (.cmp .lt (.idx (.var 3) (.con (.int 0))) (.idx (.var 4) (.con (.int 0)))) [3, 4] (.zip (.var 1) (.slc (.var 1) (.som (.con (.int 1))) .non)) .non) .nil)))
  .nil)))
def n_is_head : List Str := ["tables", "views", "view", "one", "other"]
/-- told_of -/
def i_told_of : Def where
  par := 2
  slots := 4
  body := (.cons (.set (.name 2) (.lc false (.var 3) [3] (.val (.var 0)) (.som (.and (.isi (.var 1) .str) (.cmp .eq (.idx (.var 3) (.con (.int 0))) (.var 1))))))
  (.cons (.ret (.ite (.cmp .ne (.var 2) (.lst .nil)) (.idx (.var 2) (.con (.int 0))) (.con .non)))
  .nil))
def n_told_of : List Str := ["views", "name", "found", "view"]
/-- begun -/
def i_begun : Def where
  par := 3
  slots := 4
  body := (.cons (.ife (.or (.not (.isi (.var 2) .tuple)) (.or (.cmp .ne (.blt .len (.cons (.var 2) .nil)) (.con (.int 2))) (.not (.isi (.idx (.var 2) (.con (.int 0))) .str)))) (.cons (.ret (.con .non))
  .nil) .nil)
  (.cons (.ife (.and (.cmp .eq (.idx (.var 2) (.con (.int 0))) (.con (.str "table"))) (.and (.isi (.idx (.var 2) (.con (.int 1))) .str) (.cmp .in_ (.idx (.var 2) (.con (.int 1))) (.var 0)))) (.cons (.ret (.tup (.cons (.con (.str "rows")) (.cons (.tup (.cons (.idx (.var 2) (.con (.int 1))) .nil)) (.cons (.con (.bl true)) .nil)))))
  .nil) .nil)
  (.cons (.set (.name 3) (.ite (.cmp .eq (.idx (.var 2) (.con (.int 0))) (.con (.str "of"))) (.call 5 (.cons (.var 1) (.cons (.idx (.var 2) (.con (.int 1))) .nil))) (.con .non)))
  (.cons (.ret (.ite (.cmp .isN (.var 3) (.con .non)) (.con .non) (.slc (.var 3) (.som (.con (.int 1))) .non)))
  .nil))))
def n_begun : List Str := ["tables", "views", "source", "view"]
/-- with_op -/
def i_with_op : Def where
  par := 3
  slots := 9
  body := (.cons (.set (.names [3, 4, 5]) (.var 1))
  (.cons (.ife (.or (.not (.isi (.var 2) .tuple)) (.or (.cmp .eq (.var 2) (.tup .nil)) (.not (.isi (.idx (.var 2) (.con (.int 0))) .str)))) (.cons (.ret (.con .non))
  .nil) .nil)
  (.cons (.set (.name 6) (.idx (.var 2) (.con (.int 0))))
  (.cons (.ife (.and (.cmp .eq (.var 6) (.con (.str "back"))) (.cmp .eq (.blt .len (.cons (.var 2) .nil)) (.con (.int 1)))) (.cons (.ret (.var 1))
  .nil) .nil)
  (.cons (.ife (.and (.cmp .in_ (.var 6) (.glo 11)) (.cmp .eq (.blt .len (.cons (.var 2) .nil)) (.con (.int 1)))) (.cons (.ret (.ite (.cmp .in_ (.var 3) (.idx (.glo 11) (.var 6))) (.tup (.cons (.ite (.cmp .in_ (.var 6) (.glo 1)) (.var 6) (.var 3)) (.cons (.var 4) (.cons (.var 5) .nil)))) (.con .non)))
  .nil) .nil)
  (.cons (.ife (.and (.cmp .in_ (.var 6) (.tup (.cons (.con (.str "first")) (.cons (.con (.str "last")) .nil)))) (.cmp .eq (.blt .len (.cons (.var 2) .nil)) (.con (.int 2)))) (.cons (.ret (.ite (.call 0 (.cons (.idx (.var 2) (.con (.int 1))) (.cons (.con (.int 1)) (.cons (.glo 10) .nil)))) (.tup (.cons (.var 3) (.cons (.var 4) (.cons (.con (.bl false)) .nil)))) (.con .non)))
  .nil) .nil)
  (.cons (.ife (.and (.cmp .in_ (.var 6) (.glo 12)) (.cmp .eq (.blt .len (.cons (.var 2) .nil)) (.con (.int 2)))) (.cons (.ret (.ite (.and (.call 1 (.cons (.idx (.var 2) (.con (.int 1))) .nil)) (.cmp .in_ (.var 3) (.idx (.glo 12) (.var 6)))) (.var 1) (.con .non)))
  .nil) .nil)
  (.cons (.ife (.or (.cmp .notIn (.var 6) (.tup (.cons (.con (.str "in")) (.cons (.con (.str "out")) .nil)))) (.or (.cmp .ne (.blt .len (.cons (.var 2) .nil)) (.con (.int 2))) (.cmp .eq (.var 3) (.con (.str "values"))))) (.cons (.ret (.con .non))
  .nil) .nil)
  (.cons (.set (.name 7) (.call 5 (.cons (.var 0) (.cons (.idx (.var 2) (.con (.int 1))) .nil))))
  (.cons (.ife (.or (.cmp .isN (.var 7) (.con .non)) (.or (.cmp .eq (.idx (.var 7) (.con (.int 1))) (.con (.str "values"))) (.or (.not (.idx (.var 7) (.con (.int 3)))) (.not (.blt .all (.cons (.lc false (.cmp .notIn (.var 8) (.var 4)) [8] (.val (.idx (.var 7) (.con (.int 2)))) .non) .nil)))))) (.cons (.ret (.con .non))
  .nil) .nil)
  (.cons (.ret (.tup (.cons (.var 3) (.cons (.blt .tuple (.cons (.blt .sorted (.cons (.bin .add (.var 4) (.idx (.var 7) (.con (.int 2)))) .nil)) .nil)) (.cons (.var 5) .nil)))))
  .nil)))))))))))
def n_with_op : List Str := ["views", "state", "op", "kind", "names", "long", "word", "view", "name"]
/-- shape_of -/
def i_shape_of : Def where
  par := 4
  slots := 6
  body := (.cons (.set (.name 4) (.call 6 (.cons (.var 0) (.cons (.var 1) (.cons (.var 2) .nil)))))
  (.cons (.ife (.or (.not (.isi (.var 3) .tuple)) (.cmp .gt (.blt .len (.cons (.var 3) .nil)) (.glo 9))) (.cons (.ret (.con .non))
  .nil) .nil)
  (.cons (.for [5] (.val (.var 3)) (.cons (.ife (.cmp .notN (.var 4) (.con .non)) (.cons (.set (.name 4) (.call 7 (.cons (.var 1) (.cons (.var 4) (.cons (.var 5) .nil)))))
  .nil) .nil)
  .nil))
  (.cons (.ret (.var 4))
  .nil))))
def n_shape_of : List Str := ["tables", "views", "source", "ops", "state", "op"]
/-- is_view_step -/
def i_is_view_step : Def where
  par := 3
  slots := 5
  body := (.cons (.ife (.or (.cmp .ne (.blt .len (.cons (.var 2) .nil)) (.con (.int 5))) (.or (.not (.isi (.idx (.var 2) (.con (.int 2))) .str)) (.cmp .notIn (.idx (.var 2) (.con (.int 2))) (.glo 2)))) (.cons (.ret (.con (.bl false)))
  .nil) .nil)
  (.cons (.par true [3, 4] (.cons (.call 5 (.cons (.var 1) (.cons (.idx (.var 2) (.con (.int 1))) .nil))) (.cons (.call 8 (.cons (.var 0) (.cons (.var 1) (.cons (.idx (.var 2) (.con (.int 3))) (.cons (.idx (.var 2) (.con (.int 4))) .nil))))) .nil)))
  (.cons (.ife (.or (.cmp .isN (.var 3) (.con .non)) (.cmp .isN (.var 4) (.con .non))) (.cons (.ret (.con (.bl false)))
  .nil) .nil)
  (.cons (.ret (.and (.cmp .eq (.slc (.var 3) (.som (.con (.int 1))) (.som (.con (.int 3)))) (.slc (.var 4) .non (.som (.con (.int 2))))) (.or (.idx (.var 4) (.con (.int 2))) (.not (.idx (.var 3) (.con (.int 3)))))))
  .nil))))
def n_is_view_step : List Str := ["tables", "views", "item", "view", "state"]
/-- is_simple -/
def i_is_simple : Def where
  par := 3
  slots := 3
  body := (.cons (.ife (.cmp .eq (.idx (.var 2) (.con (.int 0))) (.con (.str "view"))) (.cons (.ret (.call 9 (.cons (.var 0) (.cons (.var 1) (.cons (.var 2) .nil)))))
  .nil) .nil)
  (.cons (.ife (.or (.cmp .ne (.blt .len (.cons (.var 2) .nil)) (.con (.int 2))) (.not (.isi (.idx (.var 2) (.con (.int 1))) .str))) (.cons (.ret (.con (.bl false)))
  .nil) .nil)
  (.cons (.ife (.cmp .in_ (.idx (.var 2) (.con (.int 0))) (.glo 3)) (.cons (.ret (.cmp .in_ (.idx (.var 2) (.con (.int 1))) (.var 0)))
  .nil) .nil)
  (.cons (.ret (.and (.cmp .eq (.idx (.var 2) (.con (.int 0))) (.con (.str "tell"))) (.cmp .notN (.call 5 (.cons (.var 1) (.cons (.idx (.var 2) (.con (.int 1))) .nil))) (.con .non))))
  .nil))))
def n_is_simple : List Str := ["tables", "views", "item"]
/-- inner -/
def i_inner : Def where
  par := 1
  slots := 1
  body := (.cons (.ife (.cmp .in_ (.idx (.var 0) (.con (.int 0))) (.tup (.cons (.con (.str "either")) (.cons (.con (.str "loop")) .nil)))) (.cons (.ret (.slc (.var 0) (.som (.con (.int 1))) .non))
  .nil) .nil)
  (.cons (.ret (.ite (.cmp .eq (.idx (.var 0) (.con (.int 0))) (.con (.str "walk"))) (.slc (.var 0) (.som (.con (.int 2))) .non) (.tup .nil)))
  .nil))
def n_inner : List Str := ["item"]
/-- measured_item -/
def i_measured_item : Def where
  par := 4
  slots := 8
  body := (.cons (.ife (.or (.not (.isi (.var 2) .tuple)) (.or (.cmp .eq (.var 2) (.tup .nil)) (.not (.isi (.idx (.var 2) (.con (.int 0))) .str)))) (.cons (.ret (.con .non))
  .nil) .nil)
  (.cons (.ife (.cmp .notIn (.idx (.var 2) (.con (.int 0))) (.tup (.cons (.con (.str "either")) (.cons (.con (.str "loop")) (.cons (.con (.str "walk")) .nil))))) (.cons (.ret (.ite (.call 10 (.cons (.var 0) (.cons (.var 1) (.cons (.var 2) .nil)))) (.tup (.cons (.con (.int 1)) (.cons (.con (.int 1)) .nil))) (.con .non)))
  .nil) .nil)
  (.cons (.ife (.or (.and (.cmp .eq (.idx (.var 2) (.con (.int 0))) (.con (.str "either"))) (.not (.chn .le .le (.con (.int 3)) (.blt .len (.cons (.var 2) .nil)) (.con (.int 5))))) (.and (.cmp .eq (.idx (.var 2) (.con (.int 0))) (.con (.str "loop"))) (.cmp .ne (.blt .len (.cons (.var 2) .nil)) (.con (.int 2))))) (.cons (.ret (.con .non))
  .nil) .nil)
  (.cons (.ife (.cmp .eq (.idx (.var 2) (.con (.int 0))) (.con (.str "walk"))) (.cons (.set (.name 4) (.ite (.cmp .eq (.blt .len (.cons (.var 2) .nil)) (.con (.int 3))) (.call 5 (.cons (.var 1) (.cons (.idx (.var 2) (.con (.int 1))) .nil))) (.con .non)))
  (.cons (.ife (.or (.cmp .isN (.var 4) (.con .non)) (.not (.idx (.var 4) (.con (.int 3))))) (.cons (.ret (.con .non))
  .nil) .nil)
  .nil)) .nil)
  (.cons (.set (.name 5) (.tup (.cons (.blt .int (.cons (.cmp .eq (.idx (.var 2) (.con (.int 0))) (.con (.str "walk"))) .nil)) (.cons (.con (.int 1)) .nil))))
  (.cons (.for [6] (.val (.call 11 (.cons (.var 2) .nil))) (.cons (.set (.name 7) (.call 13 (.cons (.var 0) (.cons (.var 1) (.cons (.var 6) (.cons (.bin .add (.var 3) (.con (.int 1))) .nil))))))
  (.cons (.ife (.cmp .isN (.var 7) (.con .non)) (.cons (.ret (.con .non))
  .nil) .nil)
  (.cons (.set (.name 5) (.tup (.cons (.bin .add (.idx (.var 5) (.con (.int 0))) (.idx (.var 7) (.con (.int 0)))) (.cons (.bin .add (.idx (.var 5) (.con (.int 1))) (.idx (.var 7) (.con (.int 1)))) .nil))))
  .nil))))
  (.cons (.ret (.var 5))
  .nil)))))))
def n_measured_item : List Str := ["tables", "views", "item", "deep", "view", "found", "part", "more"]
/-- measured -/
def i_measured : Def where
  par := 4
  slots := 7
  body := (.cons (.ife (.or (.not (.isi (.var 2) .tuple)) (.cmp .gt (.var 3) (.glo 8))) (.cons (.ret (.con .non))
  .nil) .nil)
  (.cons (.set (.name 4) (.tup (.cons (.con (.int 0)) (.cons (.con (.int 0)) .nil))))
  (.cons (.for [5] (.val (.var 2)) (.cons (.set (.name 6) (.call 12 (.cons (.var 0) (.cons (.var 1) (.cons (.var 5) (.cons (.var 3) .nil))))))
  (.cons (.ife (.cmp .isN (.var 6) (.con .non)) (.cons (.ret (.con .non))
  .nil) .nil)
  (.cons (.set (.name 4) (.tup (.cons (.bin .add (.idx (.var 4) (.con (.int 0))) (.idx (.var 6) (.con (.int 0)))) (.cons (.bin .add (.idx (.var 4) (.con (.int 1))) (.idx (.var 6) (.con (.int 1)))) .nil))))
  .nil))))
  (.cons (.ret (.var 4))
  .nil))))
def n_measured : List Str := ["tables", "views", "body", "deep", "found", "item", "more"]
/-- is_program -/
def i_is_program : Def where
  par := 1
  slots := 2
  body := (.cons (.ife (.or (.not (.isi (.var 0) .tuple)) (.or (.cmp .ne (.blt .len (.cons (.var 0) .nil)) (.con (.int 3))) (.not (.call 4 (.cons (.idx (.var 0) (.con (.int 0))) (.cons (.idx (.var 0) (.con (.int 1))) .nil)))))) (.cons (.ret (.con (.bl false)))
  .nil) .nil)
  (.cons (.set (.name 1) (.call 13 (.cons (.idx (.var 0) (.con (.int 0))) (.cons (.idx (.var 0) (.con (.int 1))) (.cons (.idx (.var 0) (.con (.int 2))) (.cons (.con (.int 1)) .nil))))))
  (.cons (.ret (.and (.cmp .notN (.var 1) (.con .non)) (.and (.cmp .le (.idx (.var 1) (.con (.int 0))) (.glo 6)) (.cmp .le (.idx (.var 1) (.con (.int 1))) (.glo 7)))))
  .nil)))
def n_is_program : List Str := ["value", "found"]
/-- need_program -/
def i_need_program : Def where
  par := 1
  slots := 1
  body := (.cons (.ife (.not (.call 14 (.cons (.var 0) .nil))) (.cons (.rse 1)
  .nil) .nil)
  .nil)
def n_need_program : List Str := ["program"]
/-- steps_in -/
def i_steps_in : Def where
  par := 1
  slots := 4
  body := (.cons (.set (.name 1) (.lst .nil))
  (.cons (.for [2] (.val (.var 0)) (.cons (.ife (.cmp .eq (.idx (.var 2) (.con (.int 0))) (.con (.str "walk"))) (.cons (.set (.name 1) (.bin .add (.var 1) (.lst (.cons (.slc (.var 2) .non (.som (.con (.int 2)))) .nil))))
  .nil) (.cons (.ife (.cmp .notIn (.idx (.var 2) (.con (.int 0))) (.tup (.cons (.con (.str "either")) (.cons (.con (.str "loop")) .nil)))) (.cons (.set (.name 1) (.bin .add (.var 1) (.lst (.cons (.var 2) .nil))))
  .nil) .nil)
  .nil))
  (.cons (.for [3] (.val (.call 11 (.cons (.var 2) .nil))) (.cons (.set (.name 1) (.bin .add (.var 1) (.call 16 (.cons (.var 3) .nil))))
  .nil))
  .nil)))
  (.cons (.ret (.var 1))
  .nil)))
def n_steps_in : List Str := ["body", "found", "item", "part"]
/-- steps -/
def i_steps : Def where
  par := 1
  slots := 1
  body := (.cons (.exp (.call 15 (.cons (.var 0) .nil)))
  (.cons (.ret (.call 16 (.cons (.idx (.var 0) (.con (.int 2))) .nil)))
  .nil))
def n_steps : List Str := ["program"]
/-- _law_deck -/
def i__law_deck : Def where
  par := 2
  slots := 2
  body := (.cons (.ife (.cmp .ge (.var 0) (.bin .pow (.con (.int 10)) (.con (.int 18)))) (.cons (.ret (.cel (.cons (.bin .sub (.var 0) (.bin .pow (.con (.int 10)) (.con (.int 18)))) (.cons (.bin .mod (.blt .int (.cons (.var 0) .nil)) (.con (.int 2147483579))) (.cons (.var 1) .nil)))))
  .nil) .nil)
  (.cons (.ret (.cel (.cons (.con (.int 0)) (.cons (.bin .mod (.blt .int (.cons (.var 0) .nil)) (.con (.int 2147483579))) (.cons (.var 1) .nil)))))
  .nil))
def n__law_deck : List Str := ["cell", "turn"]
/-- _law_pick -/
def i__law_pick : Def where
  par := 2
  slots := 4
  body := (.cons (.ife (.cmp .gt (.idx (.var 0) (.con (.int 0))) (.con (.int 1))) (.cons (.set (.name 2) (.bin .mod (.blt .int (.cons (.idx (.var 0) (.con (.int 0))) .nil)) (.var 1)))
  (.cons (.set (.item (.var 0) (.con (.int 0))) (.bin .fdiv (.idx (.var 0) (.con (.int 0))) (.var 1)))
  (.cons (.ret (.var 2))
  .nil))) .nil)
  (.cons (.set (.item (.var 0) (.con (.int 2))) (.bin .add (.idx (.var 0) (.con (.int 2))) (.con (.int 1))))
  (.cons (.set (.name 3) (.bin .mod (.blt .int (.cons (.bin .pow (.blt .int (.cons (.bin .add (.idx (.var 0) (.con (.int 1))) (.bin .mul (.con (.int 15485867)) (.idx (.var 0) (.con (.int 2))))) .nil)) (.con (.int 5))) .nil)) (.con (.int 2147483647))))
  (.cons (.set (.name 2) (.bin .fdiv (.bin .mod (.blt .int (.cons (.bin .pow (.blt .int (.cons (.bin .add (.var 3) (.bin .mul (.con (.int 7919)) (.idx (.var 0) (.con (.int 2))))) .nil)) (.con (.int 3))) .nil)) (.con (.int 2147483629))) (.con (.int 32))))
  (.cons (.ret (.bin .mod (.blt .int (.cons (.var 2) .nil)) (.var 1)))
  .nil)))))
def n__law_pick : List Str := ["deck", "limit", "got", "number"]
/-- _law_one -/
def i__law_one : Def where
  par := 2
  slots := 2
  body := (.cons (.ret (.idx (.var 1) (.call 19 (.cons (.var 0) (.cons (.blt .len (.cons (.var 1) .nil)) .nil)))))
  .nil)
def n__law_one : List Str := ["deck", "items"]
/-- _law_head -/
def i__law_head : Def where
  par := 1
  slots := 9
  body := (.cons (.set (.name 1) (.slc (.lst (.cons (.con (.str "t")) (.cons (.con (.str "a")) (.cons (.con (.str "boxes")) (.cons (.con (.str "tt")) .nil))))) (.som (.call 19 (.cons (.var 0) (.cons (.con (.int 2)) .nil)))) .non))
  (.cons (.set (.name 2) (.blt .tuple (.cons (.blt .sorted (.cons (.slc (.var 1) .non (.som (.bin .add (.con (.int 1)) (.call 19 (.cons (.var 0) (.cons (.con (.int 3)) .nil)))))) .nil)) .nil)))
  (.cons (.par true [3, 4] (.cons (.cel (.cons (.con (.str "k")) (.cons (.con (.str "v")) (.cons (.con (.str "w")) (.cons (.con (.str "inbox")) (.cons (.con (.str "xs")) (.cons (.con (.str "u")) .nil))))))) (.cons (.cel .nil) .nil)))
  (.cons (.for [5] (.rng (.bin .add (.con (.int 1)) (.call 19 (.cons (.var 0) (.cons (.con (.int 4)) .nil))))) (.cons (.set (.name 6) (.pop (.var 3) (.call 19 (.cons (.var 0) (.cons (.blt .len (.cons (.var 3) .nil)) .nil)))))
  (.cons (.set (.name 7) (.call 20 (.cons (.var 0) (.cons (.lst (.cons (.var 2) (.cons (.slc (.var 2) .non (.som (.con (.int 1)))) (.cons (.slc (.var 2) (.som (.neg (.con (.int 1)))) .non) (.cons (.slc (.var 2) .non (.som (.con (.int 2)))) .nil))))) .nil))))
  (.cons (.set (.name 8) (.call 20 (.cons (.var 0) (.cons (.lst (.cons (.con (.str "rows")) (.cons (.con (.str "rows")) (.cons (.con (.str "keys")) (.cons (.con (.str "keys")) (.cons (.con (.str "values")) .nil)))))) .nil))))
  (.cons (.exp (.app (.var 4) (.tup (.cons (.var 6) (.cons (.var 8) (.cons (.var 7) (.cons (.cmp .eq (.call 19 (.cons (.var 0) (.cons (.con (.int 2)) .nil))) (.con (.int 0))) .nil)))))))
  .nil)))))
  (.cons (.exp (.app (.var 4) (.tup (.cons (.con (.str "zz")) (.cons (.con (.str "rows")) (.cons (.slc (.var 2) .non (.som (.con (.int 1)))) (.cons (.con (.bl true)) .nil)))))))
  (.cons (.ret (.tup (.cons (.var 2) (.cons (.blt .tuple (.cons (.blt .sorted (.cons (.var 4) .nil)) .nil)) .nil))))
  .nil))))))
def n__law_head : List Str := ["deck", "pool", "tables", "names", "found", "turn", "name", "some", "kind"]
/-- _law_list -/
def i__law_list : Def where
  par := 2
  slots := 4
  body := (.cons (.set (.name 2) (.lc false (.var 3) [3] (.val (.idx (.var 0) (.con (.int 1)))) (.som (.and (.isi (.var 1) .str) (.cmp .eq (.idx (.var 3) (.con (.int 0))) (.var 1))))))
  (.cons (.ret (.ite (.cmp .ne (.var 2) (.lst .nil)) (.idx (.var 2) (.con (.int 0))) (.con .non)))
  .nil))
def n__law_list : List Str := ["head", "name", "found", "row"]
/-- _law_source -/
def i__law_source : Def where
  par := 2
  slots := 3
  body := (.cons (.ife (.or (.not (.isi (.var 1) .tuple)) (.or (.cmp .ne (.blt .len (.cons (.var 1) .nil)) (.con (.int 2))) (.not (.isi (.idx (.var 1) (.con (.int 1))) .str)))) (.cons (.ret (.con .non))
  .nil) .nil)
  (.cons (.ife (.cmp .eq (.idx (.var 1) (.con (.int 0))) (.con (.str "table"))) (.cons (.ret (.ite (.cmp .in_ (.idx (.var 1) (.con (.int 1))) (.idx (.var 0) (.con (.int 0)))) (.tup (.cons (.con (.str "rows")) (.cons (.tup (.cons (.idx (.var 1) (.con (.int 1))) .nil)) (.cons (.con (.bl true)) .nil)))) (.con .non)))
  .nil) .nil)
  (.cons (.set (.name 2) (.call 22 (.cons (.var 0) (.cons (.idx (.var 1) (.con (.int 1))) .nil))))
  (.cons (.ret (.ite (.and (.cmp .eq (.idx (.var 1) (.con (.int 0))) (.con (.str "of"))) (.cmp .notN (.var 2) (.con .non))) (.slc (.var 2) (.som (.con (.int 1))) .non) (.con .non)))
  .nil))))
def n__law_source : List Str := ["head", "source", "row"]
/-- _law_with -/
def i__law_with : Def where
  par := 3
  slots := 10
  body := (.cons (.set (.names [3, 4, 5]) (.var 1))
  (.cons (.ife (.or (.not (.isi (.var 2) .tuple)) (.or (.not (.chn .le .le (.con (.int 1)) (.blt .len (.cons (.var 2) .nil)) (.con (.int 2)))) (.not (.isi (.idx (.var 2) (.con (.int 0))) .str)))) (.cons (.ret (.con .non))
  .nil) .nil)
  (.cons (.ife (.and (.cmp .eq (.blt .len (.cons (.var 2) .nil)) (.con (.int 1))) (.cmp .in_ (.idx (.var 2) (.con (.int 0))) (.tup (.cons (.con (.str "keys")) (.cons (.con (.str "values")) .nil))))) (.cons (.ret (.ite (.cmp .eq (.var 3) (.con (.str "rows"))) (.tup (.cons (.idx (.var 2) (.con (.int 0))) (.cons (.var 4) (.cons (.var 5) .nil)))) (.con .non)))
  .nil) .nil)
  (.cons (.ife (.cmp .eq (.blt .len (.cons (.var 2) .nil)) (.con (.int 1))) (.cons (.set (.name 6) (.dic ["bykey", "byvalue", "back"] (.cons (.con (.str "values")) (.cons (.con (.str "keys")) (.cons (.con (.str "")) .nil)))))
  (.cons (.ret (.ite (.and (.cmp .in_ (.idx (.var 2) (.con (.int 0))) (.var 6)) (.cmp .ne (.var 3) (.idx (.var 6) (.idx (.var 2) (.con (.int 0)))))) (.var 1) (.con .non)))
  .nil)) .nil)
  (.cons (.ife (.cmp .in_ (.idx (.var 2) (.con (.int 0))) (.tup (.cons (.con (.str "first")) (.cons (.con (.str "last")) .nil)))) (.cons (.set (.name 7) (.and (.isi (.idx (.var 2) (.con (.int 1))) .int) (.and (.not (.isi (.idx (.var 2) (.con (.int 1))) .bool)) (.chn .le .le (.con (.int 1)) (.idx (.var 2) (.con (.int 1))) (.con (.int 9))))))
  (.cons (.ret (.ite (.var 7) (.tup (.cons (.var 3) (.cons (.var 4) (.cons (.con (.bl false)) .nil)))) (.con .non)))
  .nil)) .nil)
  (.cons (.ife (.or (.and (.cmp .eq (.idx (.var 2) (.con (.int 0))) (.con (.str "keep"))) (.cmp .ne (.var 3) (.con (.str "values")))) (.and (.cmp .eq (.idx (.var 2) (.con (.int 0))) (.con (.str "pass"))) (.cmp .ne (.var 3) (.con (.str "keys"))))) (.cons (.ret (.ite (.call 25 (.cons (.idx (.var 2) (.con (.int 1))) .nil)) (.var 1) (.con .non)))
  .nil) .nil)
  (.cons (.set (.name 8) (.call 22 (.cons (.var 0) (.cons (.idx (.var 2) (.con (.int 1))) .nil))))
  (.cons (.ife (.or (.cmp .notIn (.idx (.var 2) (.con (.int 0))) (.tup (.cons (.con (.str "in")) (.cons (.con (.str "out")) .nil)))) (.or (.cmp .eq (.var 3) (.con (.str "values"))) (.or (.cmp .isN (.var 8) (.con .non)) (.or (.cmp .eq (.idx (.var 8) (.con (.int 1))) (.con (.str "values"))) (.not (.idx (.var 8) (.con (.int 3)))))))) (.cons (.ret (.con .non))
  .nil) .nil)
  (.cons (.ife (.cmp .ne (.lc false (.var 9) [9] (.val (.idx (.var 8) (.con (.int 2)))) (.som (.cmp .in_ (.var 9) (.var 4)))) (.lst .nil)) (.cons (.ret (.con .non))
  .nil) .nil)
  (.cons (.ret (.tup (.cons (.var 3) (.cons (.blt .tuple (.cons (.blt .sorted (.cons (.bin .add (.var 4) (.idx (.var 8) (.con (.int 2)))) .nil)) .nil)) (.cons (.var 5) .nil)))))
  .nil))))))))))
def n__law_with : List Str := ["head", "state", "op", "kind", "names", "is_long", "bad", "fine", "row", "name"]
/-- _law_is_label -/
def i__law_is_label : Def where
  par := 1
  slots := 2
  body := (.cons (.ife (.or (.not (.isi (.var 0) .str)) (.not (.chn .le .le (.con (.int 1)) (.blt .len (.cons (.var 0) .nil)) (.con (.int 8))))) (.cons (.ret (.con (.bl false)))
  .nil) .nil)
  (.cons (.ret (.cmp .eq (.lc false (.var 1) [1] (.val (.var 0)) (.som (.cmp .notIn (.var 1) (.con (.str "abcdefghijklmnopqrstuvwxyz"))))) (.lst .nil)))
  .nil))
def n__law_is_label : List Str := ["value", "sign"]
/-- _law_shape -/
def i__law_shape : Def where
  par := 3
  slots := 5
  body := (.cons (.set (.name 3) (.call 23 (.cons (.var 0) (.cons (.var 1) .nil))))
  (.cons (.for [4] (.val (.var 2)) (.cons (.ife (.cmp .notN (.var 3) (.con .non)) (.cons (.set (.name 3) (.call 24 (.cons (.var 0) (.cons (.var 3) (.cons (.var 4) .nil)))))
  .nil) .nil)
  .nil))
  (.cons (.ret (.var 3))
  .nil)))
def n__law_shape : List Str := ["head", "source", "ops", "state", "op"]
/-- _law_op -/
def i__law_op : Def where
  par := 3
  slots := 9
  body := (.cons (.set (.name 3) (.call 20 (.cons (.var 0) (.cons (.lst (.cons (.con (.str "keys")) (.cons (.con (.str "values")) (.cons (.con (.str "bykey")) (.cons (.con (.str "byvalue")) (.cons (.con (.str "back")) (.cons (.con (.str "first")) (.cons (.con (.str "last")) (.cons (.con (.str "keep")) (.cons (.con (.str "pass")) (.cons (.con (.str "in")) (.cons (.con (.str "out")) .nil)))))))))))) .nil))))
  (.cons (.par true [4, 5] (.cons (.call 20 (.cons (.var 0) (.cons (.lst (.cons (.con (.int 1)) (.cons (.con (.int 2)) (.cons (.con (.int 3)) (.cons (.bin .add (.con (.int 1)) (.call 19 (.cons (.var 0) (.cons (.con (.int 9)) .nil)))) .nil))))) .nil))) (.cons (.call 20 (.cons (.var 0) (.cons (.lst (.cons (.con (.str "even")) (.cons (.con (.str "x")) .nil))) .nil))) .nil)))
  (.cons (.par true [6, 7] (.cons (.idx (.call 20 (.cons (.var 0) (.cons (.idx (.var 1) (.con (.int 1))) .nil))) (.con (.int 0))) (.cons (.dic ["first", "last", "keep", "pass"] (.cons (.tup (.cons (.var 4) .nil)) (.cons (.tup (.cons (.var 4) .nil)) (.cons (.tup (.cons (.var 5) .nil)) (.cons (.tup (.cons (.var 5) .nil)) .nil))))) .nil)))
  (.cons (.set (.name 8) (.bin .add (.tup (.cons (.var 3) .nil)) (.get (.var 7) (.var 3) (.ite (.cmp .in_ (.var 3) (.tup (.cons (.con (.str "in")) (.cons (.con (.str "out")) .nil)))) (.tup (.cons (.var 6) .nil)) (.tup .nil)))))
  (.cons (.ret (.ite (.cmp .notN (.call 24 (.cons (.var 1) (.cons (.var 2) (.cons (.var 8) .nil)))) (.con .non)) (.var 8) (.tup (.cons (.con (.str "back")) .nil))))
  .nil)))))
def n__law_op : List Str := ["deck", "head", "state", "word", "number", "test", "other", "more", "op"]
/-- _law_view -/
def i__law_view : Def where
  par := 2
  slots := 11
  body := (.cons (.set (.name 2) (.call 20 (.cons (.var 0) (.cons (.lst (.cons (.con (.str "live")) (.cons (.con (.str "live")) (.cons (.con (.str "live")) (.cons (.con (.str "once")) .nil))))) .nil))))
  (.cons (.for [3] (.rng (.con (.int 4))) (.cons (.set (.name 4) (.call 20 (.cons (.var 0) (.cons (.lst (.cons (.tup (.cons (.con (.str "table")) (.cons (.call 20 (.cons (.var 0) (.cons (.idx (.var 1) (.con (.int 0))) .nil))) .nil))) (.cons (.tup (.cons (.con (.str "of")) (.cons (.idx (.call 20 (.cons (.var 0) (.cons (.idx (.var 1) (.con (.int 1))) .nil))) (.con (.int 0))) .nil))) .nil))) .nil))))
  (.cons (.par false [5, 6] (.cons (.call 23 (.cons (.var 1) (.cons (.var 4) .nil))) (.cons (.tup .nil) .nil)))
  (.cons (.for [7] (.rng (.call 20 (.cons (.var 0) (.cons (.lst (.cons (.con (.int 0)) (.cons (.con (.int 1)) (.cons (.con (.int 1)) (.cons (.con (.int 2)) (.cons (.con (.int 3)) (.cons (.con (.int 5)) .nil))))))) .nil)))) (.cons (.set (.name 8) (.call 27 (.cons (.var 0) (.cons (.var 1) (.cons (.var 5) .nil)))))
  (.cons (.par false [5, 6] (.cons (.call 24 (.cons (.var 1) (.cons (.var 5) (.cons (.var 8) .nil)))) (.cons (.bin .add (.var 6) (.tup (.cons (.var 8) .nil))) .nil)))
  .nil)))
  (.cons (.set (.name 9) (.lc false (.idx (.var 10) (.con (.int 0))) [10] (.val (.idx (.var 1) (.con (.int 1)))) (.som (.and (.cmp .eq (.slc (.var 10) (.som (.con (.int 1))) (.som (.con (.int 3)))) (.slc (.var 5) .non (.som (.con (.int 2))))) (.or (.idx (.var 5) (.con (.int 2))) (.not (.idx (.var 10) (.con (.int 3)))))))))
  (.cons (.ife (.cmp .ne (.var 9) (.lst .nil)) (.cons (.ret (.tup (.cons (.con (.str "view")) (.cons (.call 20 (.cons (.var 0) (.cons (.var 9) .nil))) (.cons (.var 2) (.cons (.var 4) (.cons (.var 6) .nil)))))))
  .nil) .nil)
  .nil))))))
  (.cons (.ret (.tup (.cons (.con (.str "view")) (.cons (.con (.str "zz")) (.cons (.var 2) (.cons (.tup (.cons (.con (.str "table")) (.cons (.idx (.idx (.var 1) (.con (.int 0))) (.con (.int 0))) .nil))) (.cons (.tup .nil) .nil)))))))
  .nil)))
def n__law_view : List Str := ["deck", "head", "how", "turn", "source", "state", "ops", "more", "op", "fits", "row"]
/-- _law_body -/
def i__law_body : Def where
  par := 4
  slots := 11
  body := (.cons (.par true [4, 5] (.cons (.cel .nil) (.cons (.lc false (.idx (.var 6) (.con (.int 0))) [6] (.val (.idx (.var 1) (.con (.int 1)))) (.som (.idx (.var 6) (.con (.int 3))))) .nil)))
  (.cons (.for [7] (.rng (.bin .add (.con (.int 1)) (.call 19 (.cons (.var 0) (.cons (.con (.int 5)) .nil))))) (.cons (.set (.name 8) (.call 19 (.cons (.var 0) (.cons (.con (.int 20)) .nil))))
  (.cons (.set (.item (.var 3) (.con (.int 0))) (.bin .sub (.idx (.var 3) (.con (.int 0))) (.con (.int 1))))
  (.cons (.ife (.cmp .lt (.idx (.var 3) (.con (.int 0))) (.con (.int 0))) (.cons (.ret (.blt .tuple (.cons (.var 4) .nil)))
  .nil) .nil)
  (.cons (.ife (.cmp .lt (.var 8) (.con (.int 7))) (.cons (.exp (.app (.var 4) (.call 28 (.cons (.var 0) (.cons (.var 1) .nil)))))
  .nil) (.cons (.ife (.cmp .lt (.var 8) (.con (.int 11))) (.cons (.exp (.app (.var 4) (.tup (.cons (.call 20 (.cons (.var 0) (.cons (.lst (.cons (.con (.str "add")) (.cons (.con (.str "drop")) (.cons (.con (.str "set")) (.cons (.con (.str "move")) .nil))))) .nil))) (.cons (.call 20 (.cons (.var 0) (.cons (.idx (.var 1) (.con (.int 0))) .nil))) .nil)))))
  .nil) (.cons (.ife (.or (.cmp .lt (.var 8) (.con (.int 14))) (.cmp .eq (.var 2) (.con (.int 0)))) (.cons (.exp (.app (.var 4) (.tup (.cons (.con (.str "tell")) (.cons (.idx (.call 20 (.cons (.var 0) (.cons (.idx (.var 1) (.con (.int 1))) .nil))) (.con (.int 0))) .nil)))))
  .nil) (.cons (.ife (.cmp .lt (.var 8) (.con (.int 16))) (.cons (.exp (.app (.var 4) (.tup (.cons (.con (.str "walk")) (.cons (.call 20 (.cons (.var 0) (.cons (.var 5) .nil))) (.cons (.call 29 (.cons (.var 0) (.cons (.var 1) (.cons (.bin .sub (.var 2) (.con (.int 1))) (.cons (.var 3) .nil))))) .nil))))))
  .nil) (.cons (.ife (.cmp .lt (.var 8) (.con (.int 18))) (.cons (.exp (.app (.var 4) (.tup (.cons (.con (.str "loop")) (.cons (.call 29 (.cons (.var 0) (.cons (.var 1) (.cons (.bin .sub (.var 2) (.con (.int 1))) (.cons (.var 3) .nil))))) .nil)))))
  .nil) (.cons (.set (.name 9) (.lc true (.call 29 (.cons (.var 0) (.cons (.var 1) (.cons (.bin .sub (.var 2) (.con (.int 1))) (.cons (.var 3) .nil))))) [10] (.rng (.bin .add (.con (.int 2)) (.call 19 (.cons (.var 0) (.cons (.con (.int 2)) .nil))))) .non))
  (.cons (.set (.item (.var 9) (.con (.int 0))) (.ite (.cmp .eq (.call 19 (.cons (.var 0) (.cons (.con (.int 2)) .nil))) (.con (.int 0))) (.idx (.var 9) (.con (.int 0))) (.tup .nil)))
  (.cons (.exp (.app (.var 4) (.blt .tuple (.cons (.bin .add (.lst (.cons (.con (.str "either")) .nil)) (.var 9)) .nil))))
  .nil))))
  .nil))
  .nil))
  .nil))
  .nil))
  .nil)))))
  (.cons (.ret (.blt .tuple (.cons (.var 4) .nil)))
  .nil)))
def n__law_body : List Str := ["deck", "head", "deep", "left", "items", "walks", "row", "turn", "kind", "some", "k"]
/-- _law_program -/
def i__law_program : Def where
  par := 2
  slots := 5
  body := (.cons (.par true [2, 3, 4] (.cons (.call 21 (.cons (.var 0) .nil)) (.cons (.cel (.cons (.var 1) .nil)) (.cons (.tup .nil) .nil))))
  (.cons (.whl (.and (.cmp .lt (.blt .len (.cons (.var 4) .nil)) (.con (.int 3))) (.cmp .gt (.idx (.var 3) (.con (.int 0))) (.con (.int 0)))) (.cons (.set (.name 4) (.bin .add (.var 4) (.call 29 (.cons (.var 0) (.cons (.var 2) (.cons (.call 19 (.cons (.var 0) (.cons (.con (.int 4)) .nil))) (.cons (.var 3) .nil)))))))
  .nil))
  (.cons (.ret (.bin .add (.var 2) (.tup (.cons (.var 4) .nil))))
  .nil)))
def n__law_program : List Str := ["deck", "limit", "head", "left", "body"]
/-- _law_inner -/
def i__law_inner : Def where
  par := 1
  slots := 1
  body := (.cons (.ife (.cmp .eq (.idx (.var 0) (.con (.int 0))) (.con (.str "walk"))) (.cons (.ret (.slc (.var 0) (.som (.con (.int 2))) .non))
  .nil) .nil)
  (.cons (.ret (.ite (.cmp .in_ (.idx (.var 0) (.con (.int 0))) (.tup (.cons (.con (.str "either")) (.cons (.con (.str "loop")) .nil)))) (.slc (.var 0) (.som (.con (.int 1))) .non) (.tup .nil)))
  .nil))
def n__law_inner : List Str := ["item"]
/-- _law_rows -/
def i__law_rows : Def where
  par := 2
  slots := 6
  body := (.cons (.set (.name 2) (.cel .nil))
  (.cons (.for [3] (.val (.var 0)) (.cons (.set (.name 4) (.idx (.var 1) (.con (.int 0))))
  (.cons (.ife (.cmp .notIn (.idx (.var 3) (.con (.int 0))) (.tup (.cons (.con (.str "either")) (.cons (.con (.str "loop")) .nil)))) (.cons (.set (.item (.var 1) (.con (.int 0))) (.bin .add (.idx (.var 1) (.con (.int 0))) (.con (.int 1))))
  .nil) .nil)
  (.cons (.exp (.app (.var 2) (.tup (.cons (.idx (.var 3) (.con (.int 0))) (.cons (.var 4) (.cons (.var 3) (.cons (.lc false (.call 32 (.cons (.var 5) (.cons (.var 1) .nil))) [5] (.val (.call 31 (.cons (.var 3) .nil))) .non) .nil)))))))
  .nil))))
  (.cons (.ret (.frz (.var 2)))
  .nil)))
def n__law_rows : List Str := ["body", "at", "rows", "item", "number", "part"]
/-- _law_steps -/
def i__law_steps : Def where
  par := 1
  slots := 7
  body := (.cons (.set (.name 1) (.cel .nil))
  (.cons (.for [2, 3, 4, 5] (.val (.var 0)) (.cons (.ife (.cmp .notIn (.var 2) (.tup (.cons (.con (.str "either")) (.cons (.con (.str "loop")) .nil)))) (.cons (.exp (.app (.var 1) (.ite (.cmp .eq (.var 2) (.con (.str "walk"))) (.slc (.var 4) .non (.som (.con (.int 2)))) (.var 4))))
  .nil) .nil)
  (.cons (.for [6] (.val (.var 5)) (.cons (.set (.name 1) (.cad (.var 1) (.call 33 (.cons (.var 6) .nil))))
  .nil))
  .nil)))
  (.cons (.ret (.frz (.var 1)))
  .nil)))
def n__law_steps : List Str := ["rows", "found", "kind", "number", "item", "parts", "part"]
/-- _law_labels -/
def i__law_labels : Def where
  par := 3
  slots := 5
  body := (.cons (.ife (.or (.not (.isi (.var 0) .tuple)) (.not (.chn .le .le (.var 1) (.blt .len (.cons (.var 0) .nil)) (.var 2)))) (.cons (.ret (.con (.bl false)))
  .nil) .nil)
  (.cons (.ife (.cmp .ne (.lc false (.var 3) [3] (.val (.var 0)) (.som (.not (.call 25 (.cons (.var 3) .nil))))) (.lst .nil)) (.cons (.ret (.con (.bl false)))
  .nil) .nil)
  (.cons (.ret (.cmp .eq (.lc false (.var 4) [4] (.rng2 (.con (.int 1)) (.blt .len (.cons (.var 0) .nil))) (.som (.cmp .ge (.idx (.var 0) (.bin .sub (.var 4) (.con (.int 1)))) (.idx (.var 0) (.var 4))))) (.lst .nil)))
  .nil)))
def n__law_labels : List Str := ["value", "least", "most", "name", "at"]
/-- _law_is_head -/
def i__law_is_head : Def where
  par := 2
  slots := 5
  body := (.cons (.ife (.or (.not (.call 34 (.cons (.var 0) (.cons (.con (.int 1)) (.cons (.con (.int 3)) .nil))))) (.or (.not (.isi (.var 1) .tuple)) (.not (.chn .le .le (.con (.int 1)) (.blt .len (.cons (.var 1) .nil)) (.con (.int 5)))))) (.cons (.ret (.con (.bl false)))
  .nil) .nil)
  (.cons (.for [2] (.val (.var 1)) (.cons (.ife (.or (.not (.isi (.var 2) .tuple)) (.or (.cmp .ne (.blt .len (.cons (.var 2) .nil)) (.con (.int 4))) (.or (.not (.call 25 (.cons (.idx (.var 2) (.con (.int 0))) .nil))) (.cmp .in_ (.idx (.var 2) (.con (.int 0))) (.var 0))))) (.cons (.ret (.con (.bl false)))
  .nil) .nil)
  (.cons (.ife (.or (.not (.isi (.idx (.var 2) (.con (.int 1))) .str)) (.or (.cmp .notIn (.idx (.var 2) (.con (.int 1))) (.tup (.cons (.con (.str "rows")) (.cons (.con (.str "keys")) (.cons (.con (.str "values")) .nil))))) (.not (.isi (.idx (.var 2) (.con (.int 3))) .bool)))) (.cons (.ret (.con (.bl false)))
  .nil) .nil)
  (.cons (.ife (.or (.not (.call 34 (.cons (.idx (.var 2) (.con (.int 2))) (.cons (.con (.int 1)) (.cons (.con (.int 3)) .nil))))) (.cmp .ne (.lc false (.var 3) [3] (.val (.idx (.var 2) (.con (.int 2)))) (.som (.cmp .notIn (.var 3) (.var 0)))) (.lst .nil))) (.cons (.ret (.con (.bl false)))
  .nil) .nil)
  .nil))))
  (.cons (.ret (.cmp .eq (.lc false (.var 4) [4] (.rng2 (.con (.int 1)) (.blt .len (.cons (.var 1) .nil))) (.som (.cmp .ge (.idx (.idx (.var 1) (.bin .sub (.var 4) (.con (.int 1)))) (.con (.int 0))) (.idx (.idx (.var 1) (.var 4)) (.con (.int 0)))))) (.lst .nil)))
  .nil)))
def n__law_is_head : List Str := ["tables", "lists", "row", "name", "at"]
/-- _law_is_simple -/
def i__law_is_simple : Def where
  par := 2
  slots := 4
  body := (.cons (.ife (.cmp .eq (.idx (.var 1) (.con (.int 0))) (.con (.str "view"))) (.cons (.ife (.or (.cmp .ne (.blt .len (.cons (.var 1) .nil)) (.con (.int 5))) (.or (.not (.isi (.idx (.var 1) (.con (.int 2))) .str)) (.cmp .notIn (.idx (.var 1) (.con (.int 2))) (.tup (.cons (.con (.str "live")) (.cons (.con (.str "once")) .nil)))))) (.cons (.ret (.con (.bl false)))
  .nil) .nil)
  (.cons (.set (.name 2) (.call 22 (.cons (.var 0) (.cons (.idx (.var 1) (.con (.int 1))) .nil))))
  (.cons (.ife (.or (.cmp .isN (.var 2) (.con .non)) (.or (.not (.isi (.idx (.var 1) (.con (.int 4))) .tuple)) (.cmp .gt (.blt .len (.cons (.idx (.var 1) (.con (.int 4))) .nil)) (.con (.int 6))))) (.cons (.ret (.con (.bl false)))
  .nil) .nil)
  (.cons (.set (.name 3) (.call 26 (.cons (.var 0) (.cons (.idx (.var 1) (.con (.int 3))) (.cons (.idx (.var 1) (.con (.int 4))) .nil)))))
  (.cons (.ret (.and (.cmp .notN (.var 3) (.con .non)) (.and (.cmp .eq (.slc (.var 3) .non (.som (.con (.int 2)))) (.slc (.var 2) (.som (.con (.int 1))) (.som (.con (.int 3))))) (.or (.idx (.var 3) (.con (.int 2))) (.not (.idx (.var 2) (.con (.int 3))))))))
  .nil))))) .nil)
  (.cons (.ife (.or (.cmp .ne (.blt .len (.cons (.var 1) .nil)) (.con (.int 2))) (.not (.isi (.idx (.var 1) (.con (.int 1))) .str))) (.cons (.ret (.con (.bl false)))
  .nil) .nil)
  (.cons (.ife (.cmp .in_ (.idx (.var 1) (.con (.int 0))) (.tup (.cons (.con (.str "add")) (.cons (.con (.str "drop")) (.cons (.con (.str "set")) (.cons (.con (.str "move")) .nil)))))) (.cons (.ret (.cmp .in_ (.idx (.var 1) (.con (.int 1))) (.idx (.var 0) (.con (.int 0)))))
  .nil) .nil)
  (.cons (.ret (.and (.cmp .eq (.idx (.var 1) (.con (.int 0))) (.con (.str "tell"))) (.cmp .notN (.call 22 (.cons (.var 0) (.cons (.idx (.var 1) (.con (.int 1))) .nil))) (.con .non))))
  .nil))))
def n__law_is_simple : List Str := ["head", "item", "row", "state"]
/-- _law_size -/
def i__law_size : Def where
  par := 3
  slots := 10
  body := (.cons (.ife (.or (.not (.isi (.var 1) .tuple)) (.cmp .gt (.var 2) (.con (.int 8)))) (.cons (.ret (.con .non))
  .nil) .nil)
  (.cons (.par false [3, 4] (.cons (.con (.int 0)) (.cons (.con (.int 0)) .nil)))
  (.cons (.for [5] (.val (.var 1)) (.cons (.ife (.or (.not (.isi (.var 5) .tuple)) (.or (.cmp .eq (.var 5) (.tup .nil)) (.not (.isi (.idx (.var 5) (.con (.int 0))) .str)))) (.cons (.ret (.con .non))
  .nil) .nil)
  (.cons (.set (.name 6) (.tup .nil))
  (.cons (.ife (.cmp .in_ (.idx (.var 5) (.con (.int 0))) (.tup (.cons (.con (.str "either")) (.cons (.con (.str "loop")) (.cons (.con (.str "walk")) .nil))))) (.cons (.set (.name 6) (.ite (.cmp .eq (.idx (.var 5) (.con (.int 0))) (.con (.str "walk"))) (.slc (.var 5) (.som (.con (.int 2))) .non) (.slc (.var 5) (.som (.con (.int 1))) .non)))
  (.cons (.set (.name 7) (.ite (.and (.cmp .eq (.idx (.var 5) (.con (.int 0))) (.con (.str "walk"))) (.cmp .gt (.blt .len (.cons (.var 5) .nil)) (.con (.int 1)))) (.call 22 (.cons (.var 0) (.cons (.idx (.var 5) (.con (.int 1))) .nil))) (.con .non)))
  (.cons (.ife (.and (.cmp .eq (.idx (.var 5) (.con (.int 0))) (.con (.str "walk"))) (.or (.cmp .isN (.var 7) (.con .non)) (.not (.idx (.var 7) (.con (.int 3)))))) (.cons (.ret (.con .non))
  .nil) .nil)
  (.cons (.ife (.or (.cmp .lt (.blt .len (.cons (.var 6) .nil)) (.con (.int 1))) (.or (.cmp .gt (.blt .len (.cons (.var 6) .nil)) (.con (.int 4))) (.cmp .ne (.cmp .eq (.idx (.var 5) (.con (.int 0))) (.con (.str "either"))) (.cmp .gt (.blt .len (.cons (.var 6) .nil)) (.con (.int 1)))))) (.cons (.ret (.con .non))
  .nil) .nil)
  .nil)))) (.cons (.ife (.not (.call 36 (.cons (.var 0) (.cons (.var 5) .nil)))) (.cons (.ret (.con .non))
  .nil) .nil)
  .nil))
  (.cons (.par true [3, 4] (.cons (.bin .add (.var 3) (.blt .int (.cons (.cmp .notIn (.idx (.var 5) (.con (.int 0))) (.tup (.cons (.con (.str "either")) (.cons (.con (.str "loop")) .nil)))) .nil))) (.cons (.bin .add (.var 4) (.con (.int 1))) .nil)))
  (.cons (.for [8] (.val (.var 6)) (.cons (.set (.name 9) (.call 37 (.cons (.var 0) (.cons (.var 8) (.cons (.bin .add (.var 2) (.con (.int 1))) .nil)))))
  (.cons (.ife (.cmp .isN (.var 9) (.con .non)) (.cons (.ret (.con .non))
  .nil) .nil)
  (.cons (.par true [3, 4] (.cons (.bin .add (.var 3) (.idx (.var 9) (.con (.int 0)))) (.cons (.bin .add (.var 4) (.idx (.var 9) (.con (.int 1)))) .nil)))
  .nil))))
  .nil))))))
  (.cons (.ret (.tup (.cons (.var 3) (.cons (.var 4) .nil))))
  .nil))))
def n__law_size : List Str := ["head", "body", "deep", "many", "items", "item", "parts", "row", "part", "within"]
/-- _law_is_program -/
def i__law_is_program : Def where
  par := 1
  slots := 2
  body := (.cons (.ife (.or (.not (.isi (.var 0) .tuple)) (.or (.cmp .ne (.blt .len (.cons (.var 0) .nil)) (.con (.int 3))) (.not (.call 35 (.cons (.idx (.var 0) (.con (.int 0))) (.cons (.idx (.var 0) (.con (.int 1))) .nil)))))) (.cons (.ret (.con (.bl false)))
  .nil) .nil)
  (.cons (.set (.name 1) (.call 37 (.cons (.slc (.var 0) .non (.som (.con (.int 2)))) (.cons (.idx (.var 0) (.con (.int 2))) (.cons (.con (.int 1)) .nil)))))
  (.cons (.ret (.and (.cmp .notN (.var 1) (.con .non)) (.and (.cmp .le (.idx (.var 1) (.con (.int 0))) (.con (.int 40))) (.cmp .le (.idx (.var 1) (.con (.int 1))) (.con (.int 80))))))
  .nil)))
def n__law_is_program : List Str := ["value", "found"]
/-- _law_odd -/
def i__law_odd : Def where
  par := 1
  slots := 2
  body := (.cons (.set (.name 1) (.lst (.cons (.con .non) (.cons (.con (.bl true)) (.cons (.con (.bl false)) (.cons (.con (.int 0)) (.cons (.con (.int 1)) (.cons (.con (.int 9)) (.cons (.con (.int 10)) (.cons (.neg (.con (.int 1))) (.cons (.bin .pow (.con (.int 10)) (.con (.int 30))) (.cons (.con (.str "")) (.cons (.con (.str "t")) (.cons (.con (.str "a")) (.cons (.con (.str "k")) (.cons (.con (.str "v")) (.cons (.con (.str "zz")) (.cons (.con (.str "A")) (.cons (.con (.str "abcdefgh")) (.cons (.con (.str "abcdefghi")) .nil))))))))))))))))))))
  (.cons (.set (.name 1) (.bin .add (.var 1) (.lst (.cons (.con (.str "rows")) (.cons (.con (.str "keys")) (.cons (.con (.str "values")) (.cons (.con (.str "live")) (.cons (.con (.str "once")) (.cons (.con (.str "table")) (.cons (.con (.str "of")) (.cons (.con (.str "view")) (.cons (.con (.str "tell")) (.cons (.con (.str "walk")) (.cons (.con (.str "loop")) (.cons (.tup .nil) (.cons (.lst .nil) .nil))))))))))))))))
  (.cons (.set (.name 1) (.bin .add (.var 1) (.lst (.cons (.tup (.cons (.con (.str "keys")) .nil)) (.cons (.tup (.cons (.con (.str "back")) .nil)) (.cons (.tup (.cons (.con (.str "first")) (.cons (.con (.int 1)) .nil))) (.cons (.tup (.cons (.con (.str "in")) (.cons (.con (.str "zz")) .nil))) (.cons (.tup (.cons (.con (.str "tell")) (.cons (.con (.str "zz")) .nil))) (.cons (.tup (.cons (.con (.str "t")) .nil)) .nil)))))))))
  (.cons (.ret (.call 20 (.cons (.var 0) (.cons (.bin .add (.var 1) (.lst (.cons (.tup (.cons (.con (.str "loop")) (.cons (.tup .nil) .nil))) .nil))) .nil))))
  .nil))))
def n__law_odd : List Str := ["deck", "some"]
/-- _law_bent -/
def i__law_bent : Def where
  par := 2
  slots := 4
  body := (.cons (.ife (.or (.not (.isi (.var 1) .tuple)) (.or (.cmp .eq (.var 1) (.tup .nil)) (.cmp .eq (.call 19 (.cons (.var 0) (.cons (.con (.int 6)) .nil))) (.con (.int 0))))) (.cons (.ife (.and (.isi (.var 1) .int) (.cmp .eq (.call 19 (.cons (.var 0) (.cons (.con (.int 2)) .nil))) (.con (.int 0)))) (.cons (.ret (.bin .add (.var 1) (.call 20 (.cons (.var 0) (.cons (.lst (.cons (.con (.int 1)) (.cons (.neg (.con (.int 1))) (.cons (.con (.int 9)) .nil)))) .nil)))))
  .nil) .nil)
  (.cons (.ret (.call 39 (.cons (.var 0) .nil)))
  .nil)) .nil)
  (.cons (.par true [2, 3] (.cons (.call 19 (.cons (.var 0) (.cons (.blt .len (.cons (.var 1) .nil)) .nil))) (.cons (.call 19 (.cons (.var 0) (.cons (.con (.int 10)) .nil))) .nil)))
  (.cons (.ife (.cmp .eq (.var 3) (.con (.int 0))) (.cons (.ret (.bin .add (.slc (.var 1) .non (.som (.var 2))) (.slc (.var 1) (.som (.bin .add (.var 2) (.con (.int 1)))) .non)))
  .nil) .nil)
  (.cons (.ife (.cmp .eq (.var 3) (.con (.int 1))) (.cons (.ret (.bin .add (.slc (.var 1) .non (.som (.bin .add (.var 2) (.con (.int 1))))) (.slc (.var 1) (.som (.var 2)) .non)))
  .nil) .nil)
  (.cons (.ife (.cmp .eq (.var 3) (.con (.int 2))) (.cons (.ret (.bin .add (.bin .add (.slc (.var 1) .non (.som (.var 2))) (.tup (.cons (.call 39 (.cons (.var 0) .nil)) .nil))) (.slc (.var 1) (.som (.var 2)) .non)))
  .nil) .nil)
  (.cons (.ife (.cmp .eq (.var 3) (.con (.int 3))) (.cons (.ret (.blt .list (.cons (.var 1) .nil)))
  .nil) .nil)
  (.cons (.ife (.cmp .eq (.var 3) (.con (.int 4))) (.cons (.ret (.bin .add (.slc (.var 1) (.som (.var 2)) .non) (.slc (.var 1) .non (.som (.var 2)))))
  .nil) .nil)
  (.cons (.ret (.bin .add (.bin .add (.slc (.var 1) .non (.som (.var 2))) (.tup (.cons (.call 40 (.cons (.var 0) (.cons (.idx (.var 1) (.var 2)) .nil))) .nil))) (.slc (.var 1) (.som (.bin .add (.var 2) (.con (.int 1)))) .non)))
  .nil))))))))
def n__law_bent : List Str := ["deck", "value", "at", "way"]
/-- _law_told -/
def i__law_told : Def where
  par := 1
  slots := 2
  body := (.cons (.set (.name 1) (.call 14 (.cons (.var 0) .nil)))
  (.cons (.ret (.and (.isi (.var 1) .bool) (.cmp .eq (.var 1) (.call 38 (.cons (.var 0) .nil)))))
  .nil))
def n__law_told : List Str := ["value", "said"]
/-- law -/
def i_law : Def where
  par := 1
  slots := 14
  body := (.cons (.for [1] (.val (.slc (.bin .add (.lst (.cons (.con (.int 0)) .nil)) (.var 0)) .non (.som (.con (.int 6))))) (.cons (.set (.name 2) (.call 18 (.cons (.var 1) (.cons (.con (.int 3)) .nil))))
  (.cons (.set (.name 3) (.call 30 (.cons (.var 2) (.cons (.con (.int 14)) .nil))))
  (.cons (.ife (.or (.cmp .notT (.call 14 (.cons (.var 3) .nil)) (.con (.bl true))) (.cmp .ne (.call 17 (.cons (.var 3) .nil)) (.call 33 (.cons (.call 32 (.cons (.idx (.var 3) (.con (.int 2))) (.cons (.cel (.cons (.con (.int 0)) .nil)) .nil))) .nil)))) (.cons (.ret (.con (.bl false)))
  .nil) .nil)
  (.cons (.for [4] (.rng (.con (.int 8))) (.cons (.set (.name 5) (.var 3))
  (.cons (.for [6] (.rng (.con (.int 3))) (.cons (.set (.name 5) (.call 40 (.cons (.var 2) (.cons (.var 5) .nil))))
  (.cons (.ife (.not (.call 41 (.cons (.var 5) .nil))) (.cons (.ret (.con (.bl false)))
  .nil) .nil)
  .nil)))
  .nil)))
  (.cons (.ife (.or (.not (.call 41 (.cons (.call 39 (.cons (.var 2) .nil)) .nil))) (.not (.call 41 (.cons (.bin .add (.slc (.var 3) .non (.som (.con (.int 2)))) (.tup (.cons (.bin .add (.idx (.var 3) (.con (.int 2))) (.tup (.cons (.tup (.cons (.con (.str "tell")) (.cons (.con (.str "none")) .nil))) .nil))) .nil))) .nil)))) (.cons (.ret (.con (.bl false)))
  .nil) .nil)
  .nil))))))
  (.cons (.set (.name 7) (.tup (.cons (.tup (.cons (.con (.str "t")) .nil)) (.cons (.tup (.cons (.tup (.cons (.con (.str "k")) (.cons (.con (.str "keys")) (.cons (.tup (.cons (.con (.str "t")) .nil)) (.cons (.con (.bl true)) .nil))))) (.cons (.tup (.cons (.con (.str "v")) (.cons (.con (.str "values")) (.cons (.tup (.cons (.con (.str "t")) .nil)) (.cons (.con (.bl false)) .nil))))) .nil))) .nil))))
  (.cons (.par true [8, 9] (.cons (.cel .nil) (.cons (.tup .nil) .nil)))
  (.cons (.for [10] (.val (.tup (.cons (.con (.int 39)) (.cons (.con (.int 40)) (.cons (.con (.int 41)) (.cons (.con (.int 80)) (.cons (.con (.int 81)) .nil))))))) (.cons (.set (.name 8) (.cad (.var 8) (.lst (.cons (.bin .mul (.tup (.cons (.tup (.cons (.con (.str "tell")) (.cons (.con (.str "v")) .nil))) .nil)) (.var 10)) (.cons (.bin .mul (.tup (.cons (.tup (.cons (.con (.str "loop")) (.cons (.tup .nil) .nil))) .nil)) (.var 10)) (.cons (.bin .mul (.tup (.cons (.tup (.cons (.con (.str "walk")) (.cons (.con (.str "k")) (.cons (.tup .nil) .nil)))) .nil)) (.var 10)) .nil))))))
  .nil))
  (.cons (.for [4] (.rng (.con (.int 9))) (.cons (.set (.name 9) (.tup (.cons (.idx (.lst (.cons (.tup (.cons (.con (.str "loop")) (.cons (.var 9) .nil))) (.cons (.tup (.cons (.con (.str "walk")) (.cons (.con (.str "k")) (.cons (.var 9) .nil)))) (.cons (.tup (.cons (.con (.str "either")) (.cons (.var 9) (.cons (.tup .nil) .nil)))) .nil)))) (.bin .mod (.blt .int (.cons (.var 4) .nil)) (.con (.int 3)))) .nil)))
  (.cons (.exp (.app (.var 8) (.var 9)))
  .nil)))
  (.cons (.set (.name 11) (.lst (.cons (.bin .mul (.tup (.cons (.tup (.cons (.con (.str "keys")) .nil)) .nil)) (.con (.int 2))) (.cons (.tup (.cons (.tup (.cons (.con (.str "values")) .nil)) (.cons (.tup (.cons (.con (.str "bykey")) .nil)) .nil))) (.cons (.tup (.cons (.tup (.cons (.con (.str "keys")) .nil)) (.cons (.tup (.cons (.con (.str "byvalue")) .nil)) .nil))) (.cons (.tup (.cons (.tup (.cons (.con (.str "first")) (.cons (.con (.int 10)) .nil))) .nil)) (.cons (.tup (.cons (.tup (.cons (.con (.str "in")) (.cons (.con (.str "k")) .nil))) .nil)) .nil)))))))
  (.cons (.for [12] (.val (.var 11)) (.cons (.exp (.app (.var 8) (.tup (.cons (.tup (.cons (.con (.str "view")) (.cons (.con (.str "k")) (.cons (.con (.str "live")) (.cons (.tup (.cons (.con (.str "table")) (.cons (.con (.str "t")) .nil))) (.cons (.var 12) .nil)))))) .nil))))
  .nil))
  (.cons (.set (.name 8) (.cad (.var 8) (.lst (.cons (.tup (.cons (.tup (.cons (.con (.str "view")) (.cons (.con (.str "k")) (.cons (.con (.str "once")) (.cons (.tup (.cons (.con (.str "of")) (.cons (.con (.str "k")) .nil))) (.cons (.tup (.cons (.tup (.cons (.con (.str "first")) (.cons (.con (.int 1)) .nil))) .nil)) .nil)))))) .nil)) (.cons (.tup (.cons (.tup (.cons (.con (.str "view")) (.cons (.con (.str "k")) (.cons (.con (.str "live")) (.cons (.tup (.cons (.con (.str "of")) (.cons (.con (.str "k")) .nil))) (.cons (.tup .nil) .nil)))))) .nil)) .nil)))))
  (.cons (.exp (.app (.var 8) (.tup (.cons (.tup (.cons (.con (.str "view")) (.cons (.con (.str "v")) (.cons (.con (.str "live")) (.cons (.tup (.cons (.con (.str "table")) (.cons (.con (.str "t")) .nil))) (.cons (.tup (.cons (.tup (.cons (.con (.str "byvalue")) .nil)) (.cons (.tup (.cons (.con (.str "values")) .nil)) (.cons (.tup (.cons (.con (.str "last")) (.cons (.con (.int 9)) .nil))) (.cons (.tup (.cons (.con (.str "pass")) (.cons (.con (.str "x")) .nil))) .nil))))) .nil)))))) .nil))))
  (.cons (.ret (.cmp .eq (.lc false (.var 13) [13] (.val (.frz (.var 8))) (.som (.not (.call 41 (.cons (.bin .add (.var 7) (.tup (.cons (.var 13) .nil))) .nil))))) (.lst .nil)))
  .nil))))))))))
def n_law : List Str := ["script", "cell", "deck", "program", "turn", "value", "again", "head", "rows", "deep", "many", "some", "ops", "row"]
def dlist : List Def := [i_is_whole, i_is_label, i_are_labels, i_is_declared, i_is_head, i_told_of, i_begun, i_with_op, i_shape_of, i_is_view_step, i_is_simple, i_inner, i_measured_item, i_measured, i_is_program, i_need_program, i_steps_in, i_steps, i__law_deck, i__law_pick, i__law_one, i__law_head, i__law_list, i__law_source, i__law_with, i__law_is_label, i__law_shape, i__law_op, i__law_view, i__law_body, i__law_program, i__law_inner, i__law_rows, i__law_steps, i__law_labels, i__law_is_head, i__law_is_simple, i__law_size, i__law_is_program, i__law_odd, i__law_bent, i__law_told, i_law]
def fnames : List Str := txts ["is_whole", "is_label", "are_labels", "is_declared", "is_head", "told_of", "begun", "with_op", "shape_of", "is_view_step", "is_simple", "inner", "measured_item", "measured", "is_program", "need_program", "steps_in", "steps", "_law_deck", "_law_pick", "_law_one", "_law_head", "_law_list", "_law_source", "_law_with", "_law_is_label", "_law_shape", "_law_op", "_law_view", "_law_body", "_law_program", "_law_inner", "_law_rows", "_law_steps", "_law_labels", "_law_is_head", "_law_is_simple", "_law_size", "_law_is_program", "_law_odd", "_law_bent", "_law_told", "law"]
def gnames : List Str := txts ["LETTERS", "KINDS", "HOWS", "CHANGES", "MOST_TABLES", "MOST_VIEWS", "MOST_STEPS", "MOST_ITEMS", "MOST_DEEP", "MOST_OPS", "MOST_SHORT", "PLAIN_OPS", "TEST_OPS"]
def xnames : List Str := txts ["ViewError", "InvalidProgram", "InvalidRun", "InvalidOps", "InvalidStep", "InvalidPlaces", "InvalidCosts", "InvalidText", "InvalidName", "InvalidView", "InvalidRow", "InvalidSketch", "NoRow", "NothingToUndo", "TooMany", "Failed"]
def glist : List D := [g_LETTERS, g_KINDS, g_HOWS, g_CHANGES, g_MOST_TABLES, g_MOST_VIEWS, g_MOST_STEPS, g_MOST_ITEMS, g_MOST_DEEP, g_MOST_OPS, g_MOST_SHORT, g_PLAIN_OPS, g_TEST_OPS]
def Γ : Tab where
  glob := fun g => glist[g]?
  defs := fun f => dlist[f]?
  sub := fun _ _ => true
end K01
end
section
set_option maxHeartbeats 1000000
/-! # The Q layer, part 2: what a value of the heap denotes -/
namespace Q
open PySem PySem.Spec PyProof.Rows L2

/-- the written part, the world's parameters -/
structure KP where
  K : PySem.W.Frag
  P : Params
/-- where the cells stand, and the lists that are being made (nobody has them yet) -/
structure AL where
  l : List Addr
  z : Addr → Prop
/-- the addresses of the cells that may be changed -/
def Live (α : AL) (c : Cells) (a : Addr) : Prop := ∃ (n : Nat) (ds : List D), c[n]? = some (some ds) ∧ α.l[n]? = some a
/-- what no value may lean on -/
def Hid (α : AL) (c : Cells) (a : Addr) : Prop := Live α c a ∨ α.z a
/-- a dict of the written part: its entries by their keys -/
def KDic (K : KP) (a : Addr) (ks : List Str) (xs : List V) : Prop :=
  ∃ (es : Array DictEntry) (n : Nat), K.K.lookup a = some ⟨.type "dict", none, .dict es n, #[]⟩ ∧ (a == sysModules) = false ∧ PySem.W.KeysLit K.P es.toList ∧
    Paired (fun (k : Str × V) (e : DictEntry) => (∃ t, e.key = .str k.1 t) ∧ RelV k.2 e.val) (ks.zip xs) es.toList ∧ ks.length = xs.length
def TupAt (K : KP) (H : Hp) (L : Addr → Prop) (a : Addr) (xs : List V) : Prop :=
  (¬ L a ∧ Rd H a (.tup xs)) ∨ ∃ (o : Obj) (its : Array Value) (n : Nat), K.K.lookup a = some o ∧ o.cls = .type "tuple" ∧ o.data = .seq its n ∧ its.size ≤ sizeLine ∧ Vals xs its.toList
def DctAt (K : KP) (H : Hp) (L : Addr → Prop) (a : Addr) (ks : List Str) (xs : List V) : Prop :=
  (¬ L a ∧ Rd H a (.dK ((ks.map Sum.inr).zip xs)) ∧ ks.length = xs.length ∧ ks ≠ []) ∨ KDic K a ks xs

mutual
inductive Den (K : KP) (H : Hp) (L : Addr → Prop) : V → D → Prop
  | non : Den K H L .non .non
  | bl (b : Bool) : Den K H L (.bl b) (.bl b)
  | int (i : Int) : Den K H L (.int i) (.int i)
  | str (x : Str) : Den K H L (.str x) (.str x)
  | tup {a : Addr} {xs : List V} {ds : List D} : TupAt K H L a xs → Dens K H L xs ds → Den K H L (.ref a) (.tup ds)
  | lst {a : Addr} {xs : List V} {ds : List D} : ¬ L a → Rd H a (.lst xs) → Dens K H L xs ds → Den K H L (.ref a) (.lst ds)
  | dct {a : Addr} {ks : List Str} {xs : List V} {ds : List D} : DctAt K H L a ks xs → Dens K H L xs ds → Den K H L (.ref a) (.dct ks ds)
inductive Dens (K : KP) (H : Hp) (L : Addr → Prop) : List V → List D → Prop
  | nil : Dens K H L [] []
  | cons {v : V} {vs : List V} {d : D} {ds : List D} : Den K H L v d → Dens K H L vs ds → Dens K H L (v :: vs) (d :: ds)
end

/-- all but the live cells stands as it stood -/
def Frm (L : Addr → Prop) (H H' : Hp) : Prop := ∀ a o, ¬ L a → H a = some o → H' a = some o
def Frs (L L' : Addr → Prop) (H : Hp) : Prop := ∀ a, L' a → L a ∨ H a = none

section
variable {K : KP} {H H' : Hp} {L L' : Addr → Prop}
theorem Frm.rd (f : Frm L H H') {a : Addr} {u : HO} (h : ¬ L a) (r : Rd H a u) : Rd H' a u := by
  rcases r with r | ⟨o, r⟩
  · exact .inl (f _ _ h r)
  · exact .inr ⟨o, f _ _ h r⟩
theorem Rd.some {a : Addr} {u : HO} (r : Rd H a u) : H a ≠ none := by
  rcases r with r | ⟨o, r⟩ <;> rw [r] <;> simp
theorem Frs.not (g : Frs L L' H) {a : Addr} (h : ¬ L a) (s : H a ≠ none) : ¬ L' a := fun z => (g a z).elim h s
theorem TupAt.step {a : Addr} {xs : List V} (f : Frm L H H') (g : Frs L L' H) : TupAt K H L a xs → TupAt K H' L' a xs
  | .inl ⟨h, r⟩ => .inl ⟨g.not h (Rd.some r), f.rd h r⟩
  | .inr h => .inr h
theorem DctAt.step {a : Addr} {ks : List Str} {xs : List V} (f : Frm L H H') (g : Frs L L' H) : DctAt K H L a ks xs → DctAt K H' L' a ks xs
  | .inl ⟨h, r, l, e⟩ => .inl ⟨g.not h (Rd.some r), f.rd h r, l, e⟩
  | .inr h => .inr h
mutual
theorem Den.step (f : Frm L H H') (g : Frs L L' H) : ∀ {v : V} {d : D}, Den K H L v d → Den K H' L' v d
  | _, _, .non => .non
  | _, _, .bl b => .bl b
  | _, _, .int i => .int i
  | _, _, .str x => .str x
  | _, _, .tup h t => .tup (h.step f g) (Dens.step f g t)
  | _, _, .lst h r t => .lst (g.not h (Rd.some r)) (f.rd h r) (Dens.step f g t)
  | _, _, .dct h t => .dct (h.step f g) (Dens.step f g t)
theorem Dens.step (f : Frm L H H') (g : Frs L L' H) : ∀ {vs : List V} {ds : List D}, Dens K H L vs ds → Dens K H' L' vs ds
  | _, _, .nil => .nil
  | _, _, .cons h t => .cons (Den.step f g h) (Dens.step f g t)
end
/-- nothing denotes an empty dict that is being filled -/
theorem TupAt.skip {p : Addr} {u : HO} (h : H p = some u) (hu : ∀ xs, u ≠ .tup xs) (hf : ∀ o v, u ≠ .frz o v) {a : Addr} {xs : List V} (q : TupAt K H L a xs) : TupAt K H (fun b => L b ∨ b = p) a xs := by
  rcases q with ⟨n, r⟩ | q
  · refine .inl ⟨fun z => z.elim n fun e => ?_, r⟩
    subst e
    rcases r with r | ⟨o, r⟩
    · rw [h] at r; exact hu _ (Option.some.inj r)
    · rw [h] at r; exact hf _ _ (Option.some.inj r)
  · exact .inr q
theorem DctAt.skip {p : Addr} (h : H p = some (.dK [])) {a : Addr} {ks : List Str} {xs : List V} (q : DctAt K H L a ks xs) : DctAt K H (fun b => L b ∨ b = p) a ks xs := by
  rcases q with ⟨n, r, l, e⟩ | q
  · refine .inl ⟨fun z => z.elim n fun e' => ?_, r, l, e⟩
    subst e'
    rcases r with r | ⟨o, r⟩
    · rw [h] at r
      injection r with r
      injection r with r
      cases ks with
      | nil => exact e rfl
      | cons k ks =>
        cases xs with
        | nil => simp at l
        | cons x xs => simp at r
    · rw [h] at r; cases r
  · exact .inr q
mutual
theorem Den.skip {p : Addr} (h : H p = some (.dK [])) : ∀ {v : V} {d : D}, Den K H L v d → Den K H (fun b => L b ∨ b = p) v d
  | _, _, .non => .non
  | _, _, .bl b => .bl b
  | _, _, .int i => .int i
  | _, _, .str x => .str x
  | _, _, .tup q t => .tup (q.skip h (fun _ z => nomatch z) (fun _ _ z => nomatch z)) (Dens.skip h t)
  | _, _, .lst n r t => .lst (fun z => z.elim n fun e => (by
      subst e
      rcases r with r | ⟨o, r⟩ <;> (rw [h] at r; cases r))) r (Dens.skip h t)
  | _, _, .dct q t => .dct (q.skip h) (Dens.skip h t)
theorem Dens.skip {p : Addr} (h : H p = some (.dK [])) : ∀ {vs : List V} {ds : List D}, Dens K H L vs ds → Dens K H (fun b => L b ∨ b = p) vs ds
  | _, _, .nil => .nil
  | _, _, .cons q t => .cons (Den.skip h q) (Dens.skip h t)
end
theorem TupAt.sq {a : Addr} {xs : List V} : TupAt K H L a xs → SqT K.K H a xs
  | .inl ⟨_, r⟩ => .inl r
  | .inr h => .inr h
theorem Dens.length : ∀ {vs : List V} {ds : List D}, Dens K H L vs ds → vs.length = ds.length
  | _, _, .nil => rfl
  | _, _, .cons _ t => congrArg (· + 1) (Dens.length t)
theorem Dens.append : ∀ {vs us : List V} {ds es : List D}, Dens K H L vs ds → Dens K H L us es → Dens K H L (vs ++ us) (ds ++ es)
  | _, _, _, _, .nil, s => s
  | _, _, _, _, .cons h t, s => .cons h (Dens.append t s)
theorem Dens.get : ∀ {vs : List V} {ds : List D} {i : Nat} {d : D}, Dens K H L vs ds → ds[i]? = some d → ∃ v, vs[i]? = some v ∧ Den K H L v d
  | _, _, i, _, .nil, e => by simp at e
  | _, _, 0, _, .cons h _, e => by simp at e; subst e; exact ⟨_, rfl, h⟩
  | _, _, i + 1, d, .cons _ t, e => by
    obtain ⟨v, h1, h2⟩ := Dens.get (i := i) (d := d) t (by simpa using e)
    exact ⟨v, by simpa using h1, h2⟩
theorem Dens.get' : ∀ {vs : List V} {ds : List D} {i : Nat} {v : V}, Dens K H L vs ds → vs[i]? = some v → ∃ d, ds[i]? = some d ∧ Den K H L v d
  | _, _, i, _, .nil, e => by simp at e
  | _, _, 0, _, .cons h _, e => by simp at e; subst e; exact ⟨_, rfl, h⟩
  | _, _, i + 1, v, .cons _ t, e => by
    obtain ⟨d, h1, h2⟩ := Dens.get' (i := i) (v := v) t (by simpa using e)
    exact ⟨d, by simpa using h1, h2⟩
theorem Dens.take : ∀ {vs : List V} {ds : List D} (n : Nat), Dens K H L vs ds → Dens K H L (vs.take n) (ds.take n)
  | _, _, 0, _ => by simp; exact .nil
  | _, _, _ + 1, .nil => .nil
  | _, _, n + 1, .cons h t => .cons h (Dens.take n t)
theorem Dens.drop : ∀ {vs : List V} {ds : List D} (n : Nat), Dens K H L vs ds → Dens K H L (vs.drop n) (ds.drop n)
  | _, _, 0, r => r
  | _, _, _ + 1, .nil => .nil
  | _, _, n + 1, .cons _ t => Dens.drop n t
theorem Dens.set {v : V} {d : D} (r : Den K H L v d) : ∀ {vs : List V} {ds : List D} (i : Nat), Dens K H L vs ds → Dens K H L (vs.set i v) (ds.set i d)
  | _, _, _, .nil => .nil
  | _, _, 0, .cons _ t => .cons r t
  | _, _, i + 1, .cons q t => .cons q (Dens.set r i t)
theorem Dens.erase : ∀ {vs : List V} {ds : List D} (i : Nat), Dens K H L vs ds → Dens K H L (vs.eraseIdx i) (ds.eraseIdx i)
  | _, _, _, .nil => .nil
  | _, _, 0, .cons _ t => t
  | _, _, i + 1, .cons q t => .cons q (Dens.erase i t)
theorem Dens.snoc {vs : List V} {ds : List D} {v : V} {d : D} (t : Dens K H L vs ds) (h : Den K H L v d) : Dens K H L (vs ++ [v]) (ds ++ [d]) := t.append (.cons h .nil)
theorem Dens.rep {vs : List V} {ds : List D} (t : Dens K H L vs ds) : ∀ k : Nat, Dens K H L (List.replicate k vs).flatten (repD ds k)
  | 0 => .nil
  | k + 1 => by
    unfold repD
    rw [List.replicate_succ, List.replicate_succ, List.flatten_cons, List.flatten_cons]
    exact t.append (Dens.rep t k)
theorem Dens.cut {vs : List V} {ds : List D} (t : Dens K H L vs ds) (lo hi : Option Int) : Dens K H L (cutV vs lo hi) (cutD ds lo hi) := by
  unfold cutV cutD
  rw [t.length]
  exact (t.drop _).take _
theorem Dens.at_ {vs : List V} {ds : List D} {i : Int} {d : D} (t : Dens K H L vs ds) (h : atI ds i = some d) : ∃ v, atI vs i = some v ∧ Den K H L v d := by
  unfold atI at h ⊢
  rw [t.length]
  cases e : ixN ds.length i with
  | none => rw [e] at h; cases h
  | some j =>
    rw [e] at h
    obtain ⟨v, h1, h2⟩ := t.get (i := j) (d := d) h
    exact ⟨v, h1, h2⟩

/-! ### the value by its kind -/
theorem Den.non_inv {v : V} (h : Den K H L v .non) : v = .non := by cases h; rfl
theorem Den.bl_inv {v : V} {b : Bool} (h : Den K H L v (.bl b)) : v = .bl b := by cases h; rfl
theorem Den.int_inv {v : V} {i : Int} (h : Den K H L v (.int i)) : v = .int i := by cases h; rfl
theorem Den.str_inv {v : V} {x : Str} (h : Den K H L v (.str x)) : v = .str x := by cases h; rfl
end

/-! ### the cells -/
structure Cel (K : KP) (α : AL) (c : Cells) (H : Hp) : Prop where
  len : α.l.length = c.length
  nod : α.l.Nodup
  trk : ∀ (n : Nat) (a : Addr), α.l[n]? = some a → ∃ xs, H a = some (.lst xs)
  zok : ∀ a, α.z a → (∃ xs, H a = some (.lst xs)) ∧ a ∉ α.l
  at_ : ∀ (n : Nat) (ds : List D), c[n]? = some (some ds) → ∃ a xs, α.l[n]? = some a ∧ H a = some (.lst xs) ∧ Dens K H (Hid α c) xs ds ∧ ds.length ≤ sizeLine
def DenW (K : KP) (H : Hp) (α : AL) (c : Cells) : V → W → Prop
  | v, .v d => Den K H (Hid α c) v d
  | v, .c n => ∃ a, α.l[n]? = some a ∧ v = .ref a
/-- from one state of the cells to a later one -/
structure Stp (K : KP) (α : AL) (c : Cells) (H : Hp) (α' : AL) (c' : Cells) (H' : Hp) : Prop where
  cel : Cel K α' c' H'
  ext : α.l <+: α'.l
  zeq : α'.z = α.z
  frm : Frm (Live α c) H H'
  frs : Frs (Live α c) (Live α' c') H
section
variable {K : KP} {H H' H2 : Hp} {α α' α2 : AL} {c c' c2 : Cells}
theorem Cel.get (x : Cel K α c H) {n : Nat} {a : Addr} {ds : List D} (h : c[n]? = some (some ds)) (ha : α.l[n]? = some a) : ∃ xs, H a = some (.lst xs) ∧ Dens K H (Hid α c) xs ds ∧ ds.length ≤ sizeLine := by
  obtain ⟨b, xs, h1, h2, h3, h4⟩ := x.at_ n ds h
  rw [ha] at h1
  cases h1
  exact ⟨xs, h2, h3, h4⟩
theorem Live.lst (x : Cel K α c H) {a : Addr} (h : Live α c a) : ∃ xs, H a = some (.lst xs) := by
  obtain ⟨n, ds, h1, h2⟩ := h
  exact x.trk n a h2
theorem Hid.lst (x : Cel K α c H) {a : Addr} (h : Hid α c a) : ∃ xs, H a = some (.lst xs) := by
  rcases h with h | h
  · exact Live.lst x h
  · exact (x.zok a h).1
theorem Stp.refl (x : Cel K α c H) : Stp K α c H α c H := ⟨x, List.prefix_refl _, rfl, fun _ _ _ h => h, fun _ h => .inl h⟩
theorem Frm.hid (f : Frm (Live α c) H H') : Frm (Hid α c) H H' := fun a o h e => f a o (fun z => h (.inl z)) e
theorem Stp.hfrm (s : Stp K α c H α' c' H') : Frm (Hid α c) H H' := s.frm.hid
theorem Stp.hfrs (s : Stp K α c H α' c' H') : Frs (Hid α c) (Hid α' c') H := fun a h => by
  rcases h with h | h
  · rcases s.frs a h with q | q
    · exact .inl (.inl q)
    · exact .inr q
  · rw [s.zeq] at h; exact .inl (.inr h)
theorem Stp.trans (a : Stp K α c H α' c' H') (b : Stp K α' c' H' α2 c2 H2) : Stp K α c H α2 c2 H2 where
  cel := b.cel
  ext := a.ext.trans b.ext
  zeq := b.zeq.trans a.zeq
  frm := fun x o h e => b.frm x o (a.frs.not h (by rw [e]; simp)) (a.frm x o h e)
  frs := fun x h => by
    rcases b.frs x h with h1 | h1
    · exact a.frs x h1
    · rcases Classical.em (Live α c x) with h2 | h2
      · exact .inl h2
      · right
        cases e : H x with
        | none => rfl
        | some o => rw [a.frm x o h2 e] at h1; cases h1
theorem Stp.den (s : Stp K α c H α' c' H') {v : V} {d : D} (h : Den K H (Hid α c) v d) : Den K H' (Hid α' c') v d := h.step s.hfrm s.hfrs
theorem Stp.dens (s : Stp K α c H α' c' H') {vs : List V} {ds : List D} (h : Dens K H (Hid α c) vs ds) : Dens K H' (Hid α' c') vs ds := h.step s.hfrm s.hfrs
theorem Stp.at_ (s : Stp K α c H α' c' H') {n : Nat} {a : Addr} (h : α.l[n]? = some a) : α'.l[n]? = some a := by
  obtain ⟨t, e⟩ := s.ext
  rw [← e, List.getElem?_append_left ((List.getElem?_eq_some_iff.mp h).1)]
  exact h
theorem Stp.denW (s : Stp K α c H α' c' H') : ∀ {v : V} {w : W}, DenW K H α c v w → DenW K H' α' c' v w
  | _, .v _, h => s.den h
  | _, .c _, ⟨a, h, e⟩ => ⟨a, s.at_ h, e⟩
theorem Stp.len (s : Stp K α c H α' c' H') (x : Cel K α c H) : c.length ≤ c'.length := by
  rw [← x.len, ← s.cel.len]
  exact s.ext.length_le
/-- a list that is being made stands as it stood -/
theorem Stp.made (s : Stp K α c H α' c' H') (x : Cel K α c H) {a : Addr} (h : α.z a) {o : HO} (e : H a = some o) : H' a = some o :=
  s.frm a o (fun ⟨n, _, _, q⟩ => (x.zok a h).2 (List.mem_of_getElem? q)) e
/-- a new object that is no cell -/
theorem Stp.new (x : Cel K α c H) {p : Addr} {o : HO} (h : H p = none) : Stp K α c H α c (upd H p o) := by
  have f : Frm (Live α c) H (upd H p o) := fun a u _ e => by
    rw [upd_ne (ne_of_none e h)]; exact e
  have g : Frs (Hid α c) (Hid α c) H := fun a z => .inl z
  refine ⟨⟨x.len, x.nod, fun n a e => ?_, fun a q => ?_, fun n ds e => ?_⟩, List.prefix_refl _, rfl, f, fun a z => .inl z⟩
  · obtain ⟨ys, q⟩ := x.trk n a e
    exact ⟨ys, by rw [upd_ne (ne_of_none q h)]; exact q⟩
  · obtain ⟨⟨ys, q1⟩, q2⟩ := x.zok a q
    exact ⟨⟨ys, by rw [upd_ne (ne_of_none q1 h)]; exact q1⟩, q2⟩
  · obtain ⟨a, xs, h1, h2, h3, h4⟩ := x.at_ n ds e
    exact ⟨a, xs, h1, by rw [upd_ne (ne_of_none h2 h)]; exact h2, h3.step f.hid g, h4⟩
theorem Cel.free (x : Cel K α c H) {p : Addr} (h : H p = none) : ¬ Hid α c p := fun z => by
  obtain ⟨xs, e⟩ := Hid.lst x z
  rw [h] at e; cases e
/-- a new tuple, a new list -/
theorem Den.newTup (x : Cel K α c H) {p : Addr} {xs : List V} {ds : List D} (h : H p = none) (t : Dens K H (Hid α c) xs ds) : Den K (upd H p (.tup xs)) (Hid α c) (.ref p) (.tup ds) :=
  .tup (.inl ⟨x.free h, .inl upd_same⟩) ((Stp.new x h).dens t)
theorem Den.newLst (x : Cel K α c H) {p : Addr} {xs : List V} {ds : List D} (h : H p = none) (t : Dens K H (Hid α c) xs ds) : Den K (upd H p (.lst xs)) (Hid α c) (.ref p) (.lst ds) :=
  .lst (x.free h) (.inl upd_same) ((Stp.new x h).dens t)
def AL.add (α : AL) (p : Addr) : AL := ⟨α.l ++ [p], α.z⟩
theorem live_snoc (l : α.l.length = c.length) {p a : Addr} {ds : List D} : Live (α.add p) (c ++ [some ds]) a ↔ Live α c a ∨ a = p := by
  constructor
  · rintro ⟨n, es, h1, h2⟩
    unfold AL.add at h2
    by_cases hn : n < c.length
    · rw [List.getElem?_append_left hn] at h1
      rw [List.getElem?_append_left (by omega)] at h2
      exact .inl ⟨n, es, h1, h2⟩
    · rw [List.getElem?_append_right (by omega)] at h2
      have : n - α.l.length = 0 := by
        have q := (List.getElem?_eq_some_iff.mp h2).1
        simp at q; omega
      rw [this] at h2
      exact .inr (by simpa using h2.symm)
  · unfold AL.add
    rintro (⟨n, es, h1, h2⟩ | rfl)
    · exact ⟨n, es, by rw [List.getElem?_append_left (List.getElem?_eq_some_iff.mp h1).1]; exact h1, by rw [List.getElem?_append_left (List.getElem?_eq_some_iff.mp h2).1]; exact h2⟩
    · exact ⟨c.length, ds, by simp, by rw [← l]; simp⟩
/-- a new cell -/
theorem Stp.cell (x : Cel K α c H) {p : Addr} {xs : List V} {ds : List D} (h : H p = none) (t : Dens K H (Hid α c) xs ds) (hl : ds.length ≤ sizeLine) : Stp K α c H (α.add p) (c ++ [some ds]) (upd H p (.lst xs)) := by
  have f : Frm (Live α c) H (upd H p (.lst xs)) := fun a u _ e => by
    rw [upd_ne (ne_of_none e h)]; exact e
  have g : Frs (Live α c) (Live (α.add p) (c ++ [some ds])) H := fun a z => by
    rcases (live_snoc x.len).mp z with z | rfl
    · exact .inl z
    · exact .inr h
  have gh : Frs (Hid α c) (Hid (α.add p) (c ++ [some ds])) H := fun a z => by
    rcases z with z | z
    · rcases g a z with q | q
      · exact .inl (.inl q)
      · exact .inr q
    · exact .inl (.inr z)
  have hl2 : (α.add p).l = α.l ++ [p] := rfl
  refine ⟨⟨by rw [hl2]; simp [x.len], ?_, fun n a e => ?_, fun a q => ?_, fun n es e => ?_⟩, List.prefix_append _ _, rfl, f, g⟩
  · rw [hl2, List.nodup_append]
    refine ⟨x.nod, by simp, ?_⟩
    intro a ha b hb e
    simp at hb
    subst hb; subst e
    obtain ⟨n, hn⟩ := List.getElem?_of_mem ha
    obtain ⟨ys, q⟩ := x.trk n _ hn
    rw [h] at q; cases q
  · rw [hl2] at e
    by_cases hn : n < α.l.length
    · rw [List.getElem?_append_left hn] at e
      obtain ⟨ys, q⟩ := x.trk n a e
      exact ⟨ys, by rw [upd_ne (ne_of_none q h)]; exact q⟩
    · rw [List.getElem?_append_right (by omega)] at e
      have : n - α.l.length = 0 := by
        have q := (List.getElem?_eq_some_iff.mp e).1
        simp at q; omega
      rw [this] at e
      simp at e
      subst e
      exact ⟨xs, upd_same⟩
  · obtain ⟨⟨ys, q1⟩, q2⟩ := x.zok a q
    refine ⟨⟨ys, by rw [upd_ne (ne_of_none q1 h)]; exact q1⟩, ?_⟩
    rw [hl2, List.mem_append]
    rintro (z | z)
    · exact q2 z
    · exact ne_of_none q1 h (by simpa using z)
  · by_cases hn : n < c.length
    · rw [List.getElem?_append_left hn] at e
      obtain ⟨a, ys, h1, h2, h3, h4⟩ := x.at_ n es e
      exact ⟨a, ys, by rw [hl2, List.getElem?_append_left (by rw [x.len]; exact hn)]; exact h1, by rw [upd_ne (ne_of_none h2 h)]; exact h2, h3.step f.hid gh, h4⟩
    · rw [List.getElem?_append_right (by omega)] at e
      have : n - c.length = 0 := by
        have q := (List.getElem?_eq_some_iff.mp e).1
        simp at q; omega
      rw [this] at e
      simp at e
      subst e
      refine ⟨p, xs, ?_, upd_same, t.step f.hid gh, hl⟩
      rw [hl2, List.getElem?_append_right (by rw [x.len]; omega), x.len, this]
      rfl
theorem live_set {n : Nat} {ds es : List D} (h : c[n]? = some (some ds)) (a : Addr) : Live α (c.set n (some es)) a ↔ Live α c a := by
  constructor
  · rintro ⟨m, fs, h1, h2⟩
    by_cases e : n = m
    · subst e; exact ⟨n, ds, h, h2⟩
    · rw [List.getElem?_set_ne e] at h1; exact ⟨m, fs, h1, h2⟩
  · rintro ⟨m, fs, h1, h2⟩
    by_cases e : n = m
    · subst e; exact ⟨n, es, by rw [List.getElem?_set_self (List.getElem?_eq_some_iff.mp h).1], h2⟩
    · exact ⟨m, fs, by rw [List.getElem?_set_ne e]; exact h1, h2⟩
/-- a cell is written -/
theorem Stp.write (x : Cel K α c H) {n : Nat} {a : Addr} {ds es : List D} {ys : List V} (h : c[n]? = some (some ds)) (ha : α.l[n]? = some a) (t : Dens K H (Hid α c) ys es) (hl : es.length ≤ sizeLine) : Stp K α c H α (c.set n (some es)) (upd H a (.lst ys)) := by
  have la : Live α c a := ⟨n, ds, h, ha⟩
  have f : Frm (Live α c) H (upd H a (.lst ys)) := fun b u hb e => by
    rw [upd_ne (fun z => by rw [z] at hb; exact hb la)]; exact e
  have g : Frs (Live α c) (Live α (c.set n (some es))) H := fun b z => .inl ((live_set h b).mp z)
  have gh : Frs (Hid α c) (Hid α (c.set n (some es))) H := fun b z => .inl (z.elim (fun z => .inl ((live_set h b).mp z)) .inr)
  refine ⟨⟨by simp [x.len], x.nod, fun m b e => ?_, fun b q => ?_, fun m fs e => ?_⟩, List.prefix_refl _, rfl, f, g⟩
  · by_cases z : b = a
    · subst z; exact ⟨ys, upd_same⟩
    · rw [upd_ne z]; exact x.trk m b e
  · obtain ⟨⟨zs, q1⟩, q2⟩ := x.zok b q
    exact ⟨⟨zs, by rw [upd_ne (fun z => by rw [z] at q2; exact q2 (List.mem_of_getElem? ha))]; exact q1⟩, q2⟩
  · by_cases z : n = m
    · subst z
      rw [List.getElem?_set_self (List.getElem?_eq_some_iff.mp h).1] at e
      cases e
      exact ⟨a, ys, ha, upd_same, t.step f.hid gh, hl⟩
    · rw [List.getElem?_set_ne z] at e
      obtain ⟨b, xs, h1, h2, h3, h4⟩ := x.at_ m fs e
      have hne : b ≠ a := fun q => by
        subst q
        exact z (nd_ix x.nod ha h1)
      exact ⟨b, xs, h1, by rw [upd_ne hne]; exact h2, h3.step f.hid gh, h4⟩
theorem live_dead {n : Nat} (a : Addr) (z : Live α (c.set n none) a) : Live α c a := by
  obtain ⟨m, fs, h1, h2⟩ := z
  by_cases e : n = m
  · subst e
    by_cases l : n < c.length
    · rw [List.getElem?_set_self l] at h1; cases h1
    · rw [List.getElem?_eq_none (by simp; omega)] at h1; cases h1
  · rw [List.getElem?_set_ne e] at h1; exact ⟨m, fs, h1, h2⟩
/-- a cell is closed: a value from now on -/
theorem Stp.close (x : Cel K α c H) {n : Nat} {a : Addr} {ds : List D} (h : c[n]? = some (some ds)) (ha : α.l[n]? = some a) : Stp K α c H α (c.set n none) H ∧ Den K H (Hid α (c.set n none)) (.ref a) (.lst ds) := by
  have f : Frm (Live α c) H H := fun _ _ _ e => e
  have g : Frs (Live α c) (Live α (c.set n none)) H := fun b z => .inl (live_dead b z)
  have gh : Frs (Hid α c) (Hid α (c.set n none)) H := fun b z => .inl (z.elim (fun z => .inl (live_dead b z)) .inr)
  obtain ⟨xs, h1, h2, h3⟩ := x.get h ha
  refine ⟨⟨⟨by simp [x.len], x.nod, x.trk, x.zok, fun m fs e => ?_⟩, List.prefix_refl _, rfl, f, g⟩, .lst (fun z => ?_) (.inl h1) (h2.step f.hid gh)⟩
  · by_cases z : n = m
    · subst z
      rw [List.getElem?_set_self (List.getElem?_eq_some_iff.mp h).1] at e
      cases e
    · rw [List.getElem?_set_ne z] at e
      obtain ⟨b, ys, q1, q2, q3, q4⟩ := x.at_ m fs e
      exact ⟨b, ys, q1, q2, q3.step f.hid gh, q4⟩
  · rcases z with ⟨m, fs, q1, q2⟩ | z
    · by_cases e : n = m
      · subst e
        rw [List.getElem?_set_self (List.getElem?_eq_some_iff.mp h).1] at q1
        cases q1
      · rw [List.getElem?_set_ne e] at q1
        exact e (nd_ix x.nod ha q2)
    · exact (x.zok a z).2 (List.mem_of_getElem? ha)
end
end Q
end
section
set_option maxHeartbeats 2000000
/-! # The Q layer, part 3: operators and built-ins by what their operands denote -/
namespace Q
open PySem PySem.Spec PyProof.Rows L2

/-- v reads as d: it denotes it, or it is a cell that holds just these items -/
inductive RdV (K : KP) (H : Hp) (L : Addr → Prop) : V → D → Prop
  | den {v : V} {d : D} : Den K H L v d → RdV K H L v d
  | cel {a : Addr} {xs : List V} {ds : List D} : H a = some (.lst xs) → Dens K H L xs ds → RdV K H L (.ref a) (.lst ds)
section
variable {K : KP} {H H' : Hp} {L : Addr → Prop} {v : V}
theorem RdV.int {i : Int} (h : RdV K H L v (.int i)) : v = .int i := by cases h with | den h => exact h.int_inv
theorem RdV.bl {b : Bool} (h : RdV K H L v (.bl b)) : v = .bl b := by cases h with | den h => exact h.bl_inv
theorem RdV.str {x : Str} (h : RdV K H L v (.str x)) : v = .str x := by cases h with | den h => exact h.str_inv
theorem RdV.non (h : RdV K H L v .non) : v = .non := by cases h with | den h => exact h.non_inv
theorem RdV.tup {ds : List D} (h : RdV K H L v (.tup ds)) : ∃ a xs, v = .ref a ∧ TupAt K H L a xs ∧ Dens K H L xs ds := by
  cases h with
  | den h => cases h with | tup h t => exact ⟨_, _, rfl, h, t⟩
theorem RdV.lst {ds : List D} (h : RdV K H L v (.lst ds)) : ∃ a xs, v = .ref a ∧ Rd H a (.lst xs) ∧ Dens K H L xs ds := by
  cases h with
  | den h => cases h with | lst _ h t => exact ⟨_, _, rfl, h, t⟩
  | cel h t => exact ⟨_, _, rfl, .inl h, t⟩
theorem RdV.dct {ks : List Str} {ds : List D} (h : RdV K H L v (.dct ks ds)) : ∃ a xs, v = .ref a ∧ DctAt K H L a ks xs ∧ Dens K H L xs ds := by
  cases h with
  | den h => cases h with | dct h t => exact ⟨_, _, rfl, h, t⟩
theorem RdV.step {α α' : AL} {c c' : Cells} (s : Stp K α c H α' c' H') {d : D} {w : W} (hw : DenW K H α c v w) (h : rd c' w = some d) : RdV K H' (Hid α' c') v d := by
  cases w with
  | v d' =>
    cases h
    exact .den (s.den hw)
  | c n =>
    obtain ⟨a, ha, rfl⟩ := hw
    unfold rd at h
    dsimp only at h
    split at h
    · rename_i ds e
      cases h
      obtain ⟨xs, h1, h2, _⟩ := s.cel.get e (s.at_ ha)
      exact .cel h1 h2
    · cases h
theorem DenW.rd {α : AL} {c : Cells} (x : Cel K α c H) {d : D} {w : W} (hw : DenW K H α c v w) (h : Q.rd c w = some d) : RdV K H (Hid α c) v d := RdV.step (Stp.refl x) hw h
end

/-- an answer that may be a new object -/
def Ret (K : KP) (α : AL) (c : Cells) (H : Hp) (Q : VK) (d : D) : Prop := ∀ v H', Stp K α c H α c H' → Den K H' (Hid α c) v d → Q v H'
section
variable {K : KP} {α : AL} {c : Cells} {H : Hp} {Q : VK}
theorem Ret.at_ (x : Cel K α c H) {d : D} (r : Ret K α c H Q d) {v : V} (h : Den K H (Hid α c) v d) : Q v H := r v H (Stp.refl x) h
theorem Ret.tup (x : Cel K α c H) {ds : List D} (r : Ret K α c H Q (.tup ds)) {xs : List V} (h : Dens K H (Hid α c) xs ds) : ∀ p, H p = none → Q (.ref p) (upd H p (.tup xs)) :=
  fun p hp => r _ _ (Stp.new x hp) (Den.newTup x hp h)
theorem Ret.lst (x : Cel K α c H) {ds : List D} (r : Ret K α c H Q (.lst ds)) {xs : List V} (h : Dens K H (Hid α c) xs ds) : ∀ p, H p = none → Q (.ref p) (upd H p (.lst xs)) :=
  fun p hp => r _ _ (Stp.new x hp) (Den.newLst x hp h)
end
section
variable {X : Cx} {pins : List (Addr × Obj)} {σ : L2.St} {H : Hp} {s : Shared}
/-- a list that is read: its own object -/
theorem lstR (I : Inv X pins σ H s) {l : Addr} {xs : List V} (h : Rd H l (.lst xs)) : xs.length ≤ sizeLine ∧ ∃ (its : List Value) (n : Nat), Vals xs its ∧ xs.length = its.length ∧ s.heap.get? l = some { cls := .type "list", data := .seq its.toArray n } := by
  obtain ⟨z, its, n, r, e⟩ := Rd.ok h I.hok
  exact ⟨z, its, n, r, r.length, e⟩
end
section
variable {X : Cx}
/-- xs + ys of any lists that are read -/
theorem catL : OpR X (binaryOp .Add) (fun x y H Q => ∃ l b xs zs, x = .ref l ∧ y = .ref b ∧ Rd H l (.lst xs) ∧ Rd H b (.lst zs) ∧ xs.length + zs.length ≤ sizeLine ∧ ∀ p, H p = none → Q (.ref p) (upd H p (.lst (xs ++ zs)))) := by
  rintro pins s σ H x y v u Q I rx ry ⟨l, b, xs, zs, rfl, rfl, h1, h2, hz, q⟩
  obtain rfl : v = .ref l := rx
  obtain rfl : u = .ref b := ry
  obtain ⟨_, us, n, r1, l1, e1⟩ := lstR I h1
  obtain ⟨_, ws, m, r2, l2, e2⟩ := lstR I h2
  have hsum : us.toArray ++ ws.toArray = (us ++ ws).toArray := by simp
  have big : (xs ++ zs).length ≤ sizeLine := by rw [List.length_append]; exact hz
  refine PySem.P.add_list e1 e2 ?_ (hsz := by simp only [List.size_toArray]; omega)
  rw [hsum]
  exact ⟨.ref s.heap.objs.size, _, Inv.lnew (t' := s.toks) I (r1.append r2) big, rfl, q _ (Inv.fresh I)⟩
theorem addBI : OpR X (binaryOp .Add) (fun x y H Q => ∃ k i, x = .bl k ∧ y = .int i ∧ Q (.int ((if k = true then 1 else 0) + i)) H) := by
  rintro pins s σ H x y v u Q I rx ry ⟨k, i, rfl, rfl, q⟩
  obtain rfl : v = .bool k := rx
  obtain ⟨t, rfl⟩ := ry
  exact IntBool.add_bool_int ⟨.int _, H, I.tok _, ⟨_, rfl⟩, q⟩
/-- a list, so many times over -/
theorem repL : OpR X (binaryOp .Mult) (fun x y H Q => ∃ l k xs, x = .ref l ∧ y = .int k ∧ Rd H l (.lst xs) ∧ -(2 ^ 63) ≤ k ∧ k < 2 ^ 63 ∧ xs.length * k.toNat ≤ sizeLine ∧ ∀ p, H p = none → Q (.ref p) (upd H p (.lst (List.replicate k.toNat xs).flatten))) := by
  rintro pins s σ H x y v u Q I rx ry ⟨l, k, xs, rfl, rfl, h1, h2, h3, hz, q⟩
  obtain rfl : v = .ref l := rx
  obtain ⟨t, rfl⟩ := ry
  obtain ⟨_, us, n, r1, l1, e1⟩ := lstR I h1
  have flat : (List.replicate k.toNat xs).flatten.length ≤ sizeLine := by
    rw [PyProof.Rows.lm_len_rep_flat, Nat.mul_comm]; exact hz
  have hs : us.length * k.toNat ≤ sizeLine := by rw [← l1]; exact hz
  have line : (sizeLine : Nat) = 2 ^ 24 := by decide +kernel
  have c1 : ¬ (!Builtin.List.listFitsIndex k) = true := by simp [Builtin.List.listFitsIndex]; omega
  have c2 : ¬ us.toArray.size * k.toNat > (2 ^ 63 - 1) / 8 := by rw [List.size_toArray]; omega
  have c3 : ¬ Builtin.List.listTooLong (us.toArray.size * k.toNat) = true := by
    rw [List.size_toArray]; simp [Builtin.List.listTooLong]; omega
  refine wpAny_binaryOp_repeat_ref (T := "list") (U := "int") (by decide) ⟨_, e1, rfl⟩ (fun z => typeIs_int z k t) noFill_list_mul F.fills_int_mul F.slot_int_rmul repeat_list F.slot_int_index.lookup ?_
  refine call_meets F.slot_int_rmul (typeIs_int s k t) F.entry_int_rmul (F.args_int_rmul_2 _ _) (lm_int_rmul_list_any k t l us.toArray n none #[]) ⟨e1, rfl, ⟨_, e1, rfl⟩, ?_⟩
  refine call_meets F.slot_list_mul ⟨_, e1, rfl⟩ F.entry_list_mul (F.args_list_mul_2 _ _) (lm_list_mul_any l us.toArray n none #[] k t c1 c2 c3) ⟨e1, ?_⟩
  rw [listMul_foldl_if]
  have e : (List.replicate k.toNat us.toArray.toList).flatten.toArray = (List.replicate k.toNat us).flatten.toArray := by simp
  first
    | exact ⟨.ref s.heap.objs.size, _, Inv.lnew (t' := s.toks) I (r1.rep k.toNat) flat, rfl, q _ (Inv.fresh I)⟩
    | (rw [e]; exact ⟨.ref s.heap.objs.size, _, Inv.lnew (t' := s.toks) I (r1.rep k.toNat) flat, rfl, q _ (Inv.fresh I)⟩)
end

def pyOp : Op → Operator
  | .add => .Add
  | .sub => .Sub
  | .mul => .Mult
  | .mod => .Mod
  | .fdiv => .FloorDiv
  | .pow => .Pow
/-- a two-place operation by what its sides read as -/
def rBin (K : KP) (f : D → D → Option D) : R2 := fun x y H Q => ∃ α c a b d, Cel K α c H ∧ RdV K H (Hid α c) x a ∧ RdV K H (Hid α c) y b ∧ f a b = some d ∧ Ret K α c H Q d
section
variable {X : Cx} {K : KP}
theorem binR (hK : X.K = K.K) (o : Op) : OpR X (binaryOp (pyOp o)) (rBin K (opD o)) := by
  rintro pins s σ H x y v u Q I rx ry ⟨α, c, a, b, d, C, ra, rb, e, q⟩
  cases o with
  | add =>
    unfold opD at e
    dsimp only at e
    split at e
    · cases e; cases ra.int; cases rb.int
      exact op_add pins s σ H _ _ v u Q I rx ry ⟨_, _, rfl, rfl, q.at_ C (.int _)⟩
    · cases e; cases ra.int; cases rb.bl
      exact op_add_ib pins s σ H _ _ v u Q I rx ry ⟨_, _, rfl, rfl, q.at_ C (.int _)⟩
    · cases e; cases ra.bl; cases rb.int
      exact addBI pins s σ H _ _ v u Q I rx ry ⟨_, _, rfl, rfl, q.at_ C (.int _)⟩
    · split at e
      · rename_i hz
        cases e; cases ra.str; cases rb.str
        exact op_add_str pins s σ H _ _ v u Q I rx ry ⟨_, _, rfl, rfl, hz, q.at_ C (.str _)⟩
      · cases e
    · split at e
      · rename_i hz
        cases e
        obtain ⟨a1, xs, rfl, h1, t1⟩ := ra.tup
        obtain ⟨a2, ys, rfl, h2, t2⟩ := rb.tup
        refine op_catA pins s σ H _ _ v u Q I rx ry ⟨a1, a2, xs, ys, rfl, rfl, by rw [hK]; exact h1.sq, by rw [hK]; exact h2.sq, by rw [t1.length, t2.length]; exact hz, ?_, ?_, ?_⟩
        · intro z
          subst z
          cases t1
          exact q.at_ C (.tup h2 t2)
        · intro _ z
          subst z
          cases t2
          exact q.at_ C (.tup h1 (by rw [List.append_nil]; exact t1))
        · intro _ _
          exact q.tup C (t1.append t2)
      · cases e
    · split at e
      · rename_i hz
        cases e
        obtain ⟨a1, xs, rfl, h1, t1⟩ := ra.lst
        obtain ⟨a2, ys, rfl, h2, t2⟩ := rb.lst
        exact catL pins s σ H _ _ v u Q I rx ry ⟨a1, a2, xs, ys, rfl, rfl, h1, h2, by rw [t1.length, t2.length]; exact hz, q.lst C (t1.append t2)⟩
      · cases e
    · cases e
  | sub =>
    unfold opD at e
    dsimp only at e
    split at e
    · cases e; cases ra.int; cases rb.int
      exact op_sub pins s σ H _ _ v u Q I rx ry ⟨_, _, rfl, rfl, q.at_ C (.int _)⟩
    · cases e
  | mul =>
    unfold opD at e
    dsimp only at e
    split at e
    · split at e
      · rename_i hz
        cases e; cases ra.int; cases rb.int
        exact op_mul pins s σ H _ _ v u Q I rx ry ⟨_, _, rfl, rfl, hz, q.at_ C (.int _)⟩
      · cases e
    · split at e
      · rename_i hz
        cases e; cases rb.int
        obtain ⟨a1, xs, rfl, h1, t1⟩ := ra.lst
        exact repL pins s σ H _ _ v u Q I rx ry ⟨a1, _, xs, rfl, rfl, h1, hz.1, hz.2.1, by rw [t1.length]; exact hz.2.2, q.lst C (t1.rep _)⟩
      · cases e
    · split at e
      · rename_i hz
        cases e; cases rb.int
        obtain ⟨a1, xs, rfl, h1, t1⟩ := ra.tup
        exact op_repT pins s σ H _ _ v u Q I rx ry ⟨a1, _, xs, rfl, rfl, by rw [hK]; exact h1.sq, (fun z => by subst z; cases t1; exact hz.2.1 rfl), hz.2.2.1, hz.2.2.2, by rw [t1.length]; exact hz.1, q.tup C (t1.rep _)⟩
      · cases e
    · cases e
  | mod =>
    unfold opD at e
    dsimp only at e
    split at e
    · split at e
      · rename_i hz
        cases e; cases ra.int; cases rb.int
        exact op_mod pins s σ H _ _ v u Q I rx ry ⟨_, _, rfl, rfl, hz, q.at_ C (.int _)⟩
      · cases e
    · cases e
  | fdiv =>
    unfold opD at e
    dsimp only at e
    split at e
    · split at e
      · rename_i hz
        cases e; cases ra.int; cases rb.int
        exact op_fdiv pins s σ H _ _ v u Q I rx ry ⟨_, _, rfl, rfl, hz, q.at_ C (.int _)⟩
      · cases e
    · cases e
  | pow =>
    unfold opD at e
    dsimp only at e
    split at e
    · split at e
      · rename_i hz
        cases e; cases ra.int; cases rb.int
        exact op_pow pins s σ H _ _ v u Q I rx ry ⟨_, _, rfl, rfl, hz, q.at_ C (.int _)⟩
      · cases e
    · cases e
end
end Q
end
section
set_option maxHeartbeats 2000000
/-! # The Q layer, part 4: comparisons, places, slices, built-ins -/
namespace Q
open PySem PySem.Spec PyProof.Rows L2

/-! ### what == sees -/
section
variable {K : KP} {H : Hp} {L : Addr → Prop}
mutual
theorem Den.dp : ∀ {v : V} {d : D}, Den K H L v d → d.dat.canLay0 = true → Dp K.K H v d.dat
  | _, _, .non, _ => .non
  | _, _, .bl b, _ => .bl b
  | _, _, .int i, _ => .int i
  | _, _, .str x, _ => .str x
  | _, _, .tup h t, e => .tup h.sq (Dens.dp t (by simpa [D.dat, PyData.canLay0] using e))
  | _, _, .lst _ r t, e => .lst (.inl r) (Dens.dp t (by simpa [D.dat, PyData.canLay0] using e))
  | _, _, .dct _ _, e => absurd e (by simp [D.dat, PyData.canLay0])
theorem Dens.dp : ∀ {vs : List V} {ds : List D}, Dens K H L vs ds → PyData.canLayAll0 (D.dats ds) = true → DpAll K.K H vs (D.dats ds)
  | _, _, .nil, _ => .nil
  | _, _, .cons h t, e => by
    have e' := e
    simp only [D.dats, PyData.canLayAll0, Bool.and_eq_true] at e'
    exact .cons (Den.dp h e'.1) (Dens.dp t e'.2)
end
theorem RdV.dp {v : V} {d : D} (h : RdV K H L v d) (e : d.dat.canLay0 = true) : Dp K.K H v d.dat := by
  cases h with
  | den h => exact h.dp e
  | cel h t => exact .lst (.inl (.inl h)) (t.dp (by simpa [D.dat, PyData.canLay0] using e))
theorem flat_of {v : V} {d : D} (h : Den K H L v d) (e : flat d = true) : flatV v = true := by cases h <;> first | rfl | exact absurd e (by simp [flat])
theorem eqF_of {v u : V} {d e : D} (h : Den K H L v d) (k : Den K H L u e) (f : flat d = true) (g : flat e = true) : eqV v u = eqF d e := by
  cases h <;> cases k <;> first | rfl | exact absurd f (by simp [flat]) | exact absurd g (by simp [flat])
theorem flats_of : ∀ {vs : List V} {ds : List D}, Dens K H L vs ds → ds.all flat = true → vs.all flatV = true
  | _, _, .nil, _ => rfl
  | _, _, .cons h t, e => by
    simp only [List.all_cons, Bool.and_eq_true] at e ⊢
    exact ⟨flat_of h e.1, flats_of t e.2⟩
theorem anyF_of {u : V} {e : D} (k : Den K H L u e) (g : flat e = true) : ∀ {vs : List V} {ds : List D}, Dens K H L vs ds → ds.all flat = true → (vs.any fun y => eqV y u) = ds.any fun y => eqF y e
  | _, _, .nil, _ => rfl
  | _, _, .cons h t, f => by
    simp only [List.all_cons, Bool.and_eq_true] at f
    simp only [List.any_cons, eqF_of h k f.1 g, anyF_of k g t f.2]
theorem RdV.flat {v : V} {d : D} (h : RdV K H L v d) (e : Q.flat d = true) : Den K H L v d := by
  cases h with
  | den h => exact h
  | cel _ _ => exact absurd e (by simp [Q.flat])
/-! ### dicts -/
theorem getK_val : ∀ {ks : List Str} {xs : List V} {ds : List D} (x : Str), Dens K H L xs ds →
    (∀ d, getK ks ds x = some d → ∃ v, valV ((ks.map (Sum.inr : Str → Key)).zip xs) (.inr x) = some v ∧ Den K H L v d) ∧ (getK ks ds x = none → valV ((ks.map (Sum.inr : Str → Key)).zip xs) (.inr x) = none)
  | [], _, _, x, _ => ⟨fun d h => by simp [getK] at h, fun _ => by simp [valV]⟩
  | k :: ks, _, _, x, .nil => ⟨fun d h => by simp [getK] at h, fun _ => by simp [valV]⟩
  | k :: ks, _, _, x, .cons (v := v) (vs := vs) (d := d₀) (ds := ds) h t => by
    have ih := getK_val (ks := ks) x t
    by_cases e : k = x
    · subst e
      refine ⟨fun d hd => ⟨v, ?_, ?_⟩, fun hd => ?_⟩
      · simp [valV]
      · simp [getK] at hd; subst hd; exact h
      · simp [getK] at hd
    · have e1 : getK (k :: ks) (d₀ :: ds) x = getK ks ds x := by simp [getK, e]
      have e2 : valV (((k :: ks).map (Sum.inr : Str → Key)).zip (v :: vs)) (.inr x) = valV ((ks.map (Sum.inr : Str → Key)).zip vs) (.inr x) := by
        have : ¬ (Sum.inr k : Key) = Sum.inr x := fun q => e (Sum.inr.inj q)
        simp [valV, this]
      rw [e1, e2]
      exact ih
theorem getK_find : ∀ {ks : List Str} {xs : List V} {ds : List D} {es : List DictEntry} (x : Str), Dens K H L xs ds →
    Paired (fun (k : Str × V) (e : DictEntry) => (∃ t, e.key = .str k.1 t) ∧ RelV k.2 e.val) (ks.zip xs) es → ks.length = xs.length →
    (∀ d, getK ks ds x = some d → ∃ v u, (es.find? fun e => Value.isStrOf x e.key).map (·.val) = some u ∧ RelV v u ∧ Den K H L v d) ∧ (getK ks ds x = none → (es.find? fun e => Value.isStrOf x e.key).map (·.val) = none)
  | [], [], _, es, x, .nil, p, _ => by
    cases p
    exact ⟨fun d h => by simp [getK] at h, fun _ => rfl⟩
  | [], _ :: _, _, _, _, _, _, l => by simp at l
  | _ :: _, [], _, _, _, _, _, l => by simp at l
  | k :: ks, _, _, es, x, .cons (v := v) (vs := vs) (d := d₀) (ds := ds) h t, p, l => by
    cases p with
    | @cons _ e _ es' q r =>
      obtain ⟨⟨tk, ek⟩, rv⟩ := q
      have ih := getK_find x t r (by simpa using l)
      by_cases z : k = x
      · subst z
        refine ⟨fun d hd => ⟨v, e.val, ?_, rv, ?_⟩, fun hd => ?_⟩
        · simp [ek, Value.isStrOf]
        · simp [getK] at hd; subst hd; exact h
        · simp [getK] at hd
      · have e1 : getK (k :: ks) (d₀ :: ds) x = getK ks ds x := by simp [getK, z]
        have e2 : ((e :: es').find? fun e => Value.isStrOf x e.key) = es'.find? fun e => Value.isStrOf x e.key := by
          simp [ek, Value.isStrOf, z]
        rw [e1, e2]
        exact ih
end
section
variable {X : Cx} {K : KP} {pins : List (Addr × Obj)} {σ : L2.St} {H : Hp} {s : Shared} {L : Addr → Prop}
/-- the facts of a context that every rule here leans on -/
structure Ok0 (X : Cx) (K : KP) : Prop where
  hK : X.K = K.K
  hP : X.w.params = K.P
  u : X.A.units + 100 < cLine
  calm : X.calm = true
theorem Ok0.u64 (O : Ok0 X K) : X.A.units + 64 < cLine := by have := O.u; omega
theorem dictIn (I : Inv X pins σ H s) (O : Ok0 X K) {a : Addr} {ks : List Str} {xs : List V} {ds : List D} {x : Str} {t : Tok} (h : DctAt K H L a ks xs) (r : Dens K H L xs ds) (neg : Bool) {Q : VK} (q : Q (.bl (if neg then !(getK ks ds x).isSome else (getK ks ds x).isSome)) H) :
    wpAny (model X.prog X.w) X.A (compareOp (if neg then .NotIn else .In) (.str x t) (.ref a)) (EP X pins σ Q) X.xe s := by
  have hu : X.A.units + 1 < cLine := by have := O.u; omega
  rcases h with ⟨_, h, _, _⟩ | ⟨es, n, lk, hs, kl, p, l⟩
  · have g : DGet H a (.str x) (valV ((ks.map (Sum.inr : Str → Key)).zip xs) (.inr x)) := .inl ⟨_, .inr x, h, rfl, rfl⟩
    have e : (valV ((ks.map (Sum.inr : Str → Key)).zip xs) (.inr x)).isSome = (getK ks ds x).isSome := by
      cases z : getK ks ds x with
      | none => rw [(getK_val x r).2 z]; rfl
      | some d => obtain ⟨v, hv, _⟩ := (getK_val x r).1 d z; rw [hv]; rfl
    cases neg with
    | false => exact d_in hu I g ⟨t, rfl⟩ fun s' I' => ⟨.bl _, H, I', rfl, by rw [e]; exact q⟩
    | true => exact d_notIn hu I g ⟨t, rfl⟩ fun s' I' => ⟨.bl _, H, I', rfl, by rw [e]; exact q⟩
  · have hm := PySem.W.mapOf_K (prog := X.prog) (w := X.w) I.kIn (by rw [O.hK]; exact lk) (by rw [O.hP]; exact kl)
    have e : (PySem.findBy Value.isStrOf es x).isSome = (getK ks ds x).isSome := by
      obtain ⟨el⟩ := es
      unfold PySem.findBy
      rw [List.find?_toArray]
      cases z : getK ks ds x with
      | none => rw [(getK_find x r p l).2 z]; rfl
      | some d => obtain ⟨v, u, hv, _⟩ := (getK_find x r p l).1 d z; rw [hv]; rfl
    cases neg with
    | false => exact wpAny_in_of (strKind_is X.prog X.w x t) hs hm ⟨.bl _, H, I.tok _, rfl, by rw [e]; exact q⟩
    | true => exact wpAny_notIn_of (strKind_is X.prog X.w x t) hs hm ⟨.bl _, H, I.tok _, rfl, by rw [e]; exact q⟩
theorem dictGet (I : Inv X pins σ H s) (O : Ok0 X K) {a : Addr} {ks : List Str} {xs : List V} {ds : List D} {x : Str} {t : Tok} {d : D} (h : DctAt K H L a ks xs) (r : Dens K H L xs ds) (e : getK ks ds x = some d) {Q : VK} (q : ∀ v, Den K H L v d → Q v H) :
    wpAny (model X.prog X.w) X.A (getItem (.ref a) (.str x t)) (EP X pins σ Q) X.xe s := by
  have hu : X.A.units + 1 < cLine := by have := O.u; omega
  rcases h with ⟨_, h, _, _⟩ | ⟨es, n, lk, hs, kl, p, l⟩
  · obtain ⟨v, hv, dv⟩ := (getK_val x r).1 d e
    have g : DGet H a (.str x) (some v) := .inl ⟨_, .inr x, h, rfl, hv.symm⟩
    exact d_getItem hu I g ⟨t, rfl⟩ fun w' s' I' rv => ⟨v, H, I', rv, q v dv⟩
  · obtain ⟨v, u, hv, rv, dv⟩ := (getK_find x r p l).1 d e
    have hm := PySem.W.mapOf_K (prog := X.prog) (w := X.w) I.kIn (by rw [O.hK]; exact lk) (by rw [O.hP]; exact kl)
    refine wpAny_getItem_of (strKind_is X.prog X.w x t) hm (v := u) ?_ ⟨v, H, I.tok _, rv, q v dv⟩
    obtain ⟨el⟩ := es
    unfold PySem.findBy
    rw [List.find?_toArray]
    exact hv
theorem dictTy (I : Inv X pins σ H s) (O : Ok0 X K) {a : Addr} {ks : List Str} {xs : List V} (h : DctAt K H L a ks xs) : s.TypeIs (.ref a) "dict" := by
  rcases h with ⟨_, h, _, _⟩ | ⟨es, n, lk, hs, kl, p, l⟩
  · obtain ⟨_, _, vs, _, dd⟩ := dk_rd I.hok h
    exact dd.mapOf.typeIs
  · exact (PySem.W.mapOf_K (prog := X.prog) (w := X.w) I.kIn (by rw [O.hK]; exact lk) (by rw [O.hP]; exact kl)).typeIs
end

def pyCmp : Cmp → CmpOp
  | .eq => .Eq
  | .ne => .NotEq
  | .lt => .Lt
  | .le => .LtE
  | .gt => .Gt
  | .ge => .GtE
  | .isN => .Is
  | .notN => .IsNot
  | .isT => .Is
  | .notT => .IsNot
  | .in_ => .In
  | .notIn => .NotIn
def rCmp (K : KP) (o : Cmp) : R2 := fun x y H Q => ∃ α c a b k, Cel K α c H ∧ RdV K H (Hid α c) x a ∧ RdV K H (Hid α c) y b ∧ cmpD o a b = some k ∧ Q (.bl k) H
section
variable {X : Cx} {K : KP}
theorem isNon_iff {H : Hp} {L : Addr → Prop} {v : V} {d : D} (h : RdV K H L v d) : decide (v = .non) = isNon d := by
  cases h with
  | den h => cases h <;> rfl
  | cel _ _ => rfl
theorem inR (O : Ok0 X K) (neg : Bool) : OpR X (compareOp (if neg then .NotIn else .In)) (fun x y H Q => ∃ α c a b k, Cel K α c H ∧ RdV K H (Hid α c) x a ∧ RdV K H (Hid α c) y b ∧ inD a b = some k ∧ Q (.bl (if neg then !k else k)) H) := by
  rintro pins s σ H x y v u Q I rx ry ⟨α, c, a, b, k, C, ra, rb, e, q⟩
  unfold inD at e
  split at e
  · rename_i ys
    unfold inF at e
    split at e
    · rename_i hf
      cases e
      obtain ⟨p, xs, rfl, h1, t1⟩ := rb.tup
      have da := ra.flat hf.1
      have ev : inV x xs = ys.any fun y => eqF y a := anyF_of da hf.1 t1 hf.2
      cases neg with
      | false => exact op_in_seq pins s σ H _ _ v u Q I rx ry ⟨p, xs, rfl, .inr (by rw [O.hK]; exact h1.sq), flat_of da hf.1, flats_of t1 hf.2, by rw [ev]; exact q⟩
      | true => exact op_notIn_seq pins s σ H _ _ v u Q I rx ry ⟨p, xs, rfl, .inr (by rw [O.hK]; exact h1.sq), flat_of da hf.1, flats_of t1 hf.2, by rw [ev]; exact q⟩
    · cases e
  · rename_i ys
    unfold inF at e
    split at e
    · rename_i hf
      cases e
      obtain ⟨p, xs, rfl, h1, t1⟩ := rb.lst
      have da := ra.flat hf.1
      have ev : inV x xs = ys.any fun y => eqF y a := anyF_of da hf.1 t1 hf.2
      cases neg with
      | false => exact op_in_seq pins s σ H _ _ v u Q I rx ry ⟨p, xs, rfl, .inl (.inl h1), flat_of da hf.1, flats_of t1 hf.2, by rw [ev]; exact q⟩
      | true => exact op_notIn_seq pins s σ H _ _ v u Q I rx ry ⟨p, xs, rfl, .inl (.inl h1), flat_of da hf.1, flats_of t1 hf.2, by rw [ev]; exact q⟩
    · cases e
  · split at e
    · cases e
      cases ra.str
      cases rb.str
      cases neg with
      | false => exact op_in_str pins s σ H _ _ v u Q I rx ry ⟨_, _, rfl, rfl, q⟩
      | true => exact op_notin_str pins s σ H _ _ v u Q I rx ry ⟨_, _, rfl, rfl, q⟩
    · cases e
  · split at e
    · cases e
      cases ra.str
      obtain ⟨t, rfl⟩ := rx
      obtain ⟨p, xs, rfl, h1, t1⟩ := rb.dct
      obtain rfl : u = .ref p := ry
      exact dictIn I O h1 t1 neg q
    · cases e
  · cases e
theorem cmpR (O : Ok0 X K) (o : Cmp) : OpR X (compareOp (pyCmp o)) (rCmp K o) := by
  rintro pins s σ H x y v u Q I rx ry ⟨α, c, a, b, k, C, ra, rb, e, q⟩
  cases o with
  | eq =>
    unfold cmpD at e
    dsimp only at e
    unfold eqD at e
    split at e
    · rename_i hs
      cases e
      exact op_eqD O.u64 pins s σ H _ _ v u Q I rx ry ⟨_, _, by rw [O.hK]; exact ra.dp (SeqAt.canLay_of_shaped hs.1), by rw [O.hK]; exact rb.dp (SeqAt.canLay_of_shaped hs.2), hs.1, hs.2, q⟩
    · cases e
  | ne =>
    unfold cmpD at e
    dsimp only at e
    unfold eqD at e
    split at e
    · rename_i hs
      cases e
      exact op_neD O.u64 pins s σ H _ _ v u Q I rx ry ⟨_, _, by rw [O.hK]; exact ra.dp (SeqAt.canLay_of_shaped hs.1), by rw [O.hK]; exact rb.dp (SeqAt.canLay_of_shaped hs.2), hs.1, hs.2, q⟩
    · cases e
  | lt =>
    unfold cmpD at e
    dsimp only at e
    split at e
    · cases e; cases ra.int; cases rb.int
      exact op_lt pins s σ H _ _ v u Q I rx ry ⟨_, _, rfl, rfl, q⟩
    · cases e; cases ra.str; cases rb.str
      exact op_lt_str pins s σ H _ _ v u Q I rx ry ⟨_, _, rfl, rfl, q⟩
    · cases e
  | le =>
    unfold cmpD at e
    dsimp only at e
    split at e
    · cases e; cases ra.int; cases rb.int
      exact op_le pins s σ H _ _ v u Q I rx ry ⟨_, _, rfl, rfl, q⟩
    · cases e; cases ra.str; cases rb.str
      exact op_le_str pins s σ H _ _ v u Q I rx ry ⟨_, _, rfl, rfl, q⟩
    · cases e
  | gt =>
    unfold cmpD at e
    dsimp only at e
    split at e
    · cases e; cases ra.int; cases rb.int
      exact op_gt pins s σ H _ _ v u Q I rx ry ⟨_, _, rfl, rfl, q⟩
    · cases e; cases ra.str; cases rb.str
      exact op_gt_str pins s σ H _ _ v u Q I rx ry ⟨_, _, rfl, rfl, q⟩
    · cases e
  | ge =>
    unfold cmpD at e
    dsimp only at e
    split at e
    · cases e; cases ra.int; cases rb.int
      exact op_ge pins s σ H _ _ v u Q I rx ry ⟨_, _, rfl, rfl, q⟩
    · cases e; cases ra.str; cases rb.str
      exact op_ge_str pins s σ H _ _ v u Q I rx ry ⟨_, _, rfl, rfl, q⟩
    · cases e
  | isN =>
    unfold cmpD at e
    dsimp only at e
    split at e
    · rename_i hb
      cases e
      obtain rfl : b = .non := by cases b <;> first | rfl | exact absurd hb (by simp [isNon])
      cases rb.non
      exact op_isN pins s σ H _ _ v u Q I rx ry ⟨rfl, by rw [isNon_iff ra]; exact q⟩
    · cases e
  | notN =>
    unfold cmpD at e
    dsimp only at e
    split at e
    · rename_i hb
      cases e
      obtain rfl : b = .non := by cases b <;> first | rfl | exact absurd hb (by simp [isNon])
      cases rb.non
      exact op_notN pins s σ H _ _ v u Q I rx ry ⟨rfl, by rw [isNon_iff ra]; exact q⟩
    · cases e
  | isT =>
    unfold cmpD at e
    dsimp only at e
    split at e
    · cases e; cases ra.bl; cases rb.bl
      exact op_isBl pins s σ H _ _ v u Q I rx ry ⟨_, _, rfl, rfl, by cases k <;> exact q⟩
    · cases e
  | notT =>
    unfold cmpD at e
    dsimp only at e
    split at e
    · cases e; cases ra.bl; cases rb.bl
      exact op_notBl pins s σ H _ _ v u Q I rx ry ⟨_, _, rfl, rfl, by rw [show ∀ z : Bool, decide (z = true) = z from fun z => by cases z <;> rfl]; exact q⟩
    · cases e
  | in_ => exact inR O false pins s σ H x y v u Q I rx ry ⟨α, c, a, b, k, C, ra, rb, e, q⟩
  | notIn =>
    unfold cmpD at e
    dsimp only at e
    cases z : inD a b with
    | none => rw [z] at e; cases e
    | some k' =>
      rw [z] at e
      cases e
      exact inR O true pins s σ H x y v u Q I rx ry ⟨α, c, a, b, k', C, ra, rb, z, q⟩
end
end Q
end
section
set_option autoImplicit false
set_option maxHeartbeats 2000000
/-! # The Q layer, part 5: places, slices, built-in functions -/
namespace Q
open PySem PySem.Spec PyProof.Rows L2

section
variable {X : Cx} {K : KP}
theorem idxR (O : Ok0 X K) : IxR X (rBin K idxD) := by
  rintro value slice pins s σ H x y v u Q I rx ry ⟨α, c, a, b, d, C, ra, rb, e, q⟩ hs
  unfold idxD at e
  split at e
  · cases rb.int
    obtain ⟨p, xs, rfl, h1, t1⟩ := ra.tup
    obtain ⟨w, h2, dw⟩ := t1.at_ e
    exact ix_tup value slice pins s σ H _ _ v u Q I rx ry ⟨p, xs, _, w, rfl, rfl, by rw [O.hK]; exact h1.sq, h2, q.at_ C dw⟩ hs
  · cases rb.int
    obtain ⟨p, xs, rfl, h1, t1⟩ := ra.lst
    obtain ⟨w, h2, dw⟩ := t1.at_ e
    exact ix_list value slice pins s σ H _ _ v u Q I rx ry ⟨p, xs, _, w, rfl, rfl, .inl h1, h2, q.at_ C dw⟩ hs
  · split at e
    · rename_i z j hz
      cases ra.str
      cases rb.int
      cases h : atI z.cps.toList j with
      | none => rw [h] at e; cases e
      | some t =>
        rw [h] at e
        cases e
        exact ix_str value slice pins s σ H _ _ v u Q I rx ry ⟨z, j, t, rfl, rfl, hz, h, q.at_ C (.str _)⟩ hs
    · cases e
  · cases rb.str
    obtain ⟨t, rfl⟩ := ry
    obtain ⟨p, xs, rfl, h1, t1⟩ := ra.dct
    obtain rfl : v = .ref p := rx
    exact tail_any (dictTy I O h1) slot_dict_getitem.lookup (dictGet I O h1 t1 e fun w dw => q.at_ C dw) hs
  · cases e
/-- a slice, by what its source reads as -/
def rSlc (K : KP) : V → Option Int → Option Int → Hp → VK → Prop := fun x lo hi H Q => ∃ α c a d, Cel K α c H ∧ RdV K H (Hid α c) x a ∧ slcD a lo hi = some d ∧ Ret K α c H Q d
theorem slcR (O : Ok0 X K) : SlR X (rSlc K) := by
  rintro pins s σ H x v vl vu lo hi sl Q I rx hsl pl pu ⟨α, c, a, d, C, ra, e, q⟩
  unfold slcD at e
  split at e
  · cases e
    obtain ⟨p, xs, rfl, h1, t1⟩ := ra.tup
    refine sl_tupA pins s σ H _ v vl vu lo hi sl Q I rx hsl pl pu ⟨p, xs, rfl, by rw [O.hK]; exact h1.sq, fun z => ?_, fun _ => q.tup C (t1.cut lo hi)⟩
    refine q.at_ C (.tup h1 ?_)
    have hc := t1.cut lo hi
    have : cutV xs lo hi = xs := by unfold cutV; rw [z.1, z.2]; simp
    rw [this] at hc
    exact hc
  · cases e
    obtain ⟨p, xs, rfl, h1, t1⟩ := ra.lst
    exact sl_list pins s σ H _ v vl vu lo hi sl Q I rx hsl pl pu ⟨p, xs, rfl, .inl h1, q.lst C (t1.cut lo hi)⟩
  · cases e

/-! ### isinstance -/
def tyName : Ty → String
  | .int => "int"
  | .str => "str"
  | .bool => "bool"
  | .tuple => "tuple"
  | .list => "list"
def rIsT (K : KP) (t : Ty) : List V → Hp → VK → Prop := fun xs H Q => ∃ α c x a k, xs = [x, .ty (tyName t)] ∧ Cel K α c H ∧ RdV K H (Hid α c) x a ∧ tyD t a = some k ∧ Q (.bl k) H
theorem tyx_of {H : Hp} {L : Addr → Prop} {v : V} {ds : List D} (h : RdV K H L v (.tup ds)) : TyX K.K H v (.type "tuple") := by
  obtain ⟨p, xs, rfl, h, _⟩ := h.tup
  rcases h with ⟨_, h | ⟨o, h⟩⟩ | ⟨o, its, n, lk, hc, _⟩
  · exact .base (.tup h)
  · exact .fTuple h
  · exact .kTuple lk hc
theorem isR (O : Ok0 X K) (t : Ty) : CallR X (.builtin "isinstance") (rIsT K t) := by
  rintro pins s σ H xs us Q I r ⟨α, c, x, a, k, rfl, C, ra, e, q⟩
  have fin : ∀ n b, TyX K.K H x (.type n) → kitB n (tyName t) = some b → b = k → wpAny (model X.prog X.w) X.A (call (.builtin "isinstance") us) (EP X pins σ Q) X.xe s := fun n b h1 h2 h3 =>
    call_isi pins s σ H _ us Q I r ⟨x, _, .type n, .type (tyName t), b, rfl, .ty _, by rw [O.hK]; exact h1, by rw [O.hK]; exact kit_ty h2, by rw [h3]; exact q⟩
  unfold tyD at e
  split at e
  · cases e; cases ra.non
    exact fin "NoneType" false (.base .non) (by cases t <;> decide +kernel) rfl
  · cases e; cases ra.bl
    exact fin "bool" _ (.base (.bl _)) (by cases t <;> decide +kernel) rfl
  · cases e; cases ra.int
    exact fin "int" _ (.base (.int _)) (by cases t <;> decide +kernel) rfl
  · cases e; cases ra.str
    exact fin "str" _ (.base (.str _)) (by cases t <;> decide +kernel) rfl
  · cases e
    exact fin "tuple" _ (tyx_of ra) (by cases t <;> decide +kernel) rfl
  · cases e
    obtain ⟨p, xs, rfl, h, _⟩ := ra.lst
    rcases h with h | ⟨o, h⟩
    · exact fin "list" _ (.base (.lst h)) (by cases t <;> decide +kernel) rfl
    · exact fin "list" _ (.base (.frz h)) (by cases t <;> decide +kernel) rfl
  · cases e

/-! ### sorted -/
end
/-- sorted(x), x a list or a tuple that is read -/
theorem sorted_seq {prog : Program} {w : World} {A : Around} {E : Value → Shared → Prop} {s : Shared} {l : Addr} {T : String} {o : Obj} {vs : List Value} {n : Nat} {β : Type} {bs : List β} {enc : β → PyData} {R : Value → β → Prop} {Q : Value → Shared → Prop}
    (hT : T = "list" ∨ T = "tuple") (ho : s.heap.get? l = some o) (hc : o.cls = .type T) (hd : o.data = .seq vs.toArray n)
    (e : PySem.W.EachIs R vs bs) (er : PySem.W.EachIs (fun v b => ∃ as, Reads s.heap v (enc b) as) vs bs) (hal : PySem.W.AllAlike (bs.map enc)) (hk : PySem.W.Sortable (bs.map enc)) (hL : bs.length ≤ sizeLine)
    (hu : ∀ b, b ∈ bs → A.units + 2 + (enc b).depth < cLine)
    (h : ∀ (out : List Value) (h' : Heap) (a k : Nat), out.length = bs.length → PySem.W.EachIs R out (bs.mergeSort (PySem.W.dataLe false enc)) → (∀ b o', s.heap.get? b = some o' → h'.get? b = some o') → s.heap.get? a = none → h'.get? a = some { cls := .type "list", data := .seq out.toArray k } → Q (.ref a) { s with heap := h' }) :
    wpAny (model prog w) A (call (.builtin "sorted") [.ref l]) Q E s := by
  have hlen : vs.length ≤ sizeLine := by rw [e.length]; exact hL
  refine call_function_entry_kw kind_sorted plain_sorted entry_sorted (args_sorted1 _) ?_
  unfold Builtin.«sorted»
  refine wpAny_bind (m := checkCount "sorted" 1 1 _) (wpAny_pure ?_)
  refine wpAny_bind (wpAny_collect_seq l hT ho hc hd (fun h1 k1 => ?_) (hsz := by simpa using hlen))
  refine wpAny_bind (wpAny_newList ?_ (by simpa using hlen))
  have e0 : vs.toArray.toList = vs := by simp
  rw [e0]
  have at1 : (h1.push (seqObj "list" vs.toArray 0)).get? h1.objs.size = some (seqObj "list" vs.toArray 0) := Heap.get?_push_size _ rfl
  have k2 : ∀ b o', s.heap.get? b = some o' → (h1.push (seqObj "list" vs.toArray 0)).get? b = some o' := fun b o' z => Heap.get?_push_of_some _ (k1 b o' z)
  have ne : ∀ b o', s.heap.get? b = some o' → b ≠ h1.objs.size := fun b o' z => Nat.ne_of_lt (Heap.lt_size (k1 b o' z))
  refine wpAny_bind (wpAny_holding (wpAny_call_entry_kw slot_list_sort ⟨_, at1, rfl⟩ entry_list_sort ?body (args_list_sort _)))
  case body =>
    have er2 : PySem.W.EachIs (fun v b => ∃ as, Reads (PySem.W.sortingHeap (h1.push (seqObj "list" vs.toArray 0)) h1.objs.size vs) v (enc b) as) vs bs :=
      er.mono fun v b ⟨as, z⟩ => ⟨as, PyProof.Rows.Reads.keeps (fun x o' hx => PySem.W.sortingHeap_old (ne x o' hx) (k2 x o' hx)) z⟩
    have eu : A.in1.in1.units = A.units + 2 := rfl
    have S : PySem.W.SortsAt prog w A.in1.in1 { s with heap := PySem.W.sortingHeap (h1.push (seqObj "list" vs.toArray 0)) h1.objs.size vs } (PySem.W.dataKind (PySem.W.sortingHeap (h1.push (seqObj "list" vs.toArray 0)) h1.objs.size vs) (bs.map enc)) vs :=
      PySem.W.SortsAt.data (s := { s with heap := PySem.W.sortingHeap (h1.push (seqObj "list" vs.toArray 0)) h1.objs.size vs }) (PySem.W.each_map (R := fun v d => ∃ as, Reads (PySem.W.sortingHeap (h1.push (seqObj "list" vs.toArray 0)) h1.objs.size vs) v d as) enc er2) hal hk
        (PySem.W.bound_map (A := A.in1.in1) fun b hb => by rw [eu]; exact hu b hb)
    refine PySem.W.list_sort_vals (s := { s with heap := h1.push (seqObj "list" vs.toArray 0) }) at1 S hlen ?_
    obtain ⟨k, hk'⟩ := sortedHeap_at (vs := vs) (out := (PySem.W.sortVals (PySem.W.dataKind (PySem.W.sortingHeap (h1.push (seqObj "list" vs.toArray 0)) h1.objs.size vs) (bs.map enc)) false vs vs).toArray) at1
    refine ⟨_, rfl, wpAny_pure ⟨_, rfl, h _ _ _ k (by rw [PySem.W.sortVals_length false rfl]; exact e.length) (PySem.W.sortVals_data false e er2 hal) (fun b o' z => ?_) ?_ hk'⟩⟩
    · rw [sortedHeap_old (ne b o' z) (Heap.lt_size (k2 b o' z))]
      exact k2 b o' z
    · cases z : s.heap.get? h1.objs.size with
      | none => rfl
      | some o' => exact absurd rfl (ne _ o' z)

/-! ### built-in functions -/
inductive RdVs (K : KP) (H : Hp) (L : Addr → Prop) : List V → List D → Prop
  | nil : RdVs K H L [] []
  | cons {v : V} {vs : List V} {d : D} {ds : List D} : RdV K H L v d → RdVs K H L vs ds → RdVs K H L (v :: vs) (d :: ds)
section
variable {X : Cx} {K : KP}
theorem RdVs.one {H : Hp} {L : Addr → Prop} {xs : List V} {d : D} (h : RdVs K H L xs [d]) : ∃ x, xs = [x] ∧ RdV K H L x d := by
  cases h with | cons h t => cases t; exact ⟨_, rfl, h⟩
theorem RdVs.two {H : Hp} {L : Addr → Prop} {xs : List V} {d e : D} (h : RdVs K H L xs [d, e]) : ∃ x y, xs = [x, y] ∧ RdV K H L x d ∧ RdV K H L y e := by
  cases h with | cons h t => cases t with | cons k t => cases t; exact ⟨_, _, rfl, h, k⟩
def rBlt (K : KP) (f : Blt) : List V → Hp → VK → Prop := fun xs H Q => ∃ α c ds d, Cel K α c H ∧ RdVs K H (Hid α c) xs ds ∧ bltD f ds = some d ∧ Ret K α c H Q d
/-- a list or a tuple that is read -/
theorem items_of {H : Hp} {L : Addr → Prop} {v : V} {d : D} {ds : List D} (h : RdV K H L v d) (e : itemsD d = some ds) :
    ∃ a xs, v = .ref a ∧ Dens K H L xs ds ∧ ((d = .lst ds ∧ Rd H a (.lst xs)) ∨ (d = .tup ds ∧ TupAt K H L a xs)) := by
  unfold itemsD at e
  split at e
  · cases e
    obtain ⟨a, xs, rfl, h1, t⟩ := h.tup
    exact ⟨a, xs, rfl, t, .inr ⟨rfl, h1⟩⟩
  · cases e
    obtain ⟨a, xs, rfl, h1, t⟩ := h.lst
    exact ⟨a, xs, rfl, t, .inl ⟨rfl, h1⟩⟩
  · cases e
/-- value, V and D side by side -/
inductive Tri (K : KP) (H : Hp) (L : Addr → Prop) : Value → D → Prop
  | mk {u : Value} {v : V} {d : D} : RelV v u → Den K H L v d → Tri K H L u d
theorem tri_all {H : Hp} {L : Addr → Prop} : ∀ {us : List Value} {vs : List V} {ds : List D}, Vals vs us → Dens K H L vs ds → PySem.W.EachIs (Tri K H L) us ds
  | _, _, _, .nil, .nil => .nil
  | _, _, _, .cons r t, .cons h s => .cons ⟨r, h⟩ (tri_all t s)
theorem tri_back {H : Hp} {L : Addr → Prop} : ∀ {us : List Value} {ds : List D}, PySem.W.EachIs (Tri K H L) us ds → ∃ vs, Vals vs us ∧ Dens K H L vs ds
  | _, _, .nil => ⟨[], .nil, .nil⟩
  | _, _, .cons h t => by
    obtain ⟨r, d⟩ := h
    obtain ⟨vs, r', d'⟩ := tri_back t
    exact ⟨_ :: vs, .cons r r', .cons d d'⟩
theorem dats_map (ds : List D) : D.dats ds = ds.map D.dat := by
  induction ds with
  | nil => rfl
  | cons d r ih => simp [D.dats, ih]
theorem reads_all {H : Hp} {L : Addr → Prop} {s : Shared} {pins : List (Addr × Obj)} {σ : L2.St} (O : Ok0 X K) (I : Inv X pins σ H s) : ∀ {us : List Value} {ds : List D}, PySem.W.EachIs (Tri K H L) us ds → (∀ d ∈ ds, d.dat.canLay0 = true) → PySem.W.EachIs (fun v b => ∃ as, Reads s.heap v (D.dat b) as) us ds
  | _, _, .nil, _ => .nil
  | _, _, .cons h t, hc => by
    obtain ⟨r, d⟩ := h
    refine .cons ?_ (reads_all O I t fun d hd => hc d (.tail _ hd))
    have q := d.dp (hc _ (.head _))
    rw [← O.hK] at q
    exact Dp.reads I _ _ _ q r
theorem allB_of {H : Hp} {L : Addr → Prop} : ∀ {xs : List V} {ds : List D} {k : Bool}, Dens K H L xs ds → allB ds = some k → ∃ bs : List Bool, xs = bs.map V.bl ∧ bs.all id = k
  | _, _, _, .nil, e => by
    cases e
    exact ⟨[], rfl, rfl⟩
  | _, _, k, .cons (d := d) (ds := ds) h t, e => by
    cases d with
    | bl b =>
      cases h
      unfold allB at e
      cases z : allB ds with
      | none => rw [z] at e; cases e
      | some k' =>
        rw [z] at e
        cases e
        obtain ⟨bs, rfl, hb⟩ := allB_of t z
        exact ⟨b :: bs, rfl, by simp [hb]⟩
    | _ => unfold allB at e; cases e
theorem sumI_of {H : Hp} {L : Addr → Prop} : ∀ {xs : List V} {ds : List D}, Dens K H L xs ds → (ds.all fun d => match d with | .int _ => true | _ => false) = true →
    xs = (ds.map fun d => match d with | .int i => i | _ => (0 : Int)).map V.int
  | _, _, .nil, _ => rfl
  | _, _, .cons (d := d) h t, e => by
    simp only [List.all_cons, Bool.and_eq_true] at e
    cases d with
    | int i =>
      cases h
      simp only [List.map_cons]
      exact congrArg (_ :: ·) (sumI_of t e.2)
    | _ => exact absurd e.1 (by simp)
theorem alike_of {xs : List D} (h : okSort xs = true) : PySem.W.AllAlike (xs.map D.dat) ∧ PySem.W.Sortable (xs.map D.dat) ∧ xs.length ≤ sizeLine ∧ ∀ d ∈ xs, SeqAt.shaped d.dat = true := by
  unfold okSort at h
  simp only [Bool.and_eq_true, Bool.or_eq_true, decide_eq_true_eq] at h
  obtain ⟨⟨⟨h1, h2⟩, h3⟩, h4⟩ := h
  refine ⟨?_, ?_, h2, fun d hd => List.all_eq_true.mp h3 d hd⟩
  · intro d hd e he
    obtain ⟨a, ha, rfl⟩ := List.mem_map.mp hd
    obtain ⟨b, hb, rfl⟩ := List.mem_map.mp he
    exact List.all_eq_true.mp (List.all_eq_true.mp h1 a ha) b hb
  · rcases h4 with h4 | h4
    · refine .inl fun d hd => ?_
      obtain ⟨a, ha, rfl⟩ := List.mem_map.mp hd
      have q := List.all_eq_true.mp h4 a ha
      cases a with
      | tup l =>
        cases l with
        | nil => simp at q
        | cons x r => exact ⟨x.dat, D.dats r, by simp [D.dat, D.dats]⟩
      | _ => simp at q
    · refine .inr fun d hd => ?_
      obtain ⟨a, ha, rfl⟩ := List.mem_map.mp hd
      have q := List.all_eq_true.mp h4 a ha
      cases a <;> simp [D.dat] at q ⊢
def bltV : Blt → Value
  | .len => .builtin "len"
  | .int => .type "int"
  | .all => .builtin "all"
  | .tuple => .type "tuple"
  | .list => .type "list"
  | .sorted => .builtin "sorted"
  | .min => .builtin "min"
  | .sum => .builtin "sum"
theorem bltR (O : Ok0 X K) (f : Blt) : CallR X (bltV f) (rBlt K f) := by
  rintro pins s σ H xs us Q I r ⟨α, c, ds, d, C, rs, e, q⟩
  unfold bltD at e
  split at e
  · rename_i d₀
    obtain ⟨x, rfl, ra⟩ := rs.one
    cases d₀ with
    | str z =>
      cases ra.str
      unfold lenD at e
      dsimp only at e
      split at e
      · rename_i hz
        cases e
        exact call_len pins s σ H _ us Q I r ⟨_, z.length, rfl, ⟨hz, rfl⟩, q.at_ C (.int _)⟩
      · cases e
    | tup ys =>
      cases e
      obtain ⟨a, xs, rfl, h1, t⟩ := ra.tup
      exact call_len pins s σ H _ us Q I r ⟨_, ys.length, rfl, .inr ⟨xs, by rw [O.hK]; exact h1.sq, t.length.symm⟩, q.at_ C (.int _)⟩
    | lst ys =>
      cases e
      obtain ⟨a, xs, rfl, h1, t⟩ := ra.lst
      exact call_len pins s σ H _ us Q I r ⟨_, ys.length, rfl, .inl ⟨xs, .inl h1, t.length.symm⟩, q.at_ C (.int _)⟩
    | _ => cases e
  · cases e
    obtain ⟨x, rfl, ra⟩ := rs.one
    cases ra.int
    exact call_int1 pins s σ H _ us Q I r (.inl ⟨_, rfl, q.at_ C (.int _)⟩)
  · cases e
    obtain ⟨x, rfl, ra⟩ := rs.one
    cases ra.bl
    exact call_int1 pins s σ H _ us Q I r (.inr ⟨_, rfl, q.at_ C (.int _)⟩)
  · rename_i ys
    obtain ⟨x, rfl, ra⟩ := rs.one
    obtain ⟨a, xs, rfl, h1, t⟩ := ra.lst
    cases z : allB ys with
    | none => rw [z] at e; cases e
    | some k =>
      rw [z] at e
      cases e
      obtain ⟨bs, rfl, hb⟩ := allB_of t z
      exact cr_all O.calm pins s σ H _ us Q I r ⟨a, bs, rfl, .inl h1, by rw [hb]; exact q.at_ C (.bl _)⟩
  · rename_i d₀
    obtain ⟨x, rfl, ra⟩ := rs.one
    cases z : itemsD d₀ with
    | none => rw [z] at e; cases e
    | some ys =>
      rw [z] at e
      cases e
      obtain ⟨a, xs, rfl, t, h | h⟩ := items_of ra z
      · exact call_tuple_of pins s σ H _ us Q I r ⟨a, xs, rfl, .inl ⟨.inl h.2, q.tup C t⟩⟩
      · exact call_tuple_of pins s σ H _ us Q I r ⟨a, xs, rfl, .inr ⟨by rw [O.hK]; exact h.2.sq, q.at_ C (.tup h.2 t)⟩⟩
  · rename_i d₀
    obtain ⟨x, rfl, ra⟩ := rs.one
    cases z : itemsD d₀ with
    | none => rw [z] at e; cases e
    | some ys =>
      rw [z] at e
      cases e
      obtain ⟨a, xs, rfl, t, h | h⟩ := items_of ra z
      · exact call_list_of pins s σ H _ us Q I r ⟨a, xs, rfl, .inl (.inl h.2), q.lst C t⟩
      · exact call_list_of pins s σ H _ us Q I r ⟨a, xs, rfl, .inr (by rw [O.hK]; exact h.2.sq), q.lst C t⟩
  · rename_i d₀
    obtain ⟨x, rfl, ra⟩ := rs.one
    cases z : itemsD d₀ with
    | none => rw [z] at e; cases e
    | some ys =>
      rw [z] at e
      dsimp only [Option.bind_some] at e
      unfold sortD at e
      split at e
      · rename_i hok
        cases e
        obtain ⟨h1, h2, h3, h4⟩ := alike_of hok
        obtain ⟨a, xs, rfl, t, h⟩ := items_of ra z
        rw [Vals.ref1 r]
        obtain ⟨its, T, o, n, rv, hT, ho, hc, hd⟩ : ∃ (its : List Value) (T : String) (o : Obj) (n : Nat), Vals xs its ∧ (T = "list" ∨ T = "tuple") ∧ s.heap.get? a = some o ∧ o.cls = .type T ∧ o.data = .seq its.toArray n := by
          rcases h with h | h
          · obtain ⟨_, its, n, rv, _, ho⟩ := lstR I h.2
            exact ⟨its, "list", _, n, rv, .inl rfl, ho, rfl, rfl⟩
          · obtain ⟨its, rv, ⟨o, ho, hc, n, hd⟩, _⟩ := I.tuple (by rw [O.hK]; exact h.2.sq)
            exact ⟨its, "tuple", o, n, rv, .inr rfl, ho, hc, hd⟩
        have tr := tri_all (K := K) rv t
        refine sorted_seq hT ho hc hd tr (reads_all O I tr fun d hd => SeqAt.canLay_of_shaped (h4 d hd)) h1 h2 h3 (fun b hb => ?_) fun out h' p k hl eo kp np hp => ?_
        · have q1 := SeqAt.depth_of_shaped (h4 b hb)
          have q2 := O.u
          omega
        · obtain ⟨vs, rvs, dvs⟩ := tri_back eo
          have hn : H p = none := HOk.gone I.hok np
          refine ⟨.ref p, upd H p (.lst vs), Inv.laidN (t' := s.toks) I kp np hn ⟨?_, out, k, rvs, hp⟩, rfl, q.lst C dvs p hn⟩
          rw [rvs.length, hl]
          exact h3
      · cases e
  · cases e
    obtain ⟨x, y, rfl, ra, rb⟩ := rs.two
    cases ra.int
    cases rb.int
    exact call_min2 O.calm pins s σ H _ us Q I r ⟨_, _, rfl, q.at_ C (.int _)⟩
  · rename_i ys
    obtain ⟨x, rfl, ra⟩ := rs.one
    split at e
    · rename_i hs
      cases e
      obtain ⟨a, xs, rfl, h1, t⟩ := ra.lst
      have q1 := sumI_of t hs
      subst q1
      exact cr_sum O.calm pins s σ H _ us Q I r ⟨a, _, rfl, .inl h1, q.at_ C (.int _)⟩
    · cases e
  · cases e
end
end Q
end
section
set_option autoImplicit false
set_option maxHeartbeats 2000000
/-! # The Q layer, part 6: a piece of syntax refines an evaluator's function -/
namespace Q
open PySem PySem.Spec PyProof.Rows L2

/-- what follows a result -/
def Out {A : Type} (K : KP) (r : Res A) (α : AL) (c : Cells) (H : Hp) (k : A → AL → Cells → Hp → Prop) (x : Exc → AL → Cells → Hp → Prop) : Prop :=
  match r with
  | .ok a c' => ∀ α' H', Stp K α c H α' c' H' → k a α' c' H'
  | .exc e c' => ∀ α' H', Stp K α c H α' c' H' → x e α' c' H'
  | .bad => False
section
variable {A B : Type} {K : KP} {α α' : AL} {c c' : Cells} {H H' : Hp} {k k' : A → AL → Cells → Hp → Prop} {x x' : Exc → AL → Cells → Hp → Prop}
theorem Out.imp {r : Res A} (h : Out K r α c H k x) (f : ∀ a α' c' H', r = .ok a c' → Stp K α c H α' c' H' → k a α' c' H' → k' a α' c' H') (g : ∀ e α' c' H', Stp K α c H α' c' H' → x e α' c' H' → x' e α' c' H') : Out K r α c H k' x' := by
  cases r with
  | ok a c' => exact fun α' H' s => f a α' c' H' rfl s (h α' H' s)
  | exc e c' => exact fun α' H' s => g e α' c' H' s (h α' H' s)
  | bad => exact h
/-- .. where the exceptions' end stays -/
theorem Out.thn {r : Res A} (h : Out K r α c H k x) (f : ∀ a α' c' H', Stp K α c H α' c' H' → k a α' c' H' → k' a α' c' H') : Out K r α c H k' x :=
  h.imp (fun a α' c' H' _ s q => f a α' c' H' s q) fun _ _ _ _ _ q => q
theorem Out.bind {r : Res A} {f : A → Cells → Res B} {k : B → AL → Cells → Hp → Prop} (h : Out K (r.bind f) α c H k x) : Out K r α c H (fun a α' c' H' => Out K (f a c') α' c' H' k x) x := by
  cases r with
  | ok a c' =>
    intro α' H' s
    have h' : Out K (f a c') α c H k x := h
    show Out K (f a c') α' c' H' k x
    cases e : f a c' with
    | ok b c2 => rw [e] at h'; exact fun α2 H2 s2 => h' α2 H2 (s.trans s2)
    | exc b c2 => rw [e] at h'; exact fun α2 H2 s2 => h' α2 H2 (s.trans s2)
    | bad => rw [e] at h'; exact h'
  | exc e c' => exact h
  | bad => exact h
theorem Out.ok {a : A} (h : Out K (.ok a c') α c H k x) (s : Stp K α c H α' c' H') : k a α' c' H' := h α' H' s
theorem Out.here {a : A} (C : Cel K α c H) (h : Out K (.ok a c) α c H k x) : k a α c H := h α H (Stp.refl C)
theorem Out.ofO {o : Option A} (h : Out K (Res.ofO o c) α c H k x) (C : Cel K α c H) : ∃ a, o = some a ∧ k a α c H := by
  cases o with
  | none => exact h.elim
  | some a => exact ⟨a, rfl, Out.here C h⟩
theorem Out.iteT {p : Prop} [Decidable p] {r s : Res A} (h : Out K (if p then r else s) α c H k x) (q : p) : Out K r α c H k x := by rw [if_pos q] at h; exact h
theorem Out.iteF' {p : Prop} [Decidable p] {r s : Res A} (h : Out K (if p then r else s) α c H k x) (q : ¬ p) : Out K s α c H k x := by rw [if_neg q] at h; exact h
theorem Out.iteB {p : Prop} [Decidable p] {r : Res A} (h : Out K (if p then r else .bad) α c H k x) : p ∧ Out K r α c H k x := by
  by_cases q : p
  · rw [if_pos q] at h; exact ⟨q, h⟩
  · rw [if_neg q] at h; exact h.elim
/-- from an earlier state -/
theorem Out.back {r : Res A} (s : Stp K α c H α' c' H') (h : Out K r α c H k x) : Out K r α' c' H' k x := by
  cases r with
  | ok a c2 => exact fun α2 H2 s2 => h α2 H2 (s.trans s2)
  | exc e c2 => exact fun α2 H2 s2 => h α2 H2 (s.trans s2)
  | bad => exact h
end

/-- the slots hold what the evaluator's names hold -/
structure Sm (K : KP) (n : Nat) (σ : L2.St) (ρ : Env) (α : AL) (c : Cells) (H : Hp) : Prop where
  cel : Cel K α c H
  len : ρ.length = σ.length
  ln : σ.length = n
  loc : ∀ (i : Nat) (w : W), ρ[i]? = some (some w) → ∃ v, σ[i]? = some (some v) ∧ DenW K H α c v w
section
variable {K : KP} {n : Nat} {σ : L2.St} {ρ : Env} {α α' : AL} {c c' : Cells} {H H' : Hp}
theorem Sm.step (m : Sm K n σ ρ α c H) (s : Stp K α c H α' c' H') : Sm K n σ ρ α' c' H' :=
  ⟨s.cel, m.len, m.ln, fun i w h => by obtain ⟨v, h1, h2⟩ := m.loc i w h; exact ⟨v, h1, s.denW h2⟩⟩
theorem Sm.set (m : Sm K n σ ρ α c H) {i : Nat} {v : V} {w : W} (h : DenW K H α c v w) : Sm K n (σ.set i (some v)) (ρ.set i (some w)) α c H :=
  ⟨m.cel, by simp [m.len], by simp [m.ln], fun j u e => by
    by_cases z : i = j
    · subst z
      have hl : i < ρ.length := by
        have := (List.getElem?_eq_some_iff.mp e).1
        simpa using this
      rw [List.getElem?_set_self hl] at e
      cases e
      exact ⟨v, by rw [List.getElem?_set_self (by rw [← m.len]; exact hl)], h⟩
    · rw [List.getElem?_set_ne z] at e
      obtain ⟨v', h1, h2⟩ := m.loc j u e
      exact ⟨v', by rw [List.getElem?_set_ne z]; exact h1, h2⟩⟩
end

/-! ### the judgements -/
abbrev XKQ := Exc → AL → Cells → Hp → Prop
def dE (K : KP) (n : Nat) (xk : XKQ) (r : Env → Cells → Res W) : TE := fun σ H Q => ∃ ρ α c, Sm K n σ ρ α c H ∧ Out K (r ρ c) α c H (fun w α' c' H' => ∀ v, DenW K H' α' c' v w → Q v H') xk
def dT (K : KP) (n : Nat) (xk : XKQ) (r : Env → Cells → Res Bool) : TT := fun σ H Q => ∃ ρ α c, Sm K n σ ρ α c H ∧ Out K (r ρ c) α c H (fun k _ _ H' => Q k H') xk
inductive DenWs (K : KP) (H : Hp) (α : AL) (c : Cells) : List V → List W → Prop
  | nil : DenWs K H α c [] []
  | cons {v : V} {vs : List V} {w : W} {ws : List W} : DenW K H α c v w → DenWs K H α c vs ws → DenWs K H α c (v :: vs) (w :: ws)
def dA (K : KP) (n : Nat) (xk : XKQ) (r : Env → Cells → Res (List W)) : TA := fun σ H Q => ∃ ρ α c, Sm K n σ ρ α c H ∧ Out K (r ρ c) α c H (fun ws α' c' H' => ∀ vs, DenWs K H' α' c' vs ws → Q vs H') xk
def dO (K : KP) (n : Nat) (xk : XKQ) (r : Env → Cells → Res (Option Int)) : TO := fun σ H Q => ∃ ρ α c, Sm K n σ ρ α c H ∧ Out K (r ρ c) α c H (fun o _ _ H' => Q o H') xk
theorem _root_.L2.PE.imp {X : Cx} {e : Expr} {t t' : TE} (h : PE X e t) (f : ∀ σ H Q, t' σ H Q → t σ H Q) : PE X e t' := ⟨fun pins s σ H Q I q => h.run pins s σ H Q I (f σ H Q q)⟩
theorem _root_.L2.PT.imp {X : Cx} {e : Expr} {t t' : TT} (h : PT X e t) (f : ∀ σ H Q, t' σ H Q → t σ H Q) : PT X e t' := ⟨fun pins s σ H Q I q => h.run pins s σ H Q I (f σ H Q q)⟩
theorem _root_.L2.PW.imp {X : Cx} {e : Expr} {t t' : TT} (h : PW X e t) (f : ∀ σ H Q, t' σ H Q → t σ H Q) : PW X e t' := ⟨fun whole pins s σ H Q I q => h.run whole pins s σ H Q I (f σ H Q q)⟩
theorem _root_.L2.PA.imp {X : Cx} {e : List Expr} {t t' : TA} (h : PA X e t) (f : ∀ σ H Q, t' σ H Q → t σ H Q) : PA X e t' := ⟨fun pos pins s σ H Q I q => h.run pos pins s σ H Q I (f σ H Q q)⟩
theorem _root_.L2.PO.imp {X : Cx} {e : Option Expr} {t t' : TO} (h : PO X e t) (f : ∀ σ H Q, t' σ H Q → t σ H Q) : PO X e t' := ⟨fun pins s σ H Q I q => h.run pins s σ H Q I (f σ H Q q)⟩
theorem _root_.L2.PS.imp {X : Cx} {e : Stmt} {t t' : TS} (h : PS X e t) (f : ∀ D σ H, t' D σ H → t D σ H) : PS X e t' := ⟨fun pins s σ H D I q => h.run pins s σ H D I (f D σ H q)⟩
theorem _root_.L2.PSs.imp {X : Cx} {e : List Stmt} {t t' : TS} (h : PSs X e t) (f : ∀ D σ H, t' D σ H → t D σ H) : PSs X e t' := ⟨fun pins s σ H D I q => h.run pins s σ H D I (f D σ H q)⟩
section
variable {K : KP} {n : Nat} {xk : XKQ} {σ : L2.St} {H : Hp}
/-- one expression, then the rest from the state behind it -/
theorem dE.bind {B : Type} {r : Env → Cells → Res W} {f : W → Cells → Res B} {ρ : Env} {α : AL} {c : Cells} {k : B → AL → Cells → Hp → Prop} {Q : VK} (m : Sm K n σ ρ α c H) (h : Out K ((r ρ c).bind f) α c H k xk)
    (q : ∀ v w α1 c1 H1, Sm K n σ ρ α1 c1 H1 → Stp K α c H α1 c1 H1 → DenW K H1 α1 c1 v w → Out K (f w c1) α1 c1 H1 k xk → Q v H1) : dE K n xk r σ H Q :=
  ⟨ρ, α, c, m, h.bind.thn fun w α1 c1 H1 s z v hv => q v w α1 c1 H1 (m.step s) s hv z⟩
theorem dA.bind {B : Type} {r : Env → Cells → Res (List W)} {f : List W → Cells → Res B} {ρ : Env} {α : AL} {c : Cells} {k : B → AL → Cells → Hp → Prop} {Q : List V → Hp → Prop} (m : Sm K n σ ρ α c H) (h : Out K ((r ρ c).bind f) α c H k xk)
    (q : ∀ vs ws α1 c1 H1, Sm K n σ ρ α1 c1 H1 → Stp K α c H α1 c1 H1 → DenWs K H1 α1 c1 vs ws → Out K (f ws c1) α1 c1 H1 k xk → Q vs H1) : dA K n xk r σ H Q :=
  ⟨ρ, α, c, m, h.bind.thn fun w α1 c1 H1 s z v hv => q v w α1 c1 H1 (m.step s) s hv z⟩
theorem dT.bind {B : Type} {r : Env → Cells → Res Bool} {f : Bool → Cells → Res B} {ρ : Env} {α : AL} {c : Cells} {k : B → AL → Cells → Hp → Prop} {Q : Bool → Hp → Prop} (m : Sm K n σ ρ α c H) (h : Out K ((r ρ c).bind f) α c H k xk)
    (q : ∀ b α1 c1 H1, Sm K n σ ρ α1 c1 H1 → Stp K α c H α1 c1 H1 → Out K (f b c1) α1 c1 H1 k xk → Q b H1) : dT K n xk r σ H Q :=
  ⟨ρ, α, c, m, h.bind.thn fun w α1 c1 H1 s z => q w α1 c1 H1 (m.step s) s z⟩
theorem dO.bind {B : Type} {r : Env → Cells → Res (Option Int)} {f : Option Int → Cells → Res B} {ρ : Env} {α : AL} {c : Cells} {k : B → AL → Cells → Hp → Prop} {Q : Option Int → Hp → Prop} (m : Sm K n σ ρ α c H) (h : Out K ((r ρ c).bind f) α c H k xk)
    (q : ∀ b α1 c1 H1, Sm K n σ ρ α1 c1 H1 → Stp K α c H α1 c1 H1 → Out K (f b c1) α1 c1 H1 k xk → Q b H1) : dO K n xk r σ H Q :=
  ⟨ρ, α, c, m, h.bind.thn fun w α1 c1 H1 s z => q w α1 c1 H1 (m.step s) s z⟩
end
section
variable {K : KP} {H : Hp} {α : AL} {c : Cells}
theorem truth_of {v : V} {w : W} {k : Bool → AL → Cells → Hp → Prop} {xk : XKQ} (C : Cel K α c H) (d : DenW K H α c v w) (h : Out K (truth w c) α c H k xk) : ∃ b, v = .bl b ∧ w = .v (.bl b) ∧ k b α c H := by
  unfold truth at h
  split at h
  · exact ⟨_, Den.bl_inv d, rfl, Out.here C h⟩
  · exact h.elim
theorem vals_of : ∀ {vs : List V} {ws : List W} {ds : List D}, DenWs K H α c vs ws → vals ws = some ds → Dens K H (Hid α c) vs ds
  | _, _, _, .nil, e => by cases e; exact .nil
  | _, _, _, .cons (w := w) (ws := ws) d t, e => by
    cases w with
    | v d' =>
      unfold vals at e
      cases z : vals ws with
      | none => rw [z] at e; cases e
      | some es => rw [z] at e; cases e; exact .cons d (vals_of t z)
    | c m => unfold vals at e; cases e
theorem rdAll_of (C : Cel K α c H) : ∀ {vs : List V} {ws : List W} {ds : List D}, DenWs K H α c vs ws → rdAll c ws = some ds → RdVs K H (Hid α c) vs ds
  | _, _, _, .nil, e => by cases e; exact .nil
  | _, _, _, .cons (w := w) (ws := ws) d t, e => by
    unfold rdAll at e
    cases z1 : rd c w with
    | none => rw [z1] at e; cases e
    | some d' =>
      cases z : rdAll c ws with
      | none => rw [z1, z] at e; cases e
      | some es => rw [z1, z] at e; cases e; exact .cons (d.rd C z1) (rdAll_of C t z)
theorem DenWs.step {H' : Hp} {α' : AL} {c' : Cells} (s : Stp K α c H α' c' H') : ∀ {vs : List V} {ws : List W}, DenWs K H α c vs ws → DenWs K H' α' c' vs ws
  | _, _, .nil => .nil
  | _, _, .cons d t => .cons (s.denW d) (DenWs.step s t)
theorem DenWs.length : ∀ {vs : List V} {ws : List W}, DenWs K H α c vs ws → vs.length = ws.length
  | _, _, .nil => rfl
  | _, _, .cons _ t => congrArg (· + 1) (DenWs.length t)
end
end Q
end
section
set_option autoImplicit false
set_option maxHeartbeats 2000000
/-! # The Q layer, part 7: expressions, construct by construct -/
namespace Q
open PySem PySem.Spec PyProof.Rows L2

section
variable {X : Cx} {K : KP} {n : Nat} {xk : XKQ} {a b e t : Expr} {pos : Pos} {ra rb re : Env → Cells → Res W}
theorem q_var {i : Nat} {x : Str} (hN : X.N[i]? = some x) (hv : Vis X.env.scope x) (h1 : (x == ("__debug__" : Str)) = false) (h2 : (x == ("__classdict__" : Str)) = false) :
    PE X (.Name x pos) (dE K n xk fun ρ c => match ρ[i]? with | some (some w) => .ok w c | _ => .bad) :=
  (pe_var hN hv h1 h2).imp fun σ H Q ⟨ρ, α, c, m, h⟩ => by
    dsimp only at h
    split at h
    · rename_i w e
      obtain ⟨v, h1, h2⟩ := m.loc i w e
      exact ⟨v, h1, Out.here m.cel h v h2⟩
    · exact h.elim
theorem q_val {v : V} {d : D} (hp : PE X e (tC v)) (hd : ∀ H L, Den K H L v d) : PE X e (dE K n xk fun _ c => .ok (.v d) c) :=
  hp.imp fun σ H Q ⟨ρ, α, c, m, h⟩ => Out.here m.cel h v (hd _ _)
theorem q_glo {x : Str} {v : V} {u : Value} {o : Option D} (hg : Gl X x) (hm : ∀ d, o = some d → X.mg x = some u ∧ RelV v u ∧ ∀ H L, Den K H L v d) (hd : (x == ("__debug__" : Str)) = false) : PE X (.Name x pos) (dE K n xk fun _ c => ret o c) := by
  cases o with
  | none => exact ⟨fun pins s σ H Q I q => by obtain ⟨ρ, α, c, m, h⟩ := q; exact h.elim⟩
  | some d =>
    obtain ⟨h1, h2, h3⟩ := hm d rfl
    exact q_val (pe_glob hg h1 h2 hd) h3
theorem q_bin (O : Ok0 X K) (o : Op) (ha : PE X a (dE K n xk ra)) (hb : PE X b (dE K n xk rb)) :
    PE X (.BinOp a (pyOp o) b pos) (dE K n xk fun ρ c => (ra ρ c).bind fun x c => (rb ρ c).bind fun y c => (rdR x c).bind fun x c => (rdR y c).bind fun y c => ret (opD o x y) c) :=
  (pe_op (binR O.hK o) ha hb).imp fun σ H Q ⟨ρ, α, c, m, h⟩ => dE.bind m h fun v w α1 c1 H1 m1 s1 d1 h1 => dE.bind m1 h1 fun v2 w2 α2 c2 H2 m2 s2 d2 h2 => by
    obtain ⟨x, ex, h3⟩ := Out.ofO h2.bind m2.cel
    obtain ⟨y, ey, h4⟩ := Out.ofO h3.bind m2.cel
    cases z : opD o x y with
    | none => rw [z] at h4; exact h4.elim
    | some d =>
      rw [z] at h4
      exact ⟨α2, c2, x, y, d, m2.cel, (s2.denW d1).rd m2.cel ex, d2.rd m2.cel ey, z, fun v H' s' hd => h4 α2 H' s' v hd⟩
theorem q_cmp (O : Ok0 X K) (o : Cmp) (ha : PE X a (dE K n xk ra)) (hb : PE X b (dE K n xk rb)) (hm : behindInMarks (pyCmp o) b = false) :
    PE X (.Compare a [pyCmp o] [b] pos) (dE K n xk fun ρ c => (ra ρ c).bind fun x c => (rb ρ c).bind fun y c => (rdR x c).bind fun x c => (rdR y c).bind fun y c => retB (cmpD o x y) c) :=
  (pe_cmpR (cmpR O o) ha hb hm).imp fun σ H Q ⟨ρ, α, c, m, h⟩ => dE.bind m h fun v w α1 c1 H1 m1 s1 d1 h1 => dE.bind m1 h1 fun v2 w2 α2 c2 H2 m2 s2 d2 h2 => by
    obtain ⟨x, ex, h3⟩ := Out.ofO h2.bind m2.cel
    obtain ⟨y, ey, h4⟩ := Out.ofO h3.bind m2.cel
    cases z : cmpD o x y with
    | none => rw [z] at h4; exact h4.elim
    | some k =>
      rw [z] at h4
      exact ⟨α2, c2, x, y, k, m2.cel, (s2.denW d1).rd m2.cel ex, d2.rd m2.cel ey, z, Out.here m2.cel h4 _ (.bl k)⟩
/-- a comparison as a test -/
theorem t_of (he : PE X e (dE K n xk re)) (hs : ∀ whole, isTrue e X.env whole = (do let v ← whole; standAt e.pos; holding [v] (truthy v))) : PT X e (dT K n xk fun ρ c => (re ρ c).bind fun w c => truth w c) :=
  (pt_val he hs).imp fun σ H Q ⟨ρ, α, c, m, h⟩ => dE.bind m h fun v w α1 c1 H1 m1 s1 d1 h1 => by
    obtain ⟨b, rfl, _, q⟩ := truth_of m1.cel d1 h1
    exact ⟨b, rfl, q⟩
theorem t_cmp (O : Ok0 X K) (o : Cmp) (ha : PE X a (dE K n xk ra)) (hb : PE X b (dE K n xk rb)) (hm : behindInMarks (pyCmp o) b = false) :
    PT X (.Compare a [pyCmp o] [b] pos) (dT K n xk fun ρ c => ((ra ρ c).bind fun x c => (rb ρ c).bind fun y c => (rdR x c).bind fun x c => (rdR y c).bind fun y c => retB (cmpD o x y) c).bind fun w c => truth w c) :=
  (pt_cmpR (cmpR O o) ha hb hm).imp fun σ H Q ⟨ρ, α, c, m, h⟩ => by
    have h0 := h.bind
    refine dE.bind m h0 fun v w α1 c1 H1 m1 s1 d1 h1 => dE.bind m1 h1 fun v2 w2 α2 c2 H2 m2 s2 d2 h2 => ?_
    obtain ⟨x, ex, h3⟩ := Out.ofO h2.bind m2.cel
    obtain ⟨y, ey, h4⟩ := Out.ofO h3.bind m2.cel
    cases z : cmpD o x y with
    | none => rw [z] at h4; exact h4.elim
    | some k =>
      rw [z] at h4
      exact ⟨α2, c2, x, y, k, m2.cel, (s2.denW d1).rd m2.cel ex, d2.rd m2.cel ey, z, k, rfl, Out.here m2.cel (Out.here m2.cel h4)⟩
/-- the chain's reading, from the evaluator's -/
theorem chn_of {o p : Cmp} {x : V} {wx : W} {f : VK} {σ : L2.St} {ρ : Env} {α : AL} {c : Cells} {H : Hp} {α1 : AL} {c1 : Cells} {H1 : Hp} {k : W → AL → Cells → Hp → Prop} (m : Sm K n σ ρ α c H) (s : Stp K α1 c1 H1 α c H) (d1 : DenW K H1 α1 c1 x wx) {y : V} {wy : W} (d2 : DenW K H α c y wy)
    (h : Out K ((rdR wx c).bind fun x c => (rdR wy c).bind fun y' c => (Res.ofO (cmpD o x y') c).bind fun k c => if k = true then (re ρ c).bind fun z c => (rdR wy c).bind fun y c => (rdR z c).bind fun z c => retB (cmpD p y z) c else .ok (.v (.bl false)) c) α c H k xk) (hk : ∀ b α' c' H', Cel K α' c' H' → k (.v (.bl b)) α' c' H' → f (.bl b) H') :
    rCmp K o x y H fun z H3 => ∃ b, z = .bl b ∧ (if b = true then dE K n xk re σ H3 fun w' H4 => rCmp K p y w' H4 f else f (.bl false) H3) := by
  obtain ⟨dx, ex, h3⟩ := Out.ofO h.bind m.cel
  obtain ⟨dy, ey, h4⟩ := Out.ofO h3.bind m.cel
  cases z : cmpD o dx dy with
  | none => rw [z] at h4; exact h4.elim
  | some b =>
    rw [z] at h4
    refine ⟨α, c, dx, dy, b, m.cel, (s.denW d1).rd m.cel ex, d2.rd m.cel ey, z, b, rfl, ?_⟩
    cases b with
    | false => exact iteF (hk _ _ _ _ m.cel (Out.here m.cel h4))
    | true =>
      refine iteT (dE.bind m h4 fun v3 w3 α3 c3 H3 m3 s3 d3 h5 => ?_)
      obtain ⟨dy', ey', h6⟩ := Out.ofO h5.bind m3.cel
      obtain ⟨dz, ez, h7⟩ := Out.ofO h6.bind m3.cel
      cases z2 : cmpD p dy' dz with
      | none => rw [z2] at h7; exact h7.elim
      | some b =>
        rw [z2] at h7
        exact ⟨α3, c3, dy', dz, b, m3.cel, (s3.denW d2).rd m3.cel ey', d3.rd m3.cel ez, z2, hk _ _ _ _ m3.cel (Out.here m3.cel h7)⟩
theorem q_chn (O : Ok0 X K) (o p : Cmp) (ha : PE X a (dE K n xk ra)) (hb : PE X b (dE K n xk rb)) (hc : PE X e (dE K n xk re)) (hm : lastMarks [pyCmp o, pyCmp p] [b, e] = false) :
    PE X (.Compare a [pyCmp o, pyCmp p] [b, e] pos) (dE K n xk fun ρ c => (ra ρ c).bind fun x c => (rb ρ c).bind fun y c => (rdR x c).bind fun x c => (rdR y c).bind fun y' c => (Res.ofO (cmpD o x y') c).bind fun k c => if k = true then (re ρ c).bind fun z c => (rdR y c).bind fun y c => (rdR z c).bind fun z c => retB (cmpD p y z) c else .ok (.v (.bl false)) c) :=
  (pe_chain (cmpR O o) (cmpR O p) ha hb hc hm).imp fun σ H Q ⟨ρ, α, c, m, h⟩ => dE.bind m h fun v w α1 c1 H1 m1 s1 d1 h1 => dE.bind m1 h1 fun v2 w2 α2 c2 H2 m2 s2 d2 h2 =>
    chn_of m2 s2 d1 d2 h2 fun b _ _ _ _ q => q _ (.bl b)
theorem t_chn (O : Ok0 X K) (o p : Cmp) (ha : PE X a (dE K n xk ra)) (hb : PE X b (dE K n xk rb)) (hc : PE X e (dE K n xk re)) (hm : lastMarks [pyCmp o, pyCmp p] [b, e] = false) :
    PT X (.Compare a [pyCmp o, pyCmp p] [b, e] pos) (dT K n xk fun ρ c => ((ra ρ c).bind fun x c => (rb ρ c).bind fun y c => (rdR x c).bind fun x c => (rdR y c).bind fun y' c => (Res.ofO (cmpD o x y') c).bind fun k c => if k = true then (re ρ c).bind fun z c => (rdR y c).bind fun y c => (rdR z c).bind fun z c => retB (cmpD p y z) c else .ok (.v (.bl false)) c).bind fun w c => truth w c) :=
  (pt_chain (cmpR O o) (cmpR O p) ha hb hc hm).imp fun σ H Q ⟨ρ, α, c, m, h⟩ => dE.bind m h.bind fun v w α1 c1 H1 m1 s1 d1 h1 => dE.bind m1 h1 fun v2 w2 α2 c2 H2 m2 s2 d2 h2 =>
    chn_of m2 s2 d1 d2 h2 fun b α' c' H' C q => ⟨b, rfl, Out.here C q⟩

/-! ### and, or, not, if -/
abbrev rTru (r : Env → Cells → Res W) : Env → Cells → Res Bool := fun ρ c => (r ρ c).bind fun w c => truth w c
abbrev rAnd (ra rb : Env → Cells → Res W) : Env → Cells → Res W := fun ρ c => (ra ρ c).bind fun w c => (truth w c).bind fun k c => if k = true then (rb ρ c).bind fun w c => (truth w c).bind fun k c => .ok (.v (.bl k)) c else .ok (.v (.bl false)) c
abbrev rOr (ra rb : Env → Cells → Res W) : Env → Cells → Res W := fun ρ c => (ra ρ c).bind fun w c => (truth w c).bind fun k c => if k = true then .ok (.v (.bl true)) c else (rb ρ c).bind fun w c => (truth w c).bind fun k c => .ok (.v (.bl k)) c
abbrev rNot (ra : Env → Cells → Res W) : Env → Cells → Res W := fun ρ c => (ra ρ c).bind fun w c => (truth w c).bind fun k c => .ok (.v (.bl (!k))) c
/-- a test's answer, then the rest -/
theorem tru_bind {B : Type} {α : AL} {c : Cells} {H : Hp} {w : W} {v : V} {f : Bool → Cells → Res B} {k : B → AL → Cells → Hp → Prop} (C : Cel K α c H) (d : DenW K H α c v w) (h : Out K ((truth w c).bind f) α c H k xk) : ∃ b, v = .bl b ∧ w = .v (.bl b) ∧ Out K (f b c) α c H k xk :=
  truth_of C d h.bind
theorem q_and {rest : List Expr} (ha : PE X a (dE K n xk ra)) (hb : PE X (.BoolOp .And (b :: rest) pos) (dE K n xk rb)) : PE X (.BoolOp .And (a :: b :: rest) pos) (dE K n xk (rAnd ra rb)) :=
  (pe_and ha hb).imp fun σ H Q ⟨ρ, α, c, m, h⟩ => dE.bind m h fun v w α1 c1 H1 m1 s1 d1 h1 => by
    obtain ⟨b, rfl, rfl, h2⟩ := tru_bind m1.cel d1 h1
    refine ⟨b, rfl, ?_⟩
    cases b with
    | false => exact iteF (Out.here m1.cel h2 _ (.bl false))
    | true =>
      refine iteT (dE.bind m1 h2 fun v2 w2 α2 c2 H2 m2 s2 d2 h3 => ?_)
      obtain ⟨b, rfl, rfl, h4⟩ := tru_bind m2.cel d2 h3
      exact Out.here m2.cel h4 _ (.bl b)
theorem q_or {rest : List Expr} (ha : PE X a (dE K n xk ra)) (hb : PE X (.BoolOp .Or (b :: rest) pos) (dE K n xk rb)) : PE X (.BoolOp .Or (a :: b :: rest) pos) (dE K n xk (rOr ra rb)) :=
  (pe_or ha hb).imp fun σ H Q ⟨ρ, α, c, m, h⟩ => dE.bind m h fun v w α1 c1 H1 m1 s1 d1 h1 => by
    obtain ⟨b, rfl, rfl, h2⟩ := tru_bind m1.cel d1 h1
    refine ⟨b, rfl, ?_⟩
    cases b with
    | true => exact iteT (Out.here m1.cel h2 _ (.bl true))
    | false =>
      refine iteF (dE.bind m1 h2 fun v2 w2 α2 c2 H2 m2 s2 d2 h3 => ?_)
      obtain ⟨b, rfl, rfl, h4⟩ := tru_bind m2.cel d2 h3
      exact Out.here m2.cel h4 _ (.bl b)
theorem and_tru (ra rb : Env → Cells → Res W) (ρ : Env) (c : Cells) : rTru (rAnd ra rb) ρ c = (rTru ra ρ c).bind fun k c => if k = true then rTru rb ρ c else .ok false c := by
  unfold rTru rAnd
  cases ra ρ c with
  | ok w c1 =>
    simp only [Res.bind_ok]
    cases truth w c1 with
    | ok k c2 =>
      cases k with
      | false => rfl
      | true =>
        simp only [Res.bind_ok, if_true]
        cases rb ρ c2 with
        | ok w c3 => simp only [Res.bind_ok]; cases truth w c3 <;> rfl
        | exc _ _ => rfl
        | bad => rfl
    | exc _ _ => rfl
    | bad => rfl
  | exc _ _ => rfl
  | bad => rfl
theorem or_tru (ra rb : Env → Cells → Res W) (ρ : Env) (c : Cells) : rTru (rOr ra rb) ρ c = (rTru ra ρ c).bind fun k c => if k = true then .ok true c else rTru rb ρ c := by
  unfold rTru rOr
  cases ra ρ c with
  | ok w c1 =>
    simp only [Res.bind_ok]
    cases truth w c1 with
    | ok k c2 =>
      cases k with
      | true => rfl
      | false =>
        simp only [Res.bind_ok, Bool.false_eq_true, if_false]
        cases rb ρ c2 with
        | ok w c3 => simp only [Res.bind_ok]; cases truth w c3 <;> rfl
        | exc _ _ => rfl
        | bad => rfl
    | exc _ _ => rfl
    | bad => rfl
  | exc _ _ => rfl
  | bad => rfl
theorem not_tru (ra : Env → Cells → Res W) (ρ : Env) (c : Cells) : rTru (rNot ra) ρ c = (rTru ra ρ c).bind fun k c => .ok (!k) c := by
  unfold rTru rNot
  cases ra ρ c with
  | ok w c1 => simp only [Res.bind_ok]; cases truth w c1 <;> rfl
  | exc _ _ => rfl
  | bad => rfl
theorem w_and {rest : List Expr} (ha : PT X a (dT K n xk (rTru ra))) (hb : PW X (.BoolOp .And (b :: rest) pos) (dT K n xk (rTru rb))) : PW X (.BoolOp .And (a :: b :: rest) pos) (dT K n xk (rTru (rAnd ra rb))) :=
  (pw_and ha hb).imp fun σ H Q ⟨ρ, α, c, m, h⟩ => dT.bind m (f := fun k c => if k = true then rTru rb ρ c else .ok false c) (by rw [← and_tru]; exact h) fun b α1 c1 H1 m1 s1 h1 => by
    cases b with
    | false => exact iteF (Out.here m1.cel h1)
    | true => exact iteT ⟨ρ, α1, c1, m1, h1⟩
theorem w_or {rest : List Expr} (ha : PT X a (dT K n xk (rTru ra))) (hb : PW X (.BoolOp .Or (b :: rest) pos) (dT K n xk (rTru rb))) : PW X (.BoolOp .Or (a :: b :: rest) pos) (dT K n xk (rTru (rOr ra rb))) :=
  (pw_or ha hb).imp fun σ H Q ⟨ρ, α, c, m, h⟩ => dT.bind m (f := fun k c => if k = true then .ok true c else rTru rb ρ c) (by rw [← or_tru]; exact h) fun b α1 c1 H1 m1 s1 h1 => by
    cases b with
    | true => exact iteT (Out.here m1.cel h1)
    | false => exact iteF ⟨ρ, α1, c1, m1, h1⟩
theorem t_not (ha : PT X a (dT K n xk (rTru ra))) : PT X (.UnaryOp .Not a pos) (dT K n xk (rTru (rNot ra))) :=
  (pt_not ha).imp fun σ H Q ⟨ρ, α, c, m, h⟩ => dT.bind m (f := fun k c => .ok (!k) c) (by rw [← not_tru]; exact h) fun b α1 c1 H1 m1 s1 h1 => Out.here m1.cel h1
theorem q_not (ha : PE X a (dE K n xk ra)) : PE X (.UnaryOp .Not a pos) (dE K n xk (rNot ra)) :=
  (pe_not ha).imp fun σ H Q ⟨ρ, α, c, m, h⟩ => dE.bind m h fun v w α1 c1 H1 m1 s1 d1 h1 => by
    obtain ⟨b, rfl, rfl, h2⟩ := tru_bind m1.cel d1 h1
    exact ⟨b, rfl, Out.here m1.cel h2 _ (.bl _)⟩
abbrev rIte (rt ra rb : Env → Cells → Res W) : Env → Cells → Res W := fun ρ c => (rt ρ c).bind fun w c => (truth w c).bind fun k c => if k = true then ra ρ c else rb ρ c
theorem ite_tru {B : Type} (rt : Env → Cells → Res W) (f : Bool → Cells → Res B) (ρ : Env) (c : Cells) : ((rt ρ c).bind fun w c => (truth w c).bind f) = (rTru rt ρ c).bind f := by
  unfold rTru
  cases rt ρ c <;> rfl
theorem q_ite {rt : Env → Cells → Res W} (ht : PT X t (dT K n xk (rTru rt))) (ha : PE X a (dE K n xk ra)) (hb : PE X b (dE K n xk rb)) : PE X (.IfExp t a b pos) (dE K n xk (rIte rt ra rb)) :=
  (pe_ifExp ht ha hb).imp fun σ H Q ⟨ρ, α, c, m, h⟩ => dT.bind m (f := fun k c => if k = true then ra ρ c else rb ρ c) (by rw [← ite_tru]; exact h) fun b α1 c1 H1 m1 s1 h1 => by
    cases b with
    | true => exact iteT ⟨ρ, α1, c1, m1, h1⟩
    | false => exact iteF ⟨ρ, α1, c1, m1, h1⟩
/-! ### displays -/
theorem a_nil : PA X [] (dA K n xk fun _ c => .ok [] c) := pa_nil.imp fun σ H Q ⟨ρ, α, c, m, h⟩ => Out.here m.cel h [] .nil
theorem a_cons {es : List Expr} {rs : Env → Cells → Res (List W)} (he : PE X e (dE K n xk re)) (hr : PA X es (dA K n xk rs)) (hs : starEach (e :: es) X.env = (false, eval e X.env) :: starEach es X.env) :
    PA X (e :: es) (dA K n xk fun ρ c => (re ρ c).bind fun w c => (rs ρ c).bind fun ws c => .ok (w :: ws) c) :=
  (pa_cons he hr hs).imp fun σ H Q ⟨ρ, α, c, m, h⟩ => dE.bind m h fun v w α1 c1 H1 m1 s1 d1 h1 => dA.bind m1 h1 fun vs ws α2 c2 H2 m2 s2 d2 h2 => Out.here m2.cel h2 _ (.cons (s2.denW d1) d2)
theorem q_tup {es : List Expr} {k : Nat} {rs : Env → Cells → Res (List W)} (h : PA X es (dA K n xk rs)) : PE X (.Tuple es k pos) (dE K n xk fun ρ c => (rs ρ c).bind fun ws c => match vals ws with
    | some ds => if ds.length ≤ sizeLine then .ok (.v (.tup ds)) c else .bad
    | none => .bad) :=
  (pe_tup h).imp fun σ H Q ⟨ρ, α, c, m, h⟩ => dA.bind m h fun vs ws α1 c1 H1 m1 s1 d1 h1 => by
    cases z : vals ws with
    | none => rw [z] at h1; exact h1.elim
    | some ds =>
      rw [z] at h1
      obtain ⟨hl, h2⟩ := Out.iteB h1
      have dd := vals_of d1 z
      exact ⟨by rw [dd.length]; exact hl, fun p hp => h2 α1 _ (Stp.new m1.cel hp) _ (Den.newTup m1.cel hp dd)⟩
theorem q_lst {es : List Expr} {rs : Env → Cells → Res (List W)} (h : PA X es (dA K n xk rs)) : PE X (.List es pos) (dE K n xk fun ρ c => (rs ρ c).bind fun ws c => match vals ws with
    | some ds => if ds.length ≤ sizeLine then .ok (.v (.lst ds)) c else .bad
    | none => .bad) :=
  (pe_lst h).imp fun σ H Q ⟨ρ, α, c, m, h⟩ => dA.bind m h fun vs ws α1 c1 H1 m1 s1 d1 h1 => by
    cases z : vals ws with
    | none => rw [z] at h1; exact h1.elim
    | some ds =>
      rw [z] at h1
      obtain ⟨hl, h2⟩ := Out.iteB h1
      have dd := vals_of d1 z
      exact ⟨by rw [dd.length]; exact hl, fun p hp => h2 α1 _ (Stp.new m1.cel hp) _ (Den.newLst m1.cel hp dd)⟩
theorem q_cel {es : List Expr} {rs : Env → Cells → Res (List W)} (h : PA X es (dA K n xk rs)) : PE X (.List es pos) (dE K n xk fun ρ c => (rs ρ c).bind fun ws c => match vals ws with
    | some ds => if ds.length ≤ sizeLine then .ok (.c c.length) (c ++ [some ds]) else .bad
    | none => .bad) :=
  (pe_lst h).imp fun σ H Q ⟨ρ, α, c, m, h⟩ => dA.bind m h fun vs ws α1 c1 H1 m1 s1 d1 h1 => by
    cases z : vals ws with
    | none => rw [z] at h1; exact h1.elim
    | some ds =>
      rw [z] at h1
      obtain ⟨hl, h2⟩ := Out.iteB h1
      have dd := vals_of d1 z
      refine ⟨by rw [dd.length]; exact hl, fun p hp => h2 (α1.add p) _ (Stp.cell m1.cel hp dd hl) _ ⟨p, ?_, rfl⟩⟩
      show (α1.l ++ [p])[c1.length]? = some p
      rw [← m1.cel.len]
      simp
theorem q_cad (ha : PE X a (dE K n xk ra)) (hb : PE X b (dE K n xk rb)) :
    PE X (.BinOp a .Add b pos) (dE K n xk fun ρ c => (ra ρ c).bind fun x c => (rb ρ c).bind fun y c => (rdR x c).bind fun x c => (rdR y c).bind fun y c => addC x y c) :=
  (pe_op catL ha hb).imp fun σ H Q ⟨ρ, α, c, m, h⟩ => dE.bind m h fun v w α1 c1 H1 m1 s1 d1 h1 => dE.bind m1 h1 fun v2 w2 α2 c2 H2 m2 s2 d2 h2 => by
    obtain ⟨x, ex, h3⟩ := Out.ofO h2.bind m2.cel
    obtain ⟨y, ey, h4⟩ := Out.ofO h3.bind m2.cel
    unfold addC at h4
    split at h4
    · rename_i xs ys
      obtain ⟨hz, h5⟩ := Out.iteB h4
      obtain ⟨a1, us, rfl, r1, t1⟩ := RdV.lst ((s2.denW d1).rd m2.cel ex)
      obtain ⟨a2, vs, rfl, r2, t2⟩ := RdV.lst (d2.rd m2.cel ey)
      refine ⟨a1, a2, us, vs, rfl, rfl, r1, r2, by rw [t1.length, t2.length]; exact hz, fun p hp => h5 (α2.add p) _ (Stp.cell m2.cel hp (t1.append t2) (by rw [List.length_append]; exact hz)) _ ⟨p, ?_, rfl⟩⟩
      show (α2.l ++ [p])[c2.length]? = some p
      rw [← m2.cel.len]
      simp
    · exact h4.elim
/-! ### numbers, places, slices -/
theorem q_neg (ha : PE X a (dE K n xk ra)) : PE X (.UnaryOp .USub a pos) (dE K n xk fun ρ c => (ra ρ c).bind fun x c => match x with
    | .v (.int i) => .ok (.v (.int (-i))) c
    | _ => .bad) :=
  (pe_un un_neg ha).imp fun σ H Q ⟨ρ, α, c, m, h⟩ => dE.bind m h fun v w α1 c1 H1 m1 s1 d1 h1 => by
    split at h1
    · cases Den.int_inv d1
      exact ⟨_, rfl, Out.here m1.cel h1 _ (.int _)⟩
    · exact h1.elim
theorem q_idx (O : Ok0 X K) (ha : PE X a (dE K n xk ra)) (hb : PE X b (dE K n xk rb)) (hs : PlainIx b) :
    PE X (.Subscript a b pos) (dE K n xk fun ρ c => (ra ρ c).bind fun x c => (rb ρ c).bind fun y c => (rdR x c).bind fun x c => (valR y c).bind fun y c => ret (idxD x y) c) :=
  (pe_ix (idxR O) ha hb hs).imp fun σ H Q ⟨ρ, α, c, m, h⟩ => dE.bind m h fun v w α1 c1 H1 m1 s1 d1 h1 => dE.bind m1 h1 fun v2 w2 α2 c2 H2 m2 s2 d2 h2 => by
    obtain ⟨x, ex, h3⟩ := Out.ofO h2.bind m2.cel
    cases w2 with
    | c _ => exact h3.elim
    | v y =>
      have h4 : Out K (ret (idxD x y) c2) α2 c2 H2 _ xk := h3
      cases z : idxD x y with
      | none => rw [z] at h4; exact h4.elim
      | some d =>
        rw [z] at h4
        exact ⟨α2, c2, x, y, d, m2.cel, (s2.denW d1).rd m2.cel ex, .den d2, z, fun v H' s' hd => h4 α2 H' s' v hd⟩
theorem o_non : PO X none (dO K n xk fun _ c => .ok none c) := po_none.imp fun σ H Q ⟨ρ, α, c, m, h⟩ => Out.here m.cel h
theorem o_som (he : PE X e (dE K n xk re)) : PO X (some e) (dO K n xk fun ρ c => (re ρ c).bind fun w c => match w with
    | .v (.int i) => .ok (some i) c
    | _ => .bad) :=
  (po_some he).imp fun σ H Q ⟨ρ, α, c, m, h⟩ => dE.bind m h fun v w α1 c1 H1 m1 s1 d1 h1 => by
    split at h1
    · cases Den.int_inv d1
      exact ⟨_, rfl, Out.here m1.cel h1⟩
    · exact h1.elim
theorem q_slc (O : Ok0 X K) {lo hi : Option Expr} {rl rh : Env → Cells → Res (Option Int)} {p2 : Pos} (ha : PE X a (dE K n xk ra)) (hl : PO X lo (dO K n xk rl)) (hh : PO X hi (dO K n xk rh)) :
    PE X (.Subscript a (.Slice lo hi none p2) pos) (dE K n xk fun ρ c => (ra ρ c).bind fun x c => (rl ρ c).bind fun l c => (rh ρ c).bind fun h c => (rdR x c).bind fun x c => ret (slcD x l h) c) :=
  (pe_slice (slcR O) ha hl hh).imp fun σ H Q ⟨ρ, α, c, m, h⟩ => dE.bind m h fun v w α1 c1 H1 m1 s1 d1 h1 => dO.bind m1 h1 fun l α2 c2 H2 m2 s2 h2 => dO.bind m2 h2 fun u α3 c3 H3 m3 s3 h3 => by
    obtain ⟨x, ex, h4⟩ := Out.ofO h3.bind m3.cel
    cases z : slcD x l u with
    | none => rw [z] at h4; exact h4.elim
    | some d =>
      rw [z] at h4
      exact ⟨α3, c3, x, d, m3.cel, ((s2.trans s3).denW d1).rd m3.cel ex, z, fun v H' s' hd => h4 α3 H' s' v hd⟩
end
end Q
end
section
set_option autoImplicit false
set_option maxHeartbeats 2000000
/-! # The Q layer, part 8: calls -/
namespace Q
open PySem PySem.Spec PyProof.Rows L2

/-- what a def promises: what the evaluator's call gives -/
def spEv (K : KP) (XA : Exc → Addr) (f : List W → Cells → Res W) : Sp := fun vs H Q E => ∃ ws α c, Cel K α c H ∧ DenWs K H α c vs ws ∧
  Out K (f ws c) α c H (fun w α' c' H' => ∀ v, DenW K H' α' c' v w → Q v H') (fun x _ _ H' => E (.ref (XA x)) none H')
/-- a raise that reaches X's own wish -/
structure Tk (X : Cx) (XA : Exc → Addr) (xk : XKQ) (Wx : WX) : Prop where
  tk : Takes X Wx
  to : ∀ e α c H σ, σ.length = X.N.length → xk e α c H → Wx (.ref (XA e)) none σ H
section
variable {X : Cx} {K : KP} {n : Nat} {xk : XKQ} {XA : Exc → Addr} {Wx : WX} {a b e t : Expr} {es : List Expr} {p pos : Pos} {ra rb re : Env → Cells → Res W} {rs : Env → Cells → Res (List W)}
theorem q_call {f : List W → Cells → Res W} {k : Nat} {x : Str} {fa : Addr} {fd : FuncData} {ps : List Str} (T : Tk X XA xk Wx) (hn : X.N.length = n) (F : FnOk X.prog X.w X.K X.mg X.base (L2.CX X.prog X.w) k fa fd ps (spEv K XA f)) (hr : Room k X.A)
    (hg : Gl X x) (hm : X.mg x = some (.ref fa)) (hk : PySem.W.keepIn X.K (.ref fa) = true) (hb : Binds X.K fd ps []) (ha : PA X (e :: es) (dA K n xk rs)) (hdb : (x == ("__debug__" : Str)) = false)
    (he : starEach (e :: es) X.env = (false, eval e X.env) :: starEach es X.env) (hpl : (backTo pos (starEach es X.env)).any (·.1) = false) :
    PE X (.Call (.Name x p) (e :: es) [] pos) (dE K n xk fun ρ c => (rs ρ c).bind fun ws c => f ws c) :=
  (pe_callS F hr hg hm hk hb (fun σ => passAt T.tk σ) ha hdb he hpl).imp fun σ H Q ⟨ρ, α, c, m, h⟩ => dA.bind m h fun vs ws α1 c1 H1 m1 s1 d1 h1 =>
    ⟨ws, α1, c1, m1.cel, d1, h1.imp (fun _ _ _ _ _ _ q => q) fun e α' c' H' _ q => T.to e α' c' H' σ (by rw [m1.ln, hn]) q⟩
theorem q_blt (O : Ok0 X K) (f : Blt) {x : Str} (hg : Gl X x) (hm : X.mg x = none) (hv : bootBuiltins x = some (bltV f)) (ha : PA X (e :: es) (dA K n xk rs)) (hn : x ≠ "__name__") (hdb : (x == ("__debug__" : Str)) = false)
    (he : starEach (e :: es) X.env = (false, eval e X.env) :: starEach es X.env) (hpl : (backTo pos (starEach es X.env)).any (·.1) = false) :
    PE X (.Call (.Name x p) (e :: es) [] pos) (dE K n xk fun ρ c => (rs ρ c).bind fun ws c => match rdAll c ws with
    | some ds => ret (bltD f ds) c
    | none => .bad) := by
  have main : PE X (.Call (.Name x p) (e :: es) [] pos) (tCB (rBlt K f) (dA K n xk rs)) := by
    have hb := bltR (X := X) O f
    cases f
    · exact pe_callB hb hg hm hv ha hn hdb he hpl
    · exact pe_callTy hb hg hm hv ha hn hdb he hpl
    · exact pe_callB hb hg hm hv ha hn hdb he hpl
    · exact pe_callTy hb hg hm hv ha hn hdb he hpl
    · exact pe_callTy hb hg hm hv ha hn hdb he hpl
    · exact pe_callB hb hg hm hv ha hn hdb he hpl
    · exact pe_callB hb hg hm hv ha hn hdb he hpl
    · exact pe_callB hb hg hm hv ha hn hdb he hpl
  refine main.imp fun σ H Q ⟨ρ, α, c, m, h⟩ => dA.bind m h fun vs ws α1 c1 H1 m1 s1 d1 h1 => ?_
  cases z : rdAll c1 ws with
  | none => rw [z] at h1; exact h1.elim
  | some ds =>
    rw [z] at h1
    dsimp only at h1
    cases z2 : bltD f ds with
    | none => rw [z2] at h1; exact h1.elim
    | some d =>
      rw [z2] at h1
      exact ⟨α1, c1, ds, d, m1.cel, rdAll_of m1.cel d1 z, z2, fun v H' s' hd => h1 α1 H' s' v hd⟩
theorem q_isi (O : Ok0 X K) (t : Ty) {tp : Pos} (hg : Gl X "isinstance") (hm : X.mg "isinstance" = none) (hgt : Gl X (Str.ofString (tyName t))) (hmt : X.mg (Str.ofString (tyName t)) = none) (ha : PE X a (dE K n xk ra))
    (hs : starEach [a, .Name (Str.ofString (tyName t)) tp] X.env = (false, eval a X.env) :: starEach [.Name (Str.ofString (tyName t)) tp] X.env) :
    PE X (.Call (.Name "isinstance" p) [a, .Name (Str.ofString (tyName t)) tp] [] pos) (dE K n xk fun ρ c => (ra ρ c).bind fun x c => (rdR x c).bind fun d c => retB (tyD t d) c) := by
  have ht : PE X (.Name (Str.ofString (tyName t)) tp) (tC (.ty (tyName t))) := by
    cases t
    · exact pe_bltn (v := .ty "int") (u := .type "int") hgt hmt (by decide +kernel) rfl
    · exact pe_bltn (v := .ty "str") (u := .type "str") hgt hmt (by decide +kernel) rfl
    · exact pe_bltn (v := .ty "bool") (u := .type "bool") hgt hmt (by decide +kernel) rfl
    · exact pe_bltn (v := .ty "tuple") (u := .type "tuple") hgt hmt (by decide +kernel) rfl
    · exact pe_bltn (v := .ty "list") (u := .type "list") hgt hmt (by decide +kernel) rfl
  refine (pe_callB (isR O t) hg hm (by decide +kernel) (pa_cons ha (pa_cons ht pa_nil rfl) hs) (by decide) (by decide) hs rfl).imp fun σ H Q ⟨ρ, α, c, m, h⟩ => dE.bind m h fun v w α1 c1 H1 m1 s1 d1 h1 => ?_
  obtain ⟨x, ex, h2⟩ := Out.ofO h1.bind m1.cel
  cases z : tyD t x with
  | none => rw [z] at h2; exact h2.elim
  | some k =>
    rw [z] at h2
    exact ⟨α1, c1, v, x, k, rfl, m1.cel, d1.rd m1.cel ex, z, Out.here m1.cel h2 _ (.bl k)⟩
end
end Q
end
section
set_option autoImplicit false
set_option maxHeartbeats 2000000
/-! # The Q layer, part 9: methods of lists and dicts, dict displays -/
namespace Q
open PySem PySem.Spec PyProof.Rows L2

section
variable {X : Cx} {K : KP} {n : Nat} {xk : XKQ} {a b e f t : Expr} {p apos pos : Pos} {ra rb re rf : Env → Cells → Res W}
theorem few_one {l : List (Bool × Sem Value)} {t : Sem Value} (h : l = [(false, t)]) (pos : Pos) {e : Expr} (env : PySem.Env) : ((backTo pos l).all (fun x => !x.1) && (backToKw pos (keywordEach [] env)).all (fun x => x.1.isSome)
    && decide (([e] : List Expr).length + ([] : List Keyword).length + (if ([] : List Keyword).isEmpty then 0 else 1) < 30)) = true := by rw [h]; rfl
theorem few_two {l : List (Bool × Sem Value)} {t u : Sem Value} (h : l = [(false, t), (false, u)]) (pos : Pos) {e f : Expr} (env : PySem.Env) : ((backTo pos l).all (fun x => !x.1) && (backToKw pos (keywordEach [] env)).all (fun x => x.1.isSome)
    && decide (([e, f] : List Expr).length + ([] : List Keyword).length + (if ([] : List Keyword).isEmpty then 0 else 1) < 30)) = true := by rw [h]; rfl
theorem q_app {x : Str} (ha : PE X (.Name x p) (dE K n xk ra)) (he : PE X e (dE K n xk re)) (hs : starEach [e] X.env = (false, eval e X.env) :: starEach [] X.env) (hl : (apos.endLine == pos.line) = true) :
    PE X (.Call (.Attribute (.Name x p) "append" apos) [e] [] pos) (dE K n xk fun ρ c => (ra ρ c).bind fun x c => match x with
    | .c n => (re ρ c).bind fun y c => match c[n]?, y with
      | some (some ds), .v d => if ds.length < sizeLine then .ok (.v .non) (c.set n (some (ds ++ [d]))) else .bad
      | _, _ => .bad
    | _ => .bad) :=
  (pe_bm PySem.F.plainAttrs_list PySem.F.slot_list_append PySem.F.type_list_append mt_append ha (pa_cons he pa_nil hs) rfl (few_one hs pos X.env) hl hs rfl).imp fun σ H Q ⟨ρ, α, c, m, h⟩ =>
    dE.bind m h fun v w α1 c1 H1 m1 s1 d1 h1 => by
    cases w with
    | v _ => exact h1.elim
    | c i =>
      obtain ⟨a, hi, rfl⟩ := d1
      obtain ⟨ys, hy⟩ := m1.cel.trk i a hi
      refine ⟨.inl ⟨rfl, ys, SqL.of hy⟩, dE.bind m1 h1 fun v2 w2 α2 c2 H2 m2 s2 d2 h2 => ?_⟩
      split at h2
      · rename_i ds d hc
        obtain ⟨hz, h3⟩ := Out.iteB h2
        have ai := s2.at_ hi
        obtain ⟨xs, q1, q2, q3⟩ := m2.cel.get hc ai
        have t2 : Dens K H2 (Hid α2 c2) (xs ++ [v2]) (ds ++ [d]) := q2.snoc d2
        exact ⟨a, xs, v2, rfl, rfl, q1, by rw [q2.length]; exact hz, h3 α2 _ (Stp.write m2.cel hc ai t2 (by rw [List.length_append, List.length_singleton]; exact hz)) _ .non⟩
      · exact h2.elim
theorem q_pop {x : Str} (ha : PE X (.Name x p) (dE K n xk ra)) (he : PE X e (dE K n xk re)) (hs : starEach [e] X.env = (false, eval e X.env) :: starEach [] X.env) (hl : (apos.endLine == pos.line) = true) :
    PE X (.Call (.Attribute (.Name x p) "pop" apos) [e] [] pos) (dE K n xk fun ρ c => (ra ρ c).bind fun x c => match x with
    | .c n => (re ρ c).bind fun y c => match c[n]?, y with
      | some (some ds), .v (.int i) => if 0 ≤ i ∧ i < ds.length ∧ i < 2 ^ 62 then match ds[i.toNat]? with
        | some d => .ok (.v d) (c.set n (some (ds.eraseIdx i.toNat)))
        | none => .bad
        else .bad
      | _, _ => .bad
    | _ => .bad) :=
  (pe_bm PySem.F.plainAttrs_list PySem.F.slot_list_pop PySem.F.type_list_pop mt_popAt ha (pa_cons he pa_nil hs) rfl (few_one hs pos X.env) hl hs rfl).imp fun σ H Q ⟨ρ, α, c, m, h⟩ =>
    dE.bind m h fun v w α1 c1 H1 m1 s1 d1 h1 => by
    cases w with
    | v _ => exact h1.elim
    | c i =>
      obtain ⟨a, hi, rfl⟩ := d1
      obtain ⟨ys, hy⟩ := m1.cel.trk i a hi
      refine ⟨.inl ⟨rfl, ys, SqL.of hy⟩, dE.bind m1 h1 fun v2 w2 α2 c2 H2 m2 s2 d2 h2 => ?_⟩
      split at h2
      · rename_i ds j hc
        obtain ⟨hz, h3⟩ := Out.iteB h2
        cases e : ds[j.toNat]? with
        | none => rw [e] at h3; exact h3.elim
        | some d =>
          rw [e] at h3
          have ai := s2.at_ hi
          obtain ⟨xs, q1, q2, q3⟩ := m2.cel.get hc ai
          cases Den.int_inv d2
          obtain ⟨y, e1, dy⟩ := q2.get e
          have hix : seqIndex? j xs.length = some j.toNat := by
            have l := q2.length
            have : ixN xs.length j = some j.toNat := by unfold ixN; rw [if_pos hz.1, if_pos (by omega)]
            exact (ixN_seq this).1
          have st := Stp.write m2.cel hc ai (q2.erase j.toNat) (by have := len_erase ds j.toNat; omega)
          exact ⟨a, xs, j, j.toNat, y, rfl, rfl, q1, by omega, by omega, hix, e1, h3 α2 _ st _ (st.den dy)⟩
      · exact h2.elim
theorem q_frz {r : Env → Cells → Res W} (ha : PE X a (dE K n xk ra)) : PE X a (dE K n xk fun ρ c => (ra ρ c).bind fun x c => match cellAt x c with
    | some (n, ds) => .ok (.v (.lst ds)) (c.set n none)
    | none => .bad) :=
  ha.imp fun σ H Q ⟨ρ, α, c, m, h⟩ => dE.bind m h fun v w α1 c1 H1 m1 s1 d1 h1 => by
    split at h1
    · rename_i i ds e
      unfold cellAt at e
      split at e
      · split at e
        · rename_i e2
          cases e
          obtain ⟨a, hi, rfl⟩ := d1
          obtain ⟨st, dd⟩ := Stp.close m1.cel e2 hi
          exact h1 α1 H1 st _ dd
        · cases e
      · cases e
    · exact h1.elim

/-! ### dicts -/
theorem noDict (O : Ok0 X K) {pins : List (Addr × Obj)} {σ : L2.St} {H : Hp} {s : Shared} {L : Addr → Prop} (I : Inv X pins σ H s) {a₀ : Addr} {ks : List Str} {xs : List V} (h : DctAt K H L a₀ ks xs) : ∀ b, Value.ref a₀ = .ref b → ∃ ob, s.heap.get? b = some ob ∧ ob.dict = none := by
  intro b q
  cases q
  rcases h with ⟨_, h, _, _⟩ | ⟨es, n, lk, hs, kl, p, l⟩
  · exact (isD_at I (.inl ⟨_, h⟩)).2.1 _ rfl
  · exact ⟨_, I.kIn _ _ (by rw [O.hK]; exact lk), rfl⟩
theorem dictGetD (O : Ok0 X K) {pins : List (Addr × Obj)} {σ : L2.St} {H : Hp} {s : Shared} {L : Addr → Prop} (I : Inv X pins σ H s) {a₀ : Addr} {ks : List Str} {xs : List V} {ds : List D} {x : Str} {tk : Tok} {d : D} {v : V} {u : Value} (h : DctAt K H L a₀ ks xs) (r : Dens K H L xs ds)
    (ru : RelV v u) (dv : Den K H L v d) {Q : VK} (q : ∀ v, Den K H L v ((getK ks ds x).getD d) → Q v H) : wpAny (model X.prog X.w) X.A (call (.builtin "dict.get") [.ref a₀, .str x tk, u]) (EP X pins σ Q) X.xe s := by
  have hu : X.A.units + 1 < cLine := by have := O.u; omega
  rcases h with ⟨_, h, _, _⟩ | ⟨es, n, lk, hs, kl, p, l⟩
  · have g : DGet H a₀ (.str x) (valV ((ks.map (Sum.inr : Str → Key)).zip xs) (.inr x)) := .inl ⟨_, .inr x, h, rfl, rfl⟩
    refine d_get2 hu I g ⟨tk, rfl⟩ ru fun w' s' I' rw' => ⟨_, H, I', rw', q _ ?_⟩
    cases z : getK ks ds x with
    | none => rw [(getK_val x r).2 z]; exact dv
    | some d' =>
      obtain ⟨v', hv, dv'⟩ := (getK_val x r).1 d' z
      rw [hv]
      exact dv'
  · have hm := PySem.W.mapOf_K (prog := X.prog) (w := X.w) I.kIn (by rw [O.hK]; exact lk) (by rw [O.hP]; exact kl)
    refine call_meetsIn PySem.F.slot_dict_get hm.typeIs PySem.F.entry_dict_get (PySem.F.args_dict_get_3 _ _ _) (meets_dict_get_default (strKind X.prog X.w) a₀ (strKind_is X.prog X.w x tk) hs u) ⟨_, hm, ?_⟩
    obtain ⟨el⟩ := es
    cases z : getK ks ds x with
    | none =>
      have e : PySem.findBy Value.isStrOf (Array.mk el) x = none := by
        unfold PySem.findBy
        rw [List.find?_toArray]
        exact (getK_find x r p l).2 z
      refine ⟨v, H, I.tok _, ?_, q _ (by rw [z]; exact dv)⟩
      rw [e]
      exact ru
    | some d' =>
      obtain ⟨v', u', hv, rv, dv'⟩ := (getK_find x r p l).1 d' z
      have e : PySem.findBy Value.isStrOf (Array.mk el) x = some u' := by
        unfold PySem.findBy
        rw [List.find?_toArray]
        exact hv
      refine ⟨v', H, I.tok _, ?_, q _ (by rw [z]; exact dv')⟩
      rw [e]
      exact rv
theorem q_get (O : Ok0 X K) {x : Str} (ha : PE X (.Name x p) (dE K n xk ra)) (he : PE X e (dE K n xk re)) (hf : PE X f (dE K n xk rf)) (hs : starEach [e, f] X.env = [(false, eval e X.env), (false, eval f X.env)]) (hl : (apos.endLine == pos.line) = true) :
    PE X (.Call (.Attribute (.Name x p) "get" apos) [e, f] [] pos) (dE K n xk fun ρ c => (ra ρ c).bind fun x c => match x with
    | .v (.dct ks ds) => (re ρ c).bind fun y c => (rf ρ c).bind fun z c => match y, z with
      | .v (.str t), .v d => .ok (.v ((getK ks ds t).getD d)) c
      | _, _ => .bad
    | _ => .bad) := by
  refine ⟨fun pins s σ H Q I ⟨ρ, α, c, m, h⟩ => ?_⟩
  refine wpAny_Call_method rfl (few_two hs pos X.env) hl PySem.F.plainAttrs_dict PySem.F.slot_dict_get PySem.F.type_dict_get ?_
  have r1 := ha.run pins s σ H (fun v H1 => ∃ w α1 c1, Sm K n σ ρ α1 c1 H1 ∧ DenW K H1 α1 c1 v w ∧ Out K (match w with
    | .v (.dct ks ds) => (re ρ c1).bind fun y c => (rf ρ c).bind fun z c => match y, z with
      | .v (.str t), .v d => .ok (.v ((getK ks ds t).getD d)) c
      | _, _ => .bad
    | _ => .bad) α1 c1 H1 (fun w α' c' H' => ∀ v, DenW K H' α' c' v w → Q v H') xk) I (dE.bind m h fun v w α1 c1 H1 m1 s1 d1 h1 => ⟨w, α1, c1, m1, d1, h1⟩)
  refine thn r1 fun u1 s1 ⟨v1, H1, I1, ru1, w, α1, c1, m1, d1, h1⟩ => ?_
  split at h1
  · rename_i ks ds
    obtain ⟨a₀, xs, rfl, hd, t1⟩ := (RdV.den d1 : RdV K H1 (Hid α1 c1) v1 (.dct ks ds)).dct
    obtain rfl : u1 = .ref a₀ := ru1
    refine ⟨dictTy I1 O hd, noDict O I1 hd, ?_⟩
    rw [hs]
    have r2 := he.run pins s1 σ H1 (fun v H2 => ∃ y α2 c2, Sm K n σ ρ α2 c2 H2 ∧ Stp K α1 c1 H1 α2 c2 H2 ∧ DenW K H2 α2 c2 v y ∧ Out K ((rf ρ c2).bind fun z c => match y, z with
      | .v (.str t), .v d => .ok (.v ((getK ks ds t).getD d)) c
      | _, _ => .bad) α2 c2 H2 (fun w α' c' H' => ∀ v, DenW K H' α' c' v w → Q v H') xk) I1 (dE.bind m1 h1 fun v w α2 c2 H2 m2 s2 d2 h2 => ⟨w, α2, c2, m2, s2, d2, h2⟩)
    refine Calls.callWith_builtin rfl (Calls.evalArgs_plain (Calls.spliced_cons (thn r2 fun u2 s2 ⟨v2, H2, I2, ru2, y, α2, c2, m2, st2, d2, h2⟩ => ?_)))
    have r3 := hf.run pins s2 σ H2 (fun v H3 => ∃ z α3 c3, Sm K n σ ρ α3 c3 H3 ∧ Stp K α2 c2 H2 α3 c3 H3 ∧ DenW K H3 α3 c3 v z ∧ Out K (match y, z with
      | .v (.str t), .v d => .ok (.v ((getK ks ds t).getD d)) c3
      | _, _ => .bad) α3 c3 H3 (fun w α' c' H' => ∀ v, DenW K H' α' c' v w → Q v H') xk) I2 (dE.bind m2 h2 fun v w α2 c2 H2 m2 s2 d2 h2 => ⟨w, α2, c2, m2, s2, d2, h2⟩)
    refine Calls.spliced_cons (thn r3 fun u3 s3 ⟨v3, H3, I3, ru3, z, α3, c3, m3, st3, d3, h3⟩ => Calls.spliced_nil ?_)
    split at h3
    · have e2 := Den.str_inv (st3.denW d2)
      subst e2
      obtain ⟨tk, rfl⟩ := ru2
      have st := st2.trans st3
      exact dictGetD O I3 (hd.step st.hfrm st.hfrs) (st.dens t1) ru3 d3 fun v hv => Out.here m3.cel h3 v hv
    · exact h3.elim
  · exact h1.elim
/-! ### a dict display -/
/-- keys and values, from the left -/
def QP (X : Cx) (K : KP) (n : Nat) (xk : XKQ) (pos : Pos) (keys : List (Option Expr)) (values : List Expr) (ks : List Str) (rs : Env → Cells → Res (List W)) : Prop :=
  ∃ trs, PPs X pos keys values trs ∧ ∀ σ H Q, (∃ ρ α c, Sm K n σ ρ α c H ∧ Out K (rs ρ c) α c H (fun ws α' c' H' => ws.length = ks.length ∧ ∀ vs, DenWs K H' α' c' vs ws → Q ((ks.map V.str).zip vs) H') xk) → tPairs trs σ H Q
theorem p_nil : QP X K n xk pos [] [] [] (fun _ c => .ok [] c) := ⟨[], pps_nil, fun σ H Q ⟨ρ, α, c, m, h⟩ => (Out.here m.cel h).2 [] .nil⟩
theorem p_cons {k : Str} {j : Nat} {kp : Pos} {keys : List (Option Expr)} {values : List Expr} {ks : List Str} {rs : Env → Cells → Res (List W)} (he : PE X e (dE K n xk re)) (hr : QP X K n xk pos keys values ks rs) :
    QP X K n xk pos (some (.Constant (.str k) j kp) :: keys) (e :: values) (k :: ks) (fun ρ c => (re ρ c).bind fun w c => (rs ρ c).bind fun ws c => .ok (w :: ws) c) := by
  obtain ⟨trs, h1, h2⟩ := hr
  refine ⟨_, pps_cons pe_str he h1, fun σ H Q ⟨ρ, α, c, m, h⟩ => ?_⟩
  show dE K n xk re σ H fun y H2 => tPairs trs σ H2 fun ps H3 => Q ((V.str k, y) :: ps) H3
  refine dE.bind m h fun v w α1 c1 H1 m1 s1 d1 h3 => h2 _ _ _ ⟨ρ, α1, c1, m1, h3.bind.thn fun ws α2 c2 H2 s2 h4 => ?_⟩
  have h5 := Out.here s2.cel h4
  exact ⟨by simpa using h5.1, fun vs dv => h5.2 _ (.cons (s2.denW d1) dv)⟩
theorem vals_len : ∀ (us : List W) (es : List D), vals us = some es → us.length = es.length
  | [], es, q => by cases q; rfl
  | .v d :: r, es, q => by
    unfold vals at q
    cases z : vals r with
    | none => rw [z] at q; cases q
    | some fs => rw [z] at q; cases q; simp [vals_len r fs z]
  | .c _ :: r, es, q => by unfold vals at q; cases q
theorem merge_new : ∀ (more kvs : List (Key × V)), ((kvs ++ more).map (·.1)).Nodup → mergeK kvs more = kvs ++ more
  | [], kvs, _ => by simp [mergeK]
  | (k, v) :: r, kvs, h => by
    have hn : valV kvs k = none := by
      unfold valV
      rw [Option.map_eq_none_iff, List.find?_eq_none]
      intro p hp e
      simp only [decide_eq_true_eq] at e
      rw [List.map_append, List.nodup_append] at h
      exact h.2.2 p.1 (List.mem_map.mpr ⟨p, hp, rfl⟩) k (by simp) e
    have e1 : mergeK kvs ((k, v) :: r) = mergeK (putK kvs k v) r := rfl
    rw [e1, putK_new v hn, merge_new r (kvs ++ [(k, v)]) (by simpa using h)]
    simp
theorem q_dic {keys : List (Option Expr)} {values : List Expr} {ks : List Str} {rs : Env → Cells → Res (List W)} (hp : QP X K n xk pos keys values ks rs) (hall : keys.all (·.isSome) = true) (hl : keys.length = values.length) (h0 : keys ≠ []) (h15 : keys.length ≤ 15) (hk : ks.length = keys.length) :
    PE X (.Dict keys values pos) (dE K n xk fun ρ c => (rs ρ c).bind fun ws c => match vals ws with
    | some ds => if ks.length = ds.length ∧ ks.Nodup then .ok (.v (.dct ks ds)) c else .bad
    | none => .bad) := by
  obtain ⟨trs, h1, h2⟩ := hp
  refine (pe_disp h1 hall hl h0 h15).imp fun σ H Q ⟨ρ, α, c, m, h⟩ p np => h2 _ _ _ ⟨ρ, α, c, m.step (Stp.new m.cel np), ?_⟩
  refine Out.imp (Out.back (Stp.new m.cel np) h.bind) (fun ws α1 c1 H1 er s1 h3 => ?_) fun _ _ _ _ _ q => q
  have hp1 : H1 p = some (.dK []) := s1.frm p _ (fun z => by
    obtain ⟨ys, e⟩ := Live.lst m.cel z
    rw [np] at e; cases e) upd_same
  cases z : vals ws with
  | none => rw [z] at h3; exact h3.elim
  | some ds =>
    rw [z] at h3
    obtain ⟨⟨e1, e2⟩, _⟩ := Out.iteB h3
    have h5 := h
    dsimp only at h5
    rw [er] at h5
    simp only [Res.bind_ok, z] at h5
    obtain ⟨_, h6⟩ := Out.iteB h5
    refine ⟨?_, fun vs dv => ?_⟩
    · have q : ∀ {us : List W} {es : List D}, vals us = some es → us.length = es.length := fun {us es} q => vals_len us es q
      rw [q z, e1]
    have dd := vals_of dv z
    have len : ks.length = vs.length := by rw [dd.length]; exact e1
    refine ⟨hp1, (ks.map (Sum.inr : Str → Key)).zip vs, ?_, ?_, ?_⟩
    · rw [List.zip_map_left, List.zip_map_left, List.map_map]
      rfl
    · rw [List.length_zip, List.length_map]
      omega
    · have nd : ((([] : List (Key × V)) ++ (ks.map (Sum.inr : Str → Key)).zip vs).map (·.1)).Nodup := by
        rw [List.nil_append, List.map_fst_zip (by rw [List.length_map]; omega)]
        exact List.Pairwise.map _ (fun a b q z => q (Sum.inr.inj z)) e2
      rw [merge_new _ _ nd, List.nil_append]
      have lv : ∀ b, Hid α1 c1 b → b ≠ p := fun b q z => by
        subst z
        obtain ⟨ys, e⟩ := Hid.lst s1.cel q
        rw [hp1] at e; cases e
      have f2 : Frm (fun b => Hid α1 c1 b ∨ b = p) H1 (upd H1 p (.dK ((ks.map (Sum.inr : Str → Key)).zip vs))) := fun b o q e => by
        rw [upd_ne (fun z => q (.inr z))]; exact e
      have g2 : Frs (fun b => Hid α1 c1 b ∨ b = p) (Hid α1 c1) H1 := fun b q => .inl (.inl q)
      have C3 : Cel K α1 c1 (upd H1 p (.dK ((ks.map (Sum.inr : Str → Key)).zip vs))) := by
        refine ⟨s1.cel.len, s1.cel.nod, fun i b e => ?_, fun b q => ?_, fun i es e => ?_⟩
        · obtain ⟨ys, q⟩ := s1.cel.trk i b e
          exact ⟨ys, by rw [upd_ne (ne_of q hp1 (fun z => nomatch z))]; exact q⟩
        · obtain ⟨⟨ys, q1⟩, q2⟩ := s1.cel.zok b q
          exact ⟨⟨ys, by rw [upd_ne (ne_of q1 hp1 (fun z => nomatch z))]; exact q1⟩, q2⟩
        · obtain ⟨b, xs, q1, q2, q3, q4⟩ := s1.cel.at_ i es e
          exact ⟨b, xs, q1, by rw [upd_ne (ne_of q2 hp1 (fun z => nomatch z))]; exact q2, (Dens.skip hp1 q3).step f2 g2, q4⟩
      have st : Stp K α c H α1 c1 (upd H1 p (.dK ((ks.map (Sum.inr : Str → Key)).zip vs))) := by
        refine ⟨C3, s1.ext, s1.zeq, fun b o q e => ?_, fun b q => ?_⟩
        · have ne : b ≠ p := ne_of_none e np
          rw [upd_ne ne]
          exact s1.frm b o q (by rw [upd_ne ne]; exact e)
        · rcases s1.frs b q with z | z
          · exact .inl z
          · right
            rw [upd_ne (lv b (.inl q))] at z
            exact z
      refine h6 α1 _ st _ (.dct (.inl ⟨fun q => lv _ q rfl, .inl upd_same, len, fun z => ?_⟩) ((Dens.skip hp1 dd).step f2 g2))
      apply h0
      subst z
      exact List.eq_nil_of_length_eq_zero hk.symm
end
end Q
end
section
set_option autoImplicit false
set_option maxHeartbeats 2000000
/-! # The Q layer, part 10: what is walked, targets, comprehensions -/
namespace Q
open PySem PySem.Spec PyProof.Rows L2

/-- as Stp, but more lists may be in the making -/
structure Ext (K : KP) (α : AL) (c : Cells) (H : Hp) (α' : AL) (c' : Cells) (H' : Hp) : Prop where
  cel : Cel K α' c' H'
  hfrm : Frm (Hid α c) H H'
  hfrs : Frs (Hid α c) (Hid α' c') H
theorem Stp.xt {K : KP} {α α' : AL} {c c' : Cells} {H H' : Hp} (s : Stp K α c H α' c' H') : Ext K α c H α' c' H' := ⟨s.cel, s.hfrm, s.hfrs⟩
theorem Ext.dens {K : KP} {α α' : AL} {c c' : Cells} {H H' : Hp} (s : Ext K α c H α' c' H') {vs : List V} {ds : List D} (h : Dens K H (Hid α c) vs ds) : Dens K H' (Hid α' c') vs ds := h.step s.hfrm s.hfrs
/-- J gives the items ds, one after another, whatever happens to the cells meanwhile -/
structure Wlk (K : KP) (α : AL) (c : Cells) (H : Hp) (J : It) (ds : List D) : Prop where
  go : ∀ α' c' H' (i : Nat) d, Ext K α c H α' c' H' → ds[i]? = some d → J.go i H' ∧ ∀ x H2, J.yld i H' x H2 → Stp K α' c' H' α' c' H2 ∧ Den K H2 (Hid α' c') x d
  stop : ∀ α' c' H', Ext K α c H α' c' H' → J.stop ds.length H'
section
variable {K : KP} {α : AL} {c : Cells} {H : Hp}
theorem Wlk.lst {a : Addr} {xs : List V} {ds : List D} (h : ¬ Hid α c a) (r : Rd H a (.lst xs)) (t : Dens K H (Hid α c) xs ds) : Wlk K α c H (Itl K.K a) ds where
  go := fun α' c' H' i d s e => by
    have t' := s.dens t
    have r' := s.hfrm.rd h r
    obtain ⟨x, h1, h2⟩ := t'.get e
    refine ⟨⟨xs, x, .inl r', h1⟩, fun y H2 ⟨z, q⟩ => ?_⟩
    subst z
    have := q xs (.inl r')
    rw [h1] at this
    cases this
    exact ⟨Stp.refl s.cel, h2⟩
  stop := fun α' c' H' s => ⟨xs, .inl (s.hfrm.rd h r), by rw [t.length]; exact Nat.le_refl _⟩
theorem Wlk.tup {a : Addr} {xs : List V} {ds : List D} (r : TupAt K H (Hid α c) a xs) (t : Dens K H (Hid α c) xs ds) : Wlk K α c H (Itt K.K a) ds where
  go := fun α' c' H' i d s e => by
    have t' := s.dens t
    have r' := (r.step s.hfrm s.hfrs).sq
    obtain ⟨x, h1, h2⟩ := t'.get e
    refine ⟨⟨xs, x, r', h1⟩, fun y H2 ⟨z, q⟩ => ?_⟩
    subst z
    have := q xs r'
    rw [h1] at this
    cases this
    exact ⟨Stp.refl s.cel, h2⟩
  stop := fun α' c' H' s => ⟨xs, (r.step s.hfrm s.hfrs).sq, by rw [t.length]; exact Nat.le_refl _⟩
theorem Wlk.str (z : Str) : Wlk K α c H (Its z) (z.cps.toList.map fun c => .str ⟨#[c]⟩) where
  go := fun α' c' H' i d s e => by
    rw [List.getElem?_map] at e
    cases q : z.cps.toList[i]? with
    | none => rw [q] at e; cases e
    | some k =>
      rw [q] at e
      cases e
      have hi := (List.getElem?_eq_some_iff.mp q).1
      refine ⟨show i < z.cps.size by simpa using hi, fun y H2 ⟨e1, k', e2, e3⟩ => ?_⟩
      subst e1
      subst e3
      have : z.cps[i]? = some k := by simpa using q
      rw [this] at e2
      cases e2
      exact ⟨Stp.refl s.cel, .str _⟩
  stop := fun α' c' H' s => by
    show z.cps.size ≤ _
    simp
theorem Wlk.rng (lo : Int) (n : Nat) : Wlk K α c H (Itr lo n) (rngD lo n) where
  go := fun α' c' H' i d s e => by
    unfold rngD at e
    rw [List.getElem?_map] at e
    cases q : (List.range n)[i]? with
    | none => rw [q] at e; cases e
    | some k =>
      rw [q] at e
      cases e
      have hi := (List.getElem?_eq_some_iff.mp q).1
      rw [List.length_range] at hi
      have hk : k = i := by rw [List.getElem?_range hi] at q; cases q; rfl
      subst hk
      exact ⟨hi, fun y H2 ⟨e1, e2⟩ => by subst e1; subst e2; exact ⟨Stp.refl s.cel, .int _⟩⟩
  stop := fun α' c' H' s => by
    show n ≤ _
    unfold rngD
    simp
theorem zip_get {xs ys : List D} {i : Nat} {d : D} (h : (zipD xs ys)[i]? = some d) : ∃ x y, xs[i]? = some x ∧ ys[i]? = some y ∧ d = .tup [x, y] := by
  unfold zipD at h
  rw [List.getElem?_map] at h
  cases q : (xs.zip ys)[i]? with
  | none => rw [q] at h; cases h
  | some p =>
    rw [q] at h
    cases h
    obtain ⟨h1, h2⟩ := List.getElem?_zip_eq_some.mp q
    exact ⟨p.1, p.2, h1, h2, rfl⟩
theorem zip_len (xs ys : List D) : xs.length ≤ (zipD xs ys).length ∨ ys.length ≤ (zipD xs ys).length := by
  unfold zipD
  rw [List.length_map, List.length_zip]
  omega
/-- a pair that was just made -/
theorem pair_new {α' : AL} {c' : Cells} {H' : Hp} (C : Cel K α' c' H') {T : Addr} {v u : V} {x y : D} (hT : H' T = none) (dx : Den K H' (Hid α' c') v x) (dy : Den K H' (Hid α' c') u y) :
    Stp K α' c' H' α' c' (upd H' T (.tup [v, u])) ∧ Den K (upd H' T (.tup [v, u])) (Hid α' c') (.ref T) (.tup [x, y]) :=
  ⟨Stp.new C hT, Den.newTup C hT (.cons dx (.cons dy .nil))⟩
theorem Wlk.zipL {a b : Addr} {us vs : List V} {xs ys : List D} (ha : ¬ Hid α c a) (hb : ¬ Hid α c b) (ra : Rd H a (.lst us)) (rb : Rd H b (.lst vs)) (ta : Dens K H (Hid α c) us xs) (tb : Dens K H (Hid α c) vs ys) : Wlk K α c H (Itz K.K a b) (zipD xs ys) where
  go := fun α' c' H' i d s e => by
    obtain ⟨x, y, ex, ey, rfl⟩ := zip_get e
    have ra' := s.hfrm.rd ha ra
    have rb' := s.hfrm.rd hb rb
    obtain ⟨u, h1, h2⟩ := (s.dens ta).get ex
    obtain ⟨v, h3, h4⟩ := (s.dens tb).get ey
    refine ⟨⟨us, vs, u, v, .inl ra', .inl rb', h1, h3⟩, fun w H2 ⟨T, u', v', e1, hT, e2, q1, q2⟩ => ?_⟩
    subst e1; subst e2
    have z1 := q1 us (.inl ra')
    have z2 := q2 vs (.inl rb')
    rw [h1] at z1
    rw [h3] at z2
    cases z1; cases z2
    exact pair_new s.cel hT h2 h4
  stop := fun α' c' H' s => ⟨us, vs, .inl (s.hfrm.rd ha ra), .inl (s.hfrm.rd hb rb), by rw [ta.length, tb.length]; exact zip_len xs ys⟩
theorem Wlk.zipT {a b : Addr} {us vs : List V} {xs ys : List D} (ra : TupAt K H (Hid α c) a us) (rb : TupAt K H (Hid α c) b vs) (ta : Dens K H (Hid α c) us xs) (tb : Dens K H (Hid α c) vs ys) : Wlk K α c H (RZ.ItzT K.K a b) (zipD xs ys) where
  go := fun α' c' H' i d s e => by
    obtain ⟨x, y, ex, ey, rfl⟩ := zip_get e
    have ra' := (ra.step s.hfrm s.hfrs).sq
    have rb' := (rb.step s.hfrm s.hfrs).sq
    obtain ⟨u, h1, h2⟩ := (s.dens ta).get ex
    obtain ⟨v, h3, h4⟩ := (s.dens tb).get ey
    refine ⟨⟨us, vs, u, v, ra', rb', h1, h3⟩, fun w H2 ⟨T, u', v', e1, hT, e2, q1, q2⟩ => ?_⟩
    subst e1; subst e2
    have z1 := q1 us ra'
    have z2 := q2 vs rb'
    rw [h1] at z1
    rw [h3] at z2
    cases z1; cases z2
    exact pair_new s.cel hT h2 h4
  stop := fun α' c' H' s => ⟨us, vs, (ra.step s.hfrm s.hfrs).sq, (rb.step s.hfrm s.hfrs).sq, by rw [ta.length, tb.length]; exact zip_len xs ys⟩
end

/-- iter is walked by the target tg as the evaluator says -/
def QI (X : Cx) (K : KP) (n : Nat) (xk : XKQ) (tg iter : Expr) (r : Env → Cells → Res (List D)) : Prop :=
  ∃ wi, PI X tg iter wi ∧ ∀ σ H R, (∃ ρ α c, Sm K n σ ρ α c H ∧ Out K (r ρ c) α c H (fun ds α1 c1 H1 => ∀ J, Wlk K α1 c1 H1 J ds → R J H1) xk) → wi σ H R
section
variable {X : Cx} {K : KP} {n : Nat} {xk : XKQ} {a b e t tg : Expr} {p pos : Pos} {ra rb re : Env → Cells → Res W}
theorem i_val (O : Ok0 X K) (he : PE X e (dE K n xk re)) : QI X K n xk tg e (fun ρ c => (re ρ c).bind fun x c => match x with
    | .v d => .ofO (walkD d) c
    | .c _ => .bad) := by
  refine ⟨fun σ H R => iList X.K (dE K n xk re) σ H R ∨ iTup X.K (dE K n xk re) σ H R ∨ iStr (dE K n xk re) σ H R, ⟨fun pins s σ H R I h => ?_⟩, fun σ H R ⟨ρ, α, c, m, h⟩ => ?_⟩
  · rcases h with h | h | h
    · exact (pi_list he).run pins s σ H R I h
    · exact (pi_tup he).run pins s σ H R I h
    · exact (pi_str he).run pins s σ H R I h
  · dsimp only at h
    cases er : re ρ c with
    | exc x c1 => exact .inl ⟨ρ, α, c, m, by rw [er] at h ⊢; exact h⟩
    | bad => rw [er] at h; exact h.elim
    | ok w c1 =>
      rw [er] at h
      cases w with
      | c _ => exact h.elim
      | v d =>
        cases d with
        | lst ds =>
          refine .inl ⟨ρ, α, c, m, ?_⟩
          rw [er]
          intro α1 H1 s v hv
          cases hv with
          | lst h1 h2 h3 => exact ⟨_, rfl, ⟨_, .inl h2⟩, by rw [O.hK]; exact h α1 H1 s _ (Wlk.lst h1 h2 h3)⟩
        | tup ds =>
          refine .inr (.inl ⟨ρ, α, c, m, ?_⟩)
          rw [er]
          intro α1 H1 s v hv
          cases hv with
          | tup h1 h3 => exact ⟨_, rfl, ⟨_, by rw [O.hK]; exact h1.sq⟩, by rw [O.hK]; exact h α1 H1 s _ (Wlk.tup h1 h3)⟩
        | str z =>
          refine .inr (.inr ⟨ρ, α, c, m, ?_⟩)
          rw [er]
          intro α1 H1 s v hv
          cases Den.str_inv hv
          have h' : Out K (Res.ofO (walkD (.str z)) c1) α c H (fun ds α1 c1 H1 => ∀ J, Wlk K α1 c1 H1 J ds → R J H1) xk := h
          unfold walkD at h'
          dsimp only at h'
          split at h'
          · exact ⟨z, rfl, h' α1 H1 s _ (Wlk.str z)⟩
          · exact h'.elim
        | _ => exact h.elim
theorem i_rng (hg : Gl X "range") (hm : X.mg "range" = none) (ha : PE X a (dE K n xk ra)) (hs : starEach [a] X.env = [(false, eval a X.env)]) (hs' : starEach [a] X.env = (false, eval a X.env) :: starEach [] X.env) :
    QI X K n xk tg (.Call (.Name "range" p) [a] [] pos) (fun ρ c => (ra ρ c).bind fun x c => match x with
    | .v (.int j) => if okInt j = true then .ok (rngD 0 j.toNat) c else .bad
    | _ => .bad) := by
  refine ⟨_, pi_range1 hg hm (pa_cons ha pa_nil hs') hs, fun σ H R ⟨ρ, α, c, m, h⟩ => dE.bind m h fun v w α1 c1 H1 m1 s1 d1 h1 => ?_⟩
  split at h1
  · rename_i j
    obtain ⟨hj, h2⟩ := Out.iteB h1
    cases Den.int_inv d1
    unfold okInt at hj
    have hj' := of_decide_eq_true hj
    exact ⟨j, rfl, hj'.1, hj'.2, Out.here m1.cel h2 _ (Wlk.rng 0 j.toNat)⟩
  · exact h1.elim
theorem i_rng2 (hg : Gl X "range") (hm : X.mg "range" = none) (ha : PE X a (dE K n xk ra)) (hb : PE X b (dE K n xk rb)) (h1 : starEach [a, b] X.env = [(false, eval a X.env), (false, eval b X.env)]) (h2 : starEach [b] X.env = [(false, eval b X.env)])
    (h3 : starEach [a, b] X.env = (false, eval a X.env) :: starEach [b] X.env) (h4 : starEach [b] X.env = (false, eval b X.env) :: starEach [] X.env) :
    QI X K n xk tg (.Call (.Name "range" p) [a, b] [] pos) (fun ρ c => (ra ρ c).bind fun x c => (rb ρ c).bind fun y c => match x, y with
    | .v (.int i), .v (.int j) => if okInt i = true ∧ okInt j = true then .ok (rngD i (j - i).toNat) c else .bad
    | _, _ => .bad) := by
  refine ⟨_, pi_range2 hg hm (pa_cons ha (pa_cons hb pa_nil h4) h3) h1 h2, fun σ H R ⟨ρ, α, c, m, h⟩ => dE.bind m h fun v w α1 c1 H1 m1 s1 d1 h1 => dE.bind m1 h1 fun v2 w2 α2 c2 H2 m2 s2 d2 h2 => ?_⟩
  split at h2
  · rename_i i j
    obtain ⟨⟨hi, hj⟩, h3⟩ := Out.iteB h2
    cases Den.int_inv d1
    cases Den.int_inv d2
    unfold okInt at hi hj
    have hi' := of_decide_eq_true hi
    have hj' := of_decide_eq_true hj
    exact ⟨i, j, rfl, ⟨hi'.1, hi'.2, hj'.1, hj'.2⟩, Out.here m2.cel h3 _ (Wlk.rng i _)⟩
  · exact h2.elim
theorem i_zip (O : Ok0 X K) {elts : List Expr} {kk : Nat} {tpos : Pos} (hg : Gl X "zip") (hm : X.mg "zip" = none) (ha : PE X a (dE K n xk ra)) (hb : PE X b (dE K n xk rb)) (h1 : starEach [a, b] X.env = (false, eval a X.env) :: starEach [b] X.env) (h2 : starEach [b] X.env = (false, eval b X.env) :: starEach [] X.env)
    (h3 : (backTo pos (starEach [b] X.env)).any (·.1) = false) :
    QI X K n xk (.Tuple elts kk tpos) (.Call (.Name "zip" p) [a, b] [] pos) (fun ρ c => (ra ρ c).bind fun x c => (rb ρ c).bind fun y c => match x, y with
    | .v (.tup xs), .v (.tup ys) => .ok (zipD xs ys) c
    | .v (.lst xs), .v (.lst ys) => .ok (zipD xs ys) c
    | _, _ => .bad) := by
  refine ⟨_, RZ.pi_zipA hg hm (pa_cons ha (pa_cons hb pa_nil h2) h1) h1 h3, fun σ H R ⟨ρ, α, c, m, h⟩ => dE.bind m h fun v w α1 c1 H1 m1 s1 d1 h1 => dE.bind m1 h1 fun v2 w2 α2 c2 H2 m2 s2 d2 h2 => ?_⟩
  have d1' := s2.denW d1
  split at h2
  · cases d1' with
    | tup q1 t1 =>
      cases d2 with
      | tup q2 t2 => exact ⟨_, _, _, _, rfl, .inr ⟨by rw [O.hK]; exact q1.sq, by rw [O.hK]; exact q2.sq, by rw [O.hK]; exact Out.here m2.cel h2 _ (Wlk.zipT q1 q2 t1 t2)⟩⟩
  · cases d1' with
    | lst q1 r1 t1 =>
      cases d2 with
      | lst q2 r2 t2 => exact ⟨_, _, _, _, rfl, .inl ⟨.inl r1, .inl r2, by rw [O.hK]; exact Out.here m2.cel h2 _ (Wlk.zipL q1 q2 r1 r2 t1 t2)⟩⟩
  · exact h2.elim
end

/-! ### targets -/
def gsOf : List Nat → TGs
  | [] => gNil
  | i :: is => gCons (gName i) (gsOf is)
def gOf (K : KP) : List Nat → TG
  | [i] => gName i
  | is => gTup K.K is.length (gsOf is)
inductive NamesOf (X : Cx) : List Expr → List Nat → Prop
  | nil : NamesOf X [] []
  | cons {x : Str} {pos : Pos} {i : Nat} {es : List Expr} {is : List Nat} : X.N[i]? = some x → Loc X.env.scope x → (X.fn x = true ∨ X.env.scope.names.lookup x = some .local) → NamesOf X es is → NamesOf X (.Name x pos :: es) (i :: is)
section
variable {X : Cx} {K : KP} {n : Nat}
theorem names_pgs (hN : X.N.Nodup) : ∀ {es : List Expr} {is : List Nat}, NamesOf X es is → PGs X es (gsOf is)
  | _, _, .nil => pgs_nil
  | _, _, .cons h1 h2 h3 t => pgs_cons (pg_name hN h1 h2 h3) (names_pgs hN t) rfl
theorem names_len : ∀ {es : List Expr} {is : List Nat}, NamesOf X es is → (assignEach es X.env).length = is.length
  | _, _, .nil => rfl
  | _, _, .cons _ _ _ t => congrArg (· + 1) (names_len t)
theorem names_star : ∀ {es : List Expr} {is : List Nat}, NamesOf X es is → (assignEach es X.env).findIdx? (·.1) = none
  | _, _, .nil => rfl
  | _, _, .cons (x := x) (pos := pos) (es := es) _ _ _ t => by
    have ih := names_star t
    show List.findIdx? (·.1) ((false, assign (.Name x pos) X.env) :: assignEach es X.env) = none
    rw [List.findIdx?_cons, ih]
    rfl
/-- the syntax of a target -/
inductive TgOf (X : Cx) : Expr → List Nat → Prop
  | one {x : Str} {pos : Pos} {i : Nat} : X.N[i]? = some x → Loc X.env.scope x → (X.fn x = true ∨ X.env.scope.names.lookup x = some .local) → TgOf X (.Name x pos) [i]
  | many {es : List Expr} {is : List Nat} {k : Nat} {pos : Pos} : NamesOf X es is → 2 ≤ is.length → TgOf X (.Tuple es k pos) is
theorem tg_pg (hN : X.N.Nodup) (hc : X.calm = true) (hK : X.K = K.K) {tg : Expr} {is : List Nat} (h : TgOf X tg is) : PG X tg (gOf K is) := by
  cases h with
  | one h1 h2 h3 => exact pg_name hN h1 h2 h3
  | @many es is k pos h l =>
    match is, h, l with
    | i :: j :: r, h, _ =>
      have q := pg_tup (pos := pos) (k := k) hc (names_pgs hN h) (names_len h) (names_star h)
      rw [hK] at q
      exact q
theorem bind_ok {H : Hp} {α : AL} {c : Cells} : ∀ {is : List Nat} {ds : List D} {vs : List V} {σ : L2.St} {ρ : Env} {Q : L2.St → Hp → Prop}, Sm K n σ ρ α c H → Dens K H (Hid α c) vs ds → ds.length = is.length →
    (∀ σ1, Sm K n σ1 (bindNames is (ds.map .v) ρ) α c H → (∀ i, i ∉ is → σ1[i]? = σ[i]?) → Q σ1 H) → gsOf is vs σ H Q
  | [], [], _, σ, ρ, Q, m, .nil, _, q => ⟨rfl, q σ m fun _ _ => rfl⟩
  | i :: is, d :: ds, _, σ, ρ, Q, m, .cons (v := v) (vs := vs) h t, l, q => ⟨v, vs, rfl, bind_ok (m.set (i := i) (w := .v d) h) t (by simpa using l) fun σ1 m1 e => q σ1 m1 fun j hj => by
      rw [e j (fun z => hj (.tail _ z)), List.getElem?_set_ne (fun z => hj (by rw [z]; exact .head _))]⟩
  | [], _ :: _, _, _, _, _, _, _, l, _ => by simp at l
  | _ :: _, [], _, _, _, _, _, _, l, _ => by simp at l
theorem gOf_ok {H : Hp} {α : AL} {c : Cells} {is : List Nat} {d : D} {x : V} {σ : L2.St} {ρ ρ1 : Env} {Q : L2.St → Hp → Prop} (m : Sm K n σ ρ α c H) (h : Den K H (Hid α c) x d) (e : bindIs is d ρ = some ρ1)
    (q : ∀ σ1, Sm K n σ1 ρ1 α c H → (∀ i, i ∉ is → σ1[i]? = σ[i]?) → Q σ1 H) : gOf K is x σ H Q := by
  have many : (∀ i, is ≠ [i]) → gTup K.K is.length (gsOf is) x σ H Q := by
    intro hne
    unfold bindIs at e
    split at e
    · rename_i i
      exact absurd rfl (hne i)
    · split at e
      · rename_i ds
        split at e
        · rename_i hl
          cases e
          cases h with
          | tup h t => exact ⟨_, _, rfl, h.sq, by rw [t.length]; exact hl.1, bind_ok m t hl.1 q⟩
        · cases e
      · cases e
  match is, e, q, many with
  | [], _, _, many => exact many (fun _ z => nomatch z)
  | [i], e, q, _ =>
    unfold bindIs at e
    dsimp only at e
    split at e
    · cases e
      exact q _ (m.set (w := .v d) h) fun j hj => by rw [List.getElem?_set_ne (fun z => hj (by rw [z]; exact .head _))]
    · cases e
  | i :: j :: r, _, _, many => exact many (fun _ z => by cases z)
/-! ### a comprehension -/
theorem wipe_get (σ : L2.St) : ∀ (vs : List Nat) (i : Nat), (wipe σ vs)[i]? = if i ∈ vs then σ[i]?.map (fun _ => none) else σ[i]?
  | [], i => by simp [wipe]
  | v :: vs, i => by
    have ih := wipe_get σ vs i
    unfold wipe
    by_cases e : v = i
    · subst e
      by_cases hl : v < (wipe σ vs).length
      · rw [List.getElem?_set_self hl, if_pos (.head _)]
        rw [wipe_length] at hl
        rw [List.getElem?_eq_getElem hl]
        rfl
      · rw [List.getElem?_eq_none (by simp; omega), if_pos (.head _)]
        rw [wipe_length] at hl
        rw [List.getElem?_eq_none (by omega)]
        rfl
    · rw [List.getElem?_set_ne e, ih]
      by_cases hm : i ∈ vs
      · rw [if_pos hm, if_pos (.tail _ hm)]
      · rw [if_neg hm, if_neg (fun z => by cases z with | head => exact e rfl | tail _ z => exact hm z)]
theorem wipe_same {σ σ1 : L2.St} {vs is : List Nat} (hs : ∀ i ∈ is, i ∈ vs) (e : ∀ i, i ∉ is → σ1[i]? = (wipe σ vs)[i]?) (hl : σ1.length = σ.length) : wipe σ1 vs = wipe σ vs := by
  apply List.ext_getElem?
  intro i
  rw [wipe_get, wipe_get]
  by_cases hm : i ∈ vs
  · rw [if_pos hm, if_pos hm]
    by_cases h : i < σ.length
    · rw [List.getElem?_eq_getElem h, List.getElem?_eq_getElem (by omega)]
      rfl
    · rw [List.getElem?_eq_none (by omega), List.getElem?_eq_none (by omega)]
  · rw [if_neg hm, if_neg hm, e i (fun z => hm (hs i z)), wipe_get, if_neg hm]
theorem wipeE_get (ρ : Env) : ∀ (vs : List Nat) (i : Nat) (w : W), (wipeE ρ vs)[i]? = some (some w) → ρ[i]? = some (some w) ∧ i ∉ vs
  | [], i, w, h => ⟨h, fun z => nomatch z⟩
  | v :: vs, i, w, h => by
    unfold wipeE at h
    by_cases e : v = i
    · subst e
      by_cases hl : v < (wipeE ρ vs).length
      · rw [List.getElem?_set_self hl] at h; cases h
      · rw [List.getElem?_eq_none (by simp; omega)] at h; cases h
    · rw [List.getElem?_set_ne e] at h
      obtain ⟨h1, h2⟩ := wipeE_get ρ vs i w h
      exact ⟨h1, fun z => by cases z with | head => exact e rfl | tail _ z => exact h2 z⟩
theorem wipeE_length (ρ : Env) : ∀ vs : List Nat, (wipeE ρ vs).length = ρ.length
  | [] => rfl
  | v :: vs => by unfold wipeE; rw [List.length_set, wipeE_length ρ vs]
theorem Sm.wipe {σ : L2.St} {ρ : Env} {α : AL} {c : Cells} {H : Hp} (m : Sm K n σ ρ α c H) (vs : List Nat) : Sm K n (L2.wipe σ vs) (wipeE ρ vs) α c H :=
  ⟨m.cel, by rw [wipe_length, wipeE_length]; exact m.len, by rw [wipe_length]; exact m.ln, fun i w h => by
    obtain ⟨h1, h2⟩ := wipeE_get ρ vs i w h
    obtain ⟨v, h3, h4⟩ := m.loc i w h1
    exact ⟨v, by rw [wipe_get, if_neg h2]; exact h3, h4⟩⟩
end
end Q
end
section
set_option autoImplicit false
set_option maxHeartbeats 4000000
/-! # The Q layer, part 11: list comprehensions -/
namespace Q
open PySem PySem.Spec PyProof.Rows L2

/-- a list at p is in the making -/
def AL.hide (α : AL) (p : Addr) : AL := ⟨α.l, fun a => α.z a ∨ a = p⟩
section
variable {K : KP} {α : AL} {c : Cells} {H : Hp} {p : Addr}
/-- the list in the making may be written -/
theorem fill_frm {α : AL} {c : Cells} {H : Hp} {p : Addr} (h : α.z p) (o : HO) : Frm (Hid α c) H (upd H p o) := fun a u q e => by
  rw [upd_ne (fun z => q (.inr (by rw [z]; exact h)))]; exact e
theorem frs_refl {L : Addr → Prop} {H : Hp} : Frs L L H := fun _ z => .inl z
theorem Cel.fill (C : Cel K α c H) (h : α.z p) (ys : List V) : Cel K α c (upd H p (.lst ys)) :=
  ⟨C.len, C.nod, fun n a e => by
    by_cases z : a = p
    · subst z; exact ⟨ys, upd_same⟩
    · rw [upd_ne z]; exact C.trk n a e, fun a q => by
    refine ⟨?_, (C.zok a q).2⟩
    by_cases z : a = p
    · subst z; exact ⟨ys, upd_same⟩
    · rw [upd_ne z]; exact (C.zok a q).1, fun n ds e => by
    obtain ⟨a, xs, h1, h2, h3, h4⟩ := C.at_ n ds e
    exact ⟨a, xs, h1, by rw [upd_ne (fun z => (C.zok p h).2 (by rw [← z]; exact List.mem_of_getElem? h1))]; exact h2, h3.step (fill_frm h _) frs_refl, h4⟩⟩
theorem Sm.fill {n : Nat} {σ : L2.St} {ρ : Env} (m : Sm K n σ ρ α c H) (h : α.z p) (ys : List V) : Sm K n σ ρ α c (upd H p (.lst ys)) :=
  ⟨m.cel.fill h ys, m.len, m.ln, fun i w e => by
    obtain ⟨v, h1, h2⟩ := m.loc i w e
    refine ⟨v, h1, ?_⟩
    cases w with
    | v d => exact Den.step (fill_frm h _) frs_refl h2
    | c k => exact h2⟩
/-- a new list begins to be made -/
theorem Ext.hide (C : Cel K α c H) (h : H p = none) (ys : List V) : Ext K α c H (α.hide p) c (upd H p (.lst ys)) := by
  have f : Frm (Hid α c) H (upd H p (.lst ys)) := fun a u _ e => by rw [upd_ne (ne_of_none e h)]; exact e
  have g : Frs (Hid α c) (Hid (α.hide p) c) H := fun a z => by
    rcases z with z | z | z
    · exact .inl (.inl z)
    · exact .inl (.inr z)
    · exact .inr (by rw [z]; exact h)
  refine ⟨⟨C.len, C.nod, fun n a e => ?_, fun a q => ?_, fun n ds e => ?_⟩, f, g⟩
  · obtain ⟨zs, q⟩ := C.trk n a e
    exact ⟨zs, by rw [upd_ne (ne_of_none q h)]; exact q⟩
  · rcases q with q | q
    · obtain ⟨⟨zs, q1⟩, q2⟩ := C.zok a q
      exact ⟨⟨zs, by rw [upd_ne (ne_of_none q1 h)]; exact q1⟩, q2⟩
    · subst q
      refine ⟨⟨ys, upd_same⟩, fun z => ?_⟩
      obtain ⟨n, hn⟩ := List.getElem?_of_mem z
      obtain ⟨zs, q⟩ := C.trk n _ hn
      rw [h] at q; cases q
  · obtain ⟨a, xs, h1, h2, h3, h4⟩ := C.at_ n ds e
    exact ⟨a, xs, h1, by rw [upd_ne (ne_of_none h2 h)]; exact h2, h3.step f g, h4⟩
theorem Ext.denW {α α' : AL} {c c' : Cells} {H H' : Hp} (s : Ext K α c H α' c' H') (l : α.l <+: α'.l) : ∀ {v : V} {w : W}, DenW K H α c v w → DenW K H' α' c' v w
  | _, .v _, h => Den.step s.hfrm s.hfrs h
  | _, .c _, ⟨a, h, e⟩ => ⟨a, by
      obtain ⟨t, e⟩ := l
      rw [← e, List.getElem?_append_left ((List.getElem?_eq_some_iff.mp h).1)]
      exact h, e⟩
theorem Ext.sm {α α' : AL} {c c' : Cells} {H H' : Hp} {n : Nat} {σ : L2.St} {ρ : Env} (s : Ext K α c H α' c' H') (l : α.l <+: α'.l) (m : Sm K n σ ρ α c H) : Sm K n σ ρ α' c' H' :=
  ⟨s.cel, m.len, m.ln, fun i w h => by obtain ⟨v, h1, h2⟩ := m.loc i w h; exact ⟨v, h1, s.denW l h2⟩⟩

/-- how it stands while a comprehension's list is made at p; from the state (α1, c1, H1) behind its source -/
structure Mkg (K : KP) (α1 : AL) (c1 : Cells) (H1 : Hp) (p : Addr) (α : AL) (c : Cells) (H : Hp) : Prop where
  cel : Cel K α c H
  ext : α1.l <+: α.l
  z : α.z = fun a => α1.z a ∨ a = p
  frm : Frm (Live α1 c1) H1 H
  frs : Frs (Live α1 c1) (Live α c) H1
theorem Mkg.start {α1 : AL} {c1 : Cells} {H1 : Hp} (C : Cel K α1 c1 H1) (h : H1 p = none) : Mkg K α1 c1 H1 p (α1.hide p) c1 (upd H1 p (.lst [])) :=
  ⟨(Ext.hide C h []).cel, List.prefix_refl _, rfl, fun a o _ e => by rw [upd_ne (ne_of_none e h)]; exact e, fun a z => .inl z⟩
theorem Mkg.xt {α1 : AL} {c1 : Cells} {H1 : Hp} (h : H1 p = none) (g : Mkg K α1 c1 H1 p α c H) : Ext K α1 c1 H1 α c H :=
  ⟨g.cel, g.frm.hid, fun a q => by
    rcases q with q | q
    · rcases g.frs a q with z | z
      · exact .inl (.inl z)
      · exact .inr z
    · rw [g.z] at q
      rcases q with q | q
      · exact .inl (.inr q)
      · exact .inr (by rw [q]; exact h)⟩
theorem Mkg.zp {α1 : AL} {c1 : Cells} {H1 : Hp} (g : Mkg K α1 c1 H1 p α c H) : α.z p := by rw [g.z]; exact .inr rfl
theorem Mkg.step {α1 : AL} {c1 : Cells} {H1 : Hp} {α' : AL} {c' : Cells} {H' : Hp} (g : Mkg K α1 c1 H1 p α c H) (s : Stp K α c H α' c' H') : Mkg K α1 c1 H1 p α' c' H' :=
  ⟨s.cel, g.ext.trans s.ext, by rw [s.zeq, g.z], fun a o h e => s.frm a o (g.frs.not h (by rw [e]; simp)) (g.frm a o h e), fun a z => by
    rcases s.frs a z with q | q
    · exact g.frs a q
    · rcases Classical.em (Live α1 c1 a) with h | h
      · exact .inl h
      · right
        cases e : H1 a with
        | none => rfl
        | some o => rw [g.frm a o h e] at q; cases q⟩
theorem Mkg.fill {α1 : AL} {c1 : Cells} {H1 : Hp} (h : H1 p = none) (g : Mkg K α1 c1 H1 p α c H) (ys : List V) : Mkg K α1 c1 H1 p α c (upd H p (.lst ys)) :=
  ⟨g.cel.fill g.zp ys, g.ext, g.z, fun a o q e => by rw [upd_ne (ne_of_none e h)]; exact g.frm a o q e, g.frs⟩
/-- the list is made -/
theorem Mkg.done {α1 : AL} {c1 : Cells} {H1 : Hp} (C : Cel K α1 c1 H1) (h : H1 p = none) (g : Mkg K α1 c1 H1 p α c H) {xs : List V} {ds : List D} (hp : H p = some (.lst xs)) (t : Dens K H (Hid α c) xs ds) :
    Stp K α1 c1 H1 ⟨α.l, α1.z⟩ c H ∧ Den K H (Hid ⟨α.l, α1.z⟩ c) (.ref p) (.lst ds) := by
  have f : Frm (Hid α c) H H := fun _ _ _ e => e
  have sm : Frs (Hid α c) (Hid ⟨α.l, α1.z⟩ c) H := fun a z => by
    rcases z with z | z
    · exact .inl (.inl z)
    · exact .inl (.inr (by rw [g.z]; exact .inl z))
  have C2 : Cel K ⟨α.l, α1.z⟩ c H := ⟨g.cel.len, g.cel.nod, g.cel.trk, fun a q => g.cel.zok a (by rw [g.z]; exact .inl q), fun n ds e => by
    obtain ⟨a, xs, h1, h2, h3, h4⟩ := g.cel.at_ n ds e
    exact ⟨a, xs, h1, h2, h3.step f sm, h4⟩⟩
  refine ⟨⟨C2, g.ext, rfl, g.frm, g.frs⟩, .lst (fun z => ?_) (.inl hp) (t.step f sm)⟩
  rcases z with ⟨n, _, _, q⟩ | z
  · exact (g.cel.zok p g.zp).2 (List.mem_of_getElem? q)
  · obtain ⟨⟨ys, q⟩, _⟩ := C.zok p z
    rw [h] at q; cases q
/-- .. and is a cell from now on -/
theorem Mkg.doneC {α1 : AL} {c1 : Cells} {H1 : Hp} (C : Cel K α1 c1 H1) (h : H1 p = none) (g : Mkg K α1 c1 H1 p α c H) {xs : List V} {ds : List D} (hp : H p = some (.lst xs)) (t : Dens K H (Hid α c) xs ds) (hl : ds.length ≤ sizeLine) :
    Stp K α1 c1 H1 ⟨α.l ++ [p], α1.z⟩ (c ++ [some ds]) H := by
  have lv : ∀ a, Live ⟨α.l ++ [p], α1.z⟩ (c ++ [some ds]) a ↔ Live α c a ∨ a = p := fun a => live_snoc (α := ⟨α.l, α1.z⟩) g.cel.len
  have f : Frm (Hid α c) H H := fun _ _ _ e => e
  have sm : Frs (Hid α c) (Hid ⟨α.l ++ [p], α1.z⟩ (c ++ [some ds])) H := fun a z => by
    left
    rcases z with z | z
    · rcases (lv a).mp z with z | z
      · exact .inl z
      · exact .inr (by rw [g.z]; exact .inr z)
    · exact .inr (by rw [g.z]; exact .inl z)
  have np : p ∉ α.l := (g.cel.zok p g.zp).2
  refine ⟨⟨by simp [g.cel.len], ?_, fun n a e => ?_, fun a q => ⟨(g.cel.zok a (by rw [g.z]; exact .inl q)).1, fun z => ?_⟩, fun n es e => ?_⟩, ?_, rfl, g.frm, fun a z => ?_⟩
  · show (α.l ++ [p]).Nodup
    rw [List.nodup_append]
    refine ⟨g.cel.nod, by simp, fun a ha b hb e => ?_⟩
    simp at hb
    subst hb; subst e
    exact np ha
  · have e' : (α.l ++ [p])[n]? = some a := e
    by_cases hn : n < α.l.length
    · rw [List.getElem?_append_left hn] at e'
      exact g.cel.trk n a e'
    · rw [List.getElem?_append_right (by omega)] at e'
      have : n - α.l.length = 0 := by
        have q := (List.getElem?_eq_some_iff.mp e').1
        simp at q; omega
      rw [this] at e'
      simp at e'
      subst e'
      exact ⟨xs, hp⟩
  · have z' : a ∈ α.l ++ [p] := z
    rw [List.mem_append] at z'
    rcases z' with z' | z'
    · exact (g.cel.zok a (by rw [g.z]; exact .inl q)).2 z'
    · simp at z'
      subst z'
      obtain ⟨⟨ys, q1⟩, _⟩ := C.zok a q
      rw [h] at q1; cases q1
  · have hl2 : (α.l ++ [p]) = (⟨α.l ++ [p], α1.z⟩ : AL).l := rfl
    by_cases hn : n < c.length
    · rw [List.getElem?_append_left hn] at e
      obtain ⟨a, us, h1, h2, h3, h4⟩ := g.cel.at_ n es e
      exact ⟨a, us, by show (α.l ++ [p])[n]? = some a; rw [List.getElem?_append_left (List.getElem?_eq_some_iff.mp h1).1]; exact h1, h2, h3.step f sm, h4⟩
    · rw [List.getElem?_append_right (by omega)] at e
      have hn0 : n - c.length = 0 := by
        have q := (List.getElem?_eq_some_iff.mp e).1
        simp at q; omega
      rw [hn0] at e
      simp at e
      subst e
      refine ⟨p, xs, ?_, hp, t.step f sm, hl⟩
      show (α.l ++ [p])[n]? = some p
      have l := g.cel.len
      rw [List.getElem?_append_right (by omega)]
      have : n - α.l.length = 0 := by omega
      rw [this]
      rfl
  · exact g.ext.trans (List.prefix_append _ _)
  · rcases (lv a).mp z with z | z
    · exact g.frs a z
    · exact .inr (by rw [z]; exact h)
end

theorem PTs.imp {X : Cx} {e : List Expr} {t t' : TT} (h : PTs X e t) (f : ∀ σ H Q, t' σ H Q → t σ H Q) : PTs X e t' := ⟨fun pins s σ H Q I q => h.run pins s σ H Q I (f σ H Q q)⟩
def xF : XKQ := fun _ _ _ _ => False
/-- the last state of a loop that ends well -/
theorem lc_ok {K : KP} {B : Type} {α : AL} {c : Cells} {H : Hp} {k : B → AL → Cells → Hp → Prop} {x : XKQ} {f : D → Cells → Res (List D)} {g : List D → Cells → Res B} {ds : List D} (h : Out K ((lcLoop f ds c).bind g) α c H k x) : ∃ bs c', lcLoop f ds c = .ok bs c' := by
  have no : ∀ (ds : List D) (c : Cells) e c', lcLoop f ds c ≠ .exc e c' := by
    intro ds
    induction ds with
    | nil => intro c e c' z; cases z
    | cons d r ih =>
      intro c e c' z
      unfold lcLoop at z
      cases q : f d c with
      | ok a c1 =>
        rw [q] at z
        simp only [noExc_ok, Res.bind_ok] at z
        cases q2 : lcLoop f r c1 with
        | ok b c2 => rw [q2] at z; cases z
        | exc e2 c2 => exact ih c1 e2 c2 q2
        | bad => rw [q2] at z; cases z
      | exc e2 c2 => rw [q] at z; cases z
      | bad => rw [q] at z; cases z
  cases e : lcLoop f ds c with
  | ok bs c' => exact ⟨bs, c', rfl⟩
  | exc x c' => exact absurd e (no ds c x c')
  | bad => rw [e] at h; exact h.elim
theorem lc_cons {f : D → Cells → Res (List D)} {d : D} {r : List D} {c cf : Cells} {bs : List D} (h : lcLoop f (d :: r) c = .ok bs cf) : ∃ a c1 b, f d c = .ok a c1 ∧ lcLoop f r c1 = .ok b cf ∧ bs = a ++ b := by
  unfold lcLoop at h
  cases q : f d c with
  | ok a c1 =>
    rw [q] at h
    simp only [noExc_ok, Res.bind_ok] at h
    cases q2 : lcLoop f r c1 with
    | ok b c2 => rw [q2] at h; cases h; exact ⟨a, c1, b, rfl, q2, rfl⟩
    | exc e2 c2 => rw [q2] at h; cases h
    | bad => rw [q2] at h; cases h
  | exc e2 c2 => rw [q] at h; cases h
  | bad => rw [q] at h; cases h
theorem bindR_ok {A B : Type} {r : Res A} {f : A → Cells → Res B} {b : B} {cf : Cells} (h : r.bind f = .ok b cf) : ∃ a c, r = .ok a c ∧ f a c = .ok b cf := by
  cases r with
  | ok a c => exact ⟨a, c, rfl, h⟩
  | exc _ _ => cases h
  | bad => cases h
section
variable {X : Cx} {K : KP} {n : Nat} {xk : XKQ} {elt tg iter : Expr} {ifs : List Expr} {scope : Scope} {pos : Pos} {ri : Env → Cells → Res (List D)} {rt : Env → Cells → Res Bool} {re : Env → Cells → Res W} {ts : List Nat} {own : List (Str × Nat)} {mk : Bool}
/-- one item, read -/
theorem item_ok {σ : L2.St} {ρ : Env} {α α1 : AL} {c c1 ca : Cells} {H H1 : Hp} {p : Addr} {d : D} {a : List D} {x : V} {acc : List V} {accD : List D} {Nx : Hp → Prop}
    (hp1 : H1 p = none) (g : Mkg K α1 c1 H1 p α c H) (m : Sm K n (wipe σ ts) (wipeE ρ ts) α c H) (hp : H p = some (.lst acc)) (t : Dens K H (Hid α c) acc accD) (hz : accD.length + a.length ≤ sizeLine) (dx : Den K H (Hid α c) x d)
    (e : lcItem ts ρ rt re d c = .ok a ca)
    (nx : ∀ α' H' acc', Mkg K α1 c1 H1 p α' ca H' → Sm K n (wipe σ ts) (wipeE ρ ts) α' ca H' → H' p = some (.lst acc') → Dens K H' (Hid α' ca) acc' (accD ++ a) → Nx H') :
    gOf K ts x (wipe σ ts) H fun σ2 H2 => wipe σ2 ts = wipe σ ts ∧ dT K n xF rt σ2 H2 fun b H3 => if b = true then dE K n xF re σ2 H3 fun y H4 => ∃ acc, H4 p = some (.lst acc) ∧ acc.length < sizeLine ∧ Nx (upd H4 p (.lst (acc ++ [y]))) else Nx H3 := by
  unfold lcItem at e
  cases eb : bindIs ts d (wipeE ρ ts) with
  | none => rw [eb] at e; cases e
  | some ρ1 =>
    rw [eb] at e
    obtain ⟨k, ck, e1, e2⟩ := bindR_ok e
    refine gOf_ok m dx eb fun σ1 m1 hσ => ⟨wipe_same (fun _ h => h) hσ (by rw [m1.ln]; have := m.ln; rw [wipe_length] at this; rw [this]), ρ1, α, c, m1, ?_⟩
    rw [e1]
    intro α2 H2 s2
    have g2 := g.step s2
    cases k with
    | false =>
      simp only [Bool.false_eq_true, if_false] at e2
      cases e2
      refine iteF (nx α2 H2 acc g2 (m.step s2) (s2.made m.cel g.zp hp) ?_)
      rw [List.append_nil]
      exact s2.dens t
    | true =>
      simp only [if_true] at e2
      obtain ⟨w, cw, e3, e4⟩ := bindR_ok e2
      refine iteT ⟨ρ1, α2, ck, m1.step s2, ?_⟩
      rw [e3]
      intro α3 H3 s3 y dy
      cases w with
      | c _ => cases e4
      | v dd =>
        cases e4
        have s23 := s2.trans s3
        have hp3 := s23.made m.cel g.zp hp
        have t3 := s23.dens t
        have g3 := g.step s23
        have z3 := g3.zp
        refine ⟨acc, hp3, by rw [t.length]; simp at hz; omega, nx α3 _ (acc ++ [y]) (g3.fill hp1 _) ((m.step s23).fill z3 _) upd_same ?_⟩
        exact Dens.step (fill_frm z3 _) frs_refl (t3.snoc dy)
/-- a comprehension's reading, from the evaluator's -/
theorem lc_red {wi : TI} (hw : ∀ σ H R, (∃ ρ α c, Sm K n σ ρ α c H ∧ Out K (ri ρ c) α c H (fun ds α1 c1 H1 => ∀ J, Wlk K α1 c1 H1 J ds → R J H1) xk) → wi σ H R) {σ : L2.St} {H : Hp} {Q : VK}
    (hd : dE K n xk (fun ρ c => (ri ρ c).bind fun xs c => (lcLoop (lcItem ts ρ rt re) xs c).bind (mkL mk)) σ H Q) : tLc wi (gOf K ts) (dT K n xF rt) (dE K n xF re) ts σ H Q := by
  obtain ⟨ρ, α, c, m, h⟩ := hd
  refine hw _ _ _ ⟨ρ, α, c, m, h.bind.thn fun ds α1 c1 H1 s1 h1 J hJ p np => ?_⟩
  have m1 := m.step s1
  obtain ⟨total, cf, el⟩ := lc_ok h1
  have h2 := h1
  rw [el] at h2
  simp only [Res.bind_ok] at h2
  unfold mkL at h2
  obtain ⟨hz, h3⟩ := Out.iteB h2
  refine ⟨fun i mm H' => i ≤ ds.length ∧ mm = ds.length - i ∧ ∃ α c acc accD bs, Mkg K α1 c1 H1 p α c H' ∧ Sm K n (wipe σ ts) (wipeE ρ ts) α c H' ∧ H' p = some (.lst acc) ∧ Dens K H' (Hid α c) acc accD ∧ lcLoop (lcItem ts ρ rt re) (ds.drop i) c = .ok bs cf ∧ accD ++ bs = total, ?_, ?_⟩
  · have x0 := Ext.hide (p := p) m1.cel np []
    exact ⟨_, Nat.zero_le _, rfl, α1.hide p, c1, [], [], total, Mkg.start m1.cel np, x0.sm (List.prefix_refl _) (m1.wipe ts), upd_same, .nil, el, rfl⟩
  · rintro i mm H' ⟨hi, rfl, α', c', acc, accD, bs, g, mw, hp, t, e1, e2⟩
    by_cases hlt : i < ds.length
    · right
      have ed : ds.drop i = ds[i] :: ds.drop (i + 1) := List.drop_eq_getElem_cons hlt
      rw [ed] at e1
      obtain ⟨a, ca, b, ea, eb, rfl⟩ := lc_cons e1
      have hd : ds[i]? = some ds[i] := List.getElem?_eq_getElem hlt
      obtain ⟨go, yl⟩ := hJ.go α' c' H' i _ (g.xt np) hd
      refine ⟨go, fun H'' => i + 1 ≤ ds.length ∧ ∃ α c acc accD bs, Mkg K α1 c1 H1 p α c H'' ∧ Sm K n (wipe σ ts) (wipeE ρ ts) α c H'' ∧ H'' p = some (.lst acc) ∧ Dens K H'' (Hid α c) acc accD ∧ lcLoop (lcItem ts ρ rt re) (ds.drop (i + 1)) c = .ok bs cf ∧ accD ++ bs = total, ?_, ?_⟩
      · rintro H'' ⟨q1, q2⟩
        exact ⟨ds.length - (i + 1), by omega, q1, rfl, q2⟩
      · intro x H2 hy
        obtain ⟨sy, dx⟩ := yl x H2 hy
        have gy := g.step sy
        refine item_ok np gy (mw.step sy) (sy.made mw.cel g.zp hp) (sy.dens t) ?_ dx ea fun α3 H3 acc3 g3 m3 hp3 t3 => ?_
        · have : total.length = accD.length + (a.length + b.length) := by rw [← e2]; simp
          omega
        · exact ⟨hlt, α3, ca, acc3, accD ++ a, b, g3, m3, hp3, t3, eb, by rw [← e2, List.append_assoc]⟩
    · left
      have hi' : i = ds.length := by omega
      subst hi'
      refine ⟨hJ.stop α' c' H' (g.xt np), ?_⟩
      rw [List.drop_length] at e1
      cases e1
      rw [List.append_nil] at e2
      subst e2
      cases mk with
      | false =>
        obtain ⟨st, dd⟩ := g.done m1.cel np hp t
        have h4 := Out.iteF' h3 (by simp)
        exact h4 _ _ st _ dd
      | true =>
        have st := g.doneC m1.cel np hp t hz
        have h4 := Out.iteT h3 rfl
        refine h4 _ _ st _ ⟨p, ?_, rfl⟩
        show (α'.l ++ [p])[_]? = some p
        rw [← g.cel.len]
        simp
theorem q_lc (hc : X.calm = true) (hN : X.N.Nodup) (hi : QI X K n xk tg iter ri) (ok : BlkOk X.N X.env.scope scope own) (ho : own.map (·.2) = ts)
    (hg : ∀ (s : Shared) (H : Hp) (C : Addr) (cl : List (Str × Addr)) (fp : List Addr), PG (X.blk s H scope (compEnvC scope cl C X.env) fp) tg (gOf K ts))
    (ht : ∀ (s : Shared) (H : Hp) (C : Addr) (cl : List (Str × Addr)) (fp : List Addr), PTs (X.blk s H scope (compEnvC scope cl C X.env) fp) ifs (dT K n xF rt))
    (he : ∀ (s : Shared) (H : Hp) (C : Addr) (cl : List (Str × Addr)) (fp : List Addr), PE (X.blk s H scope (compEnvC scope cl C X.env) fp) elt (dE K n xF re))
    (hs : ∀ x, foldedSetIterable iter X.env x = pure x) :
    PE X (.ListComp elt [⟨tg, iter, ifs, 0⟩] scope pos) (dE K n xk fun ρ c => (ri ρ c).bind fun xs c => (lcLoop (lcItem ts ρ rt re) xs c).bind (mkL mk)) := by
  obtain ⟨wi, hpi, hw⟩ := hi
  have q := pe_lc (pos := pos) hc hN hpi ok hg ht he hs
  rw [ho] at q
  exact q.imp fun σ H Q h => lc_red hw h
theorem s_setLc {i : Nat} {y : Str} {py spos : Pos} (hc : X.calm = true) (hN : X.N.Nodup) (hi : QI X K n xk tg iter ri) (ok : BlkOk X.N X.env.scope scope own) (ho : own.map (·.2) = ts)
    (hg : ∀ (s : Shared) (H : Hp) (C : Addr) (cl : List (Str × Addr)) (fp : List Addr), PG (X.blk s H scope (compEnvC scope cl C X.env) fp) tg (gOf K ts))
    (ht : ∀ (s : Shared) (H : Hp) (C : Addr) (cl : List (Str × Addr)) (fp : List Addr), PTs (X.blk s H scope (compEnvC scope cl C X.env) fp) ifs (dT K n xF rt))
    (he : ∀ (s : Shared) (H : Hp) (C : Addr) (cl : List (Str × Addr)) (fp : List Addr), PE (X.blk s H scope (compEnvC scope cl C X.env) fp) elt (dE K n xF re))
    (hs : ∀ x, foldedSetIterable iter X.env x = pure x) (hy : X.N[i]? = some y) (hyl : X.env.scope.names.lookup y = some .local)
    (hsw : swapsWith (.ListComp elt [⟨tg, iter, ifs, 0⟩] scope pos) (some (.Name y py)) spos.line X.env = pure true) :
    PS X (.Assign [.Name y py] (.ListComp elt [⟨tg, iter, ifs, 0⟩] scope pos) spos) (tAsg (dE K n xk fun ρ c => (ri ρ c).bind fun xs c => (lcLoop (lcItem ts ρ rt re) xs c).bind (mkL mk)) (gName i)) := by
  obtain ⟨wi, hpi, hw⟩ := hi
  have q := ps_setLc (pos := pos) (py := py) hc hN hy hyl hsw hpi ok hg ht he hs
  rw [ho] at q
  exact q.imp fun D σ H h => lc_red hw h
end
end Q
end
section
set_option autoImplicit false
set_option maxHeartbeats 4000000
/-! # The Q layer, part 12: statements -/
namespace Q
open PySem PySem.Spec PyProof.Rows L2

/-- what is wanted behind a statement, by the evaluator's answer -/
def FlEnd (K : KP) (n : Nat) (D : Ends) : Fl → AL → Cells → Hp → Prop
  | .nxt ρ, α, c, H => ∀ σ, Sm K n σ ρ α c H → D.nx σ H
  | .ret w, α, c, H => ∀ v, DenW K H α c v w → D.rt v H
def dS (K : KP) (n : Nat) (xk : XKQ) (r : Env → Cells → Res Fl) : TS := fun D σ H => ∃ ρ α c, Sm K n σ ρ α c H ∧ Out K (r ρ c) α c H (FlEnd K n D) xk
section
variable {X : Cx} {K : KP} {n : Nat} {xk : XKQ} {a b e t tg : Expr} {es : List Expr} {p pos pos' spos : Pos} {ra rb re : Env → Cells → Res W} {rs : Env → Cells → Res (List W)} {st : Stmt} {rest body : List Stmt} {r q : Env → Cells → Res Fl} {ri : Env → Cells → Res (List D)}
theorem s_nil : PSs X [] (dS K n xk fun ρ c => .ok (.nxt ρ) c) := pss_nil.imp fun D σ H ⟨ρ, α, c, m, h⟩ => Out.here m.cel h σ m
theorem s_cons (h1 : PS X st (dS K n xk r)) (h2 : PSs X rest (dS K n xk q)) : PSs X (st :: rest) (dS K n xk fun ρ c => (r ρ c).bind fun k c => match k with
    | .nxt ρ => q ρ c
    | .ret w => .ok (.ret w) c) :=
  (pss_cons h1 h2).imp fun D σ H ⟨ρ, α, c, m, h⟩ => ⟨ρ, α, c, m, h.bind.thn fun k α1 c1 H1 s1 h1 => by
    cases k with
    | nxt ρ1 => exact fun σ1 m1 => ⟨ρ1, α1, c1, m1, h1⟩
    | ret w => exact fun v hv => Out.here s1.cel h1 v hv⟩
theorem s_pass : PS X (.Pass pos) (dS K n xk fun ρ c => .ok (.nxt ρ) c) := ps_pass.imp fun D σ H ⟨ρ, α, c, m, h⟩ => Out.here m.cel h σ m
theorem s_ret (he : PE X e (dE K n xk re)) : PS X (.Return (some e) pos) (dS K n xk fun ρ c => (re ρ c).bind fun w c => .ok (.ret w) c) :=
  (ps_ret he).imp fun D σ H ⟨ρ, α, c, m, h⟩ => dE.bind m h fun v w α1 c1 H1 m1 s1 d1 h1 => Out.here m1.cel h1 v d1
theorem s_exp (he : PE X e (dE K n xk re)) (hs : swapsWith e none pos.line X.env = pure false) : PS X (.Expr e pos) (dS K n xk fun ρ c => (re ρ c).bind fun _ c => .ok (.nxt ρ) c) :=
  (ps_expr he hs).imp fun D σ H ⟨ρ, α, c, m, h⟩ => dE.bind m h fun v w α1 c1 H1 m1 s1 d1 h1 => Out.here m1.cel h1 σ m1
theorem s_ife {c : Expr} {x y : List Stmt} {rc : Env → Cells → Res W} (hc : PT X c (dT K n xk (rTru rc))) (ha : PSs X x (dS K n xk r)) (hb : PSs X y (dS K n xk q)) :
    PS X (.If c x y pos) (dS K n xk fun ρ c => (rc ρ c).bind fun w c => (truth w c).bind fun k c => if k = true then r ρ c else q ρ c) :=
  (ps_if hc ha hb).imp fun D σ H ⟨ρ, α, c, m, h⟩ => dT.bind m (f := fun k c => if k = true then r ρ c else q ρ c) (by rw [← ite_tru]; exact h) fun b α1 c1 H1 m1 s1 h1 => by
    cases b with
    | true => exact iteT ⟨ρ, α1, c1, m1, h1⟩
    | false => exact iteF ⟨ρ, α1, c1, m1, h1⟩
/-- a name is stored -/
theorem set_red {i : Nat} {te : TE} (ht : ∀ σ H Q, dE K n xk re σ H Q → te σ H Q) (D : Ends) (σ : L2.St) (H : Hp) (h : dS K n xk (fun ρ c => (re ρ c).bind fun w c => if i < ρ.length then .ok (.nxt (ρ.set i (some w))) c else .bad) D σ H) : tAsg te (gName i) D σ H := by
  obtain ⟨ρ, α, c, m, h⟩ := h
  refine ht _ _ _ (dE.bind m h fun v w α1 c1 H1 m1 s1 d1 h1 => ?_)
  obtain ⟨_, h2⟩ := Out.iteB h1
  exact Out.here m1.cel h2 _ (m1.set d1)
theorem s_set {i : Nat} {x : Str} (hN : X.N.Nodup) (hi : X.N[i]? = some x) (hx : Loc X.env.scope x) (he : PE X e (dE K n xk re)) (hs : swapsWith e (some (.Name x pos')) pos.line X.env = pure false) (hf : X.fn x = true ∨ X.env.scope.names.lookup x = some .local) :
    PS X (.Assign [.Name x pos'] e pos) (dS K n xk fun ρ c => (re ρ c).bind fun w c => if i < ρ.length then .ok (.nxt (ρ.set i (some w))) c else .bad) :=
  (ps_set hN hi hx he hs hf).imp fun D σ H h => set_red (fun _ _ _ q => q) D σ H h
theorem s_names {is : List Nat} {kt : Nat} (hN : X.N.Nodup) (hc : X.calm = true) (hK : X.K = K.K) (ht : TgOf X (.Tuple es kt p) is) (he : PE X e (dE K n xk re)) (hs : swapsWithSole [.Tuple es kt p] e pos.line X.env = pure false) (hw : swappedStores [.Tuple es kt p] e X.env = pure none) :
    PS X (.Assign [.Tuple es kt p] e pos) (dS K n xk fun ρ c => (re ρ c).bind fun w c => match w with
    | .v (.tup ds) => if ds.length = is.length ∧ (is.all fun i => decide (i < ρ.length)) = true then .ok (.nxt (bindNames is (ds.map .v) ρ)) c else .bad
    | _ => .bad) :=
  (ps_asg he (tg_pg hN hc hK ht) hs hw rfl).imp fun D σ H ⟨ρ, α, c, m, h⟩ => dE.bind m h fun v w α1 c1 H1 m1 s1 d1 h1 => by
    split at h1
    · rename_i ds
      obtain ⟨hl, h2⟩ := Out.iteB h1
      have l2 : 2 ≤ is.length := by cases ht with | many _ l => exact l
      refine gOf_ok (is := is) (d := .tup ds) (ρ1 := bindNames is (ds.map .v) ρ) m1 d1 ?_ fun σ1 mm _ => Out.here m1.cel h2 σ1 mm
      unfold bindIs
      split
      · simp at l2
      · dsimp only
        rw [if_pos hl]
    · exact h1.elim
/-- several names at once, stored from the right -/
theorem s_par2 {i j : Nat} {x y : Str} {px py pt : Pos} {kt k2 : Nat} {pt2 : Pos} (hc : X.calm = true) (hN : X.N.Nodup) (hi : X.N[i]? = some x) (hj : X.N[j]? = some y) (hij : i ≠ j)
    (hx : X.env.scope.names.lookup x = some .local) (hy : X.env.scope.names.lookup y = some .local) (ha : PA X [a, b] (dA K n xk rs))
    (hw : swappedStores [.Tuple [.Name x px, .Name y py] kt pt] (.Tuple [a, b] k2 pt2) X.env = pure (some [x, y])) :
    PS X (.Assign [.Tuple [.Name x px, .Name y py] kt pt] (.Tuple [a, b] k2 pt2) pos) (dS K n xk fun ρ c => (rs ρ c).bind fun ws c => if ws.length = [i, j].length ∧ ([i, j].all fun i => decide (i < ρ.length)) = true ∧ (true = true ∨ (vals ws).isSome = true) then .ok (.nxt (bindNames [i, j] ws ρ)) c else .bad) :=
  (ps_par hc hN hi hj hij hx hy ha hw rfl).imp fun D σ H ⟨ρ, α, c, m, h⟩ => dA.bind m h fun vs ws α1 c1 H1 m1 s1 d1 h1 => by
    obtain ⟨hl, h2⟩ := Out.iteB h1
    have l := hl.1
    cases d1 with
    | nil => simp at l
    | cons dv t =>
      cases t with
      | nil => simp at l
      | cons du t =>
        cases t with
        | nil => exact ⟨_, _, rfl, Out.here m1.cel h2 _ ((m1.set dv).set du)⟩
        | cons _ _ => simp at l
theorem s_par3 {i j l : Nat} {x y z : Str} {px py pz pt : Pos} {kt k2 : Nat} {pt2 : Pos} (hc : X.calm = true) (hN : X.N.Nodup) (hi : X.N[i]? = some x) (hj : X.N[j]? = some y) (hl : X.N[l]? = some z) (hij : i ≠ j) (hil : i ≠ l) (hjl : j ≠ l)
    (hx : X.env.scope.names.lookup x = some .local) (hy : X.env.scope.names.lookup y = some .local) (hz : X.env.scope.names.lookup z = some .local) (ha : PA X [a, b, e] (dA K n xk rs))
    (hw : swappedStores [.Tuple [.Name x px, .Name y py, .Name z pz] kt pt] (.Tuple [a, b, e] k2 pt2) X.env = pure (some [x, y, z])) :
    PS X (.Assign [.Tuple [.Name x px, .Name y py, .Name z pz] kt pt] (.Tuple [a, b, e] k2 pt2) pos) (dS K n xk fun ρ c => (rs ρ c).bind fun ws c => if ws.length = [i, j, l].length ∧ ([i, j, l].all fun i => decide (i < ρ.length)) = true ∧ (true = true ∨ (vals ws).isSome = true) then .ok (.nxt (bindNames [i, j, l] ws ρ)) c else .bad) :=
  (ps_par3 hc hN hi hj hl hij hil hjl hx hy hz ha hw rfl).imp fun D σ H ⟨ρ, α, c, m, h⟩ => dA.bind m h fun vs ws α1 c1 H1 m1 s1 d1 h1 => by
    obtain ⟨hl, h2⟩ := Out.iteB h1
    have l := hl.1
    cases d1 with
    | nil => simp at l
    | cons dv t =>
      cases t with
      | nil => simp at l
      | cons du t =>
        cases t with
        | nil => simp at l
        | cons dw t =>
          cases t with
          | nil => exact ⟨_, _, _, rfl, Out.here m1.cel h2 _ (((m1.set dv).set du).set dw)⟩
          | cons _ _ => simp at l
theorem vals_map : ∀ {ws : List W} {ds : List D}, vals ws = some ds → ws = ds.map .v
  | [], _, h => by cases h; rfl
  | .v d :: r, _, h => by
    unfold vals at h
    cases z : vals r with
    | none => rw [z] at h; cases h
    | some es => rw [z] at h; cases h; rw [vals_map z]; rfl
  | .c _ :: _, _, h => by unfold vals at h; cases h
theorem s_parT {is : List Nat} {vs : List Expr} {kt k2 : Nat} {pt2 : Pos} (hN : X.N.Nodup) (hc : X.calm = true) (hK : X.K = K.K) (ht : TgOf X (.Tuple es kt p) is) (h8 : is.length ≤ 8) (ha : PA X vs (dA K n xk rs)) (hw : swappedStores [.Tuple es kt p] (.Tuple vs k2 pt2) X.env = pure none) :
    PS X (.Assign [.Tuple es kt p] (.Tuple vs k2 pt2) pos) (dS K n xk fun ρ c => (rs ρ c).bind fun ws c => if ws.length = is.length ∧ (is.all fun i => decide (i < ρ.length)) = true ∧ (false = true ∨ (vals ws).isSome = true) then .ok (.nxt (bindNames is ws ρ)) c else .bad) :=
  (ps_asg (pe_tup ha) (tg_pg hN hc hK ht) rfl hw rfl).imp fun D σ H ⟨ρ, α, c, m, h⟩ => dA.bind m h fun us ws α1 c1 H1 m1 s1 d1 h1 => by
    obtain ⟨⟨hl, hr, hv⟩, h2⟩ := Out.iteB h1
    cases z : vals ws with
    | none => rw [z] at hv; rcases hv with q | q <;> cases q
    | some ds =>
      have dd := vals_of d1 z
      have lw := vals_len ws ds z
      refine ⟨by rw [dd.length, ← lw, hl, sizeLine_eq]; omega, fun q np => ?_⟩
      have st := Stp.new (o := .tup us) m1.cel np
      have l2 : 2 ≤ is.length := by cases ht with | many _ l => exact l
      refine gOf_ok (is := is) (d := .tup ds) (ρ1 := bindNames is (ds.map .v) ρ) (m1.step st) (Den.newTup m1.cel np dd) ?_ fun σ1 mm _ => ?_
      · unfold bindIs
        split
        · simp at l2
        · dsimp only
          rw [if_pos ⟨by rw [← lw, hl], hr⟩]
      · rw [vals_map z] at h2
        exact h2 α1 _ st σ1 mm
/-- a place of a cell is stored -/
theorem s_item (hK : X.K = K.K) (he : PE X e (dE K n xk re)) (ha : PE X a (dE K n xk ra)) (hb : PE X b (dE K n xk rb)) (hs : swapsWithSole [.Subscript a b p] e pos.line X.env = pure false) (hw : swappedStores [.Subscript a b p] e X.env = pure none)
    (hg : ∀ v, assign (.Subscript a b p) X.env v = (do
      let ov ← holding [v] (eval a X.env)
      let iv ← holding [v, ov] (eval b X.env)
      standAt p
      holding [v, ov, iv] (setItem ov iv v)
      release [v, ov, iv] [])) :
    PS X (.Assign [.Subscript a b p] e pos) (dS K n xk fun ρ c => (re ρ c).bind fun w c => (ra ρ c).bind fun x c => (rb ρ c).bind fun y c => match cellAt x c, y, w with
    | some (n, ds), .v (.int j), .v d => match ixN ds.length j with
      | some k => .ok (.nxt ρ) (c.set n (some (ds.set k d)))
      | none => .bad
    | _, _, _ => .bad) :=
  (ps_asg he (pg_sub ha hb set_list hg) hs hw rfl).imp fun D σ H ⟨ρ, α, c, m, h⟩ => dE.bind m h fun v w α1 c1 H1 m1 s1 d1 h1 => dE.bind m1 h1 fun v2 w2 α2 c2 H2 m2 s2 d2 h2 => dE.bind m2 h2 fun v3 w3 α3 c3 H3 m3 s3 d3 h3 => by
    split at h3
    · rename_i i ds j d hc
      unfold cellAt at hc
      split at hc
      · split at hc
        · rename_i e2
          cases hc
          obtain ⟨a', hi, rfl⟩ := d2
          cases Den.int_inv d3
          have hi3 := s3.at_ hi
          obtain ⟨xs, q1, q2, q3⟩ := m3.cel.get e2 hi3
          cases z : ixN ds.length j with
          | none => rw [z] at h3; exact h3.elim
          | some k =>
            rw [z] at h3
            have dv : Den K H3 (Hid α3 c3) v d := (s2.trans s3).denW d1
            have st := Stp.write m3.cel e2 hi3 (q2.set dv k) (by rw [List.length_set]; exact q3)
            exact ⟨a', xs, j, k, rfl, rfl, q1, by rw [q2.length]; exact z, h3 α3 _ st σ (m3.step st)⟩
        · cases hc
      · cases hc
    · exact h3.elim
/-! ### loops -/
theorem s_for {is : List Nat} (hp : PassesOwn (model X.prog X.w) X.A X.env X.xe) (hc : X.calm = true) (hN : X.N.Nodup) (hK : X.K = K.K) (hi : QI X K n xk tg e ri) (ht : TgOf X tg is) (hb : PSs X body (dS K n xk r)) (hs : ∀ x, foldedSetIterable e X.env x = pure x) :
    PS X (.For tg e body [] pos) (dS K n xk fun ρ c => (ri ρ c).bind fun xs c => forLoop (fun d ρ c => match bindIs is d ρ with
      | some ρ => r ρ c
      | none => .bad) xs ρ c) := by
  obtain ⟨wi, hpi, hw⟩ := hi
  refine (ps_for hp hc hpi (tg_pg hN hc hK ht) hb hs).imp fun D σ H ⟨ρ, α, c, m, h⟩ => hw _ _ _ ⟨ρ, α, c, m, h.bind.thn fun ds α1 c1 H1 s1 h1 J hJ => ?_⟩
  refine ⟨fun i mm σ' H' => i ≤ ds.length ∧ mm = ds.length - i ∧ ∃ ρ α c, Sm K n σ' ρ α c H' ∧ Stp K α1 c1 H1 α c H' ∧ Out K (forLoop (fun d ρ c => match bindIs is d ρ with
      | some ρ => r ρ c
      | none => .bad) (ds.drop i) ρ c) α c H' (FlEnd K n D) xk, ⟨_, Nat.zero_le _, rfl, ρ, α1, c1, m.step s1, Stp.refl s1.cel, h1⟩, ?_⟩
  rintro i mm σ' H' ⟨hi, rfl, ρ', α', c', m', st, h2⟩
  by_cases hlt : i < ds.length
  · right
    have ed : ds.drop i = ds[i] :: ds.drop (i + 1) := List.drop_eq_getElem_cons hlt
    rw [ed] at h2
    have hd : ds[i]? = some ds[i] := List.getElem?_eq_getElem hlt
    obtain ⟨go, yl⟩ := hJ.go α' c' H' i _ st.xt hd
    refine ⟨go, fun σ'' H'' => i + 1 ≤ ds.length ∧ ∃ ρ α c, Sm K n σ'' ρ α c H'' ∧ Stp K α1 c1 H1 α c H'' ∧ Out K (forLoop (fun d ρ c => match bindIs is d ρ with
      | some ρ => r ρ c
      | none => .bad) (ds.drop (i + 1)) ρ c) α c H'' (FlEnd K n D) xk, ?_, ?_⟩
    · rintro σ'' H'' ⟨q1, q2⟩
      exact ⟨ds.length - (i + 1), by omega, q1, rfl, q2⟩
    · intro x H2 hy
      obtain ⟨sy, dx⟩ := yl x H2 hy
      have h3 : Out K ((match bindIs is ds[i] ρ' with
        | some ρ => r ρ c'
        | none => .bad : Res Fl).bind fun k c => match k with
          | .nxt ρ => forLoop (fun d ρ c => match bindIs is d ρ with
            | some ρ => r ρ c
            | none => .bad) (ds.drop (i + 1)) ρ c
          | .ret w => .ok (.ret w) c) α' c' H' (FlEnd K n D) xk := h2
      cases eb : bindIs is ds[i] ρ' with
      | none => rw [eb] at h3; exact h3.elim
      | some ρ1 =>
        rw [eb] at h3
        have h4 := Out.back sy h3.bind
        refine gOf_ok (m'.step sy) dx eb fun σ1 mm1 _ => ⟨ρ1, α', c', mm1, h4.thn fun k α3 c3 H3 s3 h5 => ?_⟩
        cases k with
        | nxt ρ2 => exact fun σ2 m2 => ⟨hlt, ρ2, α3, c3, m2, (st.trans sy).trans s3, h5⟩
        | ret w => exact fun v hv => Out.here s3.cel h5 v hv
  · left
    have hi' : i = ds.length := by omega
    subst hi'
    rw [List.drop_length] at h2
    exact ⟨hJ.stop α' c' H' st.xt, Out.here m'.cel h2 σ' m'⟩
theorem s_whl {wf : Nat} {rc : Env → Cells → Res W} (hp : PassesOwn (model X.prog X.w) X.A X.env X.xe) (hc : PT X e (dT K n xk (rTru rc))) (hb : PSs X body (dS K n xk r)) :
    PS X (.While e body [] pos) (dS K n xk fun ρ c => whlLoop (fun ρ c => (rc ρ c).bind fun w c => truth w c) (fun ρ c => r ρ c) wf ρ c) :=
  (ps_while hp hc hb).imp fun D σ H ⟨ρ, α, c, m, h⟩ => by
    refine ⟨fun mm σ' H' => ∃ ρ α c, Sm K n σ' ρ α c H' ∧ Out K (whlLoop (fun ρ c => (rc ρ c).bind fun w c => truth w c) (fun ρ c => r ρ c) mm ρ c) α c H' (FlEnd K n D) xk, ⟨wf, ρ, α, c, m, h⟩, ?_⟩
    rintro mm σ' H' ⟨ρ', α', c', m', h2⟩
    cases mm with
    | zero => exact h2.elim
    | succ mm =>
      refine dT.bind (r := rTru rc) m' (f := fun k c => if k = true then (r ρ' c).bind fun k c => match k with
        | .nxt ρ => whlLoop (fun ρ c => (rc ρ c).bind fun w c => truth w c) (fun ρ c => r ρ c) mm ρ c
        | .ret w => .ok (.ret w) c
        else .ok (.nxt ρ') c) h2 fun b α1 c1 H1 m1 s1 h3 => ?_
      cases b with
      | false => exact iteF (Out.here m1.cel h3 σ' m1)
      | true =>
        refine iteT ⟨fun σ2 H2 => ∃ ρ α c, Sm K n σ2 ρ α c H2 ∧ Out K (whlLoop (fun ρ c => (rc ρ c).bind fun w c => truth w c) (fun ρ c => r ρ c) mm ρ c) α c H2 (FlEnd K n D) xk, fun σ2 H2 q => ⟨mm, Nat.lt_succ_self _, q⟩, ρ', α1, c1, m1, ?_⟩
        have h4 : Out K ((r ρ' c1).bind fun k c => match k with
          | .nxt ρ => whlLoop (fun ρ c => (rc ρ c).bind fun w c => truth w c) (fun ρ c => r ρ c) mm ρ c
          | .ret w => .ok (.ret w) c) α1 c1 H1 (FlEnd K n D) xk := h3
        refine h4.bind.thn fun k α3 c3 H3 s3 h5 => ?_
        cases k with
        | nxt ρ2 => exact fun σ2 m2 => ⟨ρ2, α3, c3, m2, h5⟩
        | ret w => exact fun v hv => Out.here s3.cel h5 v hv
end
/-! ### exceptions -/
/-- an exception class of the text, over ValueError, without an own __init__ -/
structure ExcOk (K : PySem.W.Frag) (mg : Str → Option Value) (x : Str) (C : Addr) : Prop where
  g : mg x = some (.ref C)
  xc : PySem.W.excIn K C [.type "ValueError", .type "Exception", .type "BaseException", .type "object"] "ValueError.__new__" = true
  kp : PySem.W.keepIn K (.ref C) = true
  b : PySem.W.subIn K (.ref C) (.type "BaseException") = some true
  t : PySem.W.typeIn K (.ref C) = some (.type "type")
section
variable {X : Cx} {K : KP} {n : Nat} {xk : XKQ} {XA : Exc → Addr} {Wx : WX} {pos : Pos} {body : List Stmt} {r : Env → Cells → Res Fl}
theorem s_rse {e : Exc} {x m : Str} {j : Nat} {p p2 p3 : Pos} (T : Tk X XA xk Wx) (hn : X.N.length = n) (hc : X.calm = true) (hx : ExcOk X.K X.mg x (XA e)) (hg : Gl X x) (hd : (x == ("__debug__" : Str)) = false) :
    PS X (.Raise (some (.Call (.Name x p) [.Constant (.str m) j p2] [] p3)) none pos) (dS K n xk fun _ c => .exc e c) :=
  (ps_raise hc T.tk (pmk_own PySem.F.excBase_ValueError hx.xc hx.g hx.kp (raises_own hx.b hx.t) hg hd)).imp fun D σ H ⟨ρ, α, c, m, h⟩ =>
    T.to e α c H σ (by rw [m.ln, hn]) (h α H (Stp.refl m.cel))
/-- what a clause is -/
inductive HsOf (X : Cx) (XA : Exc → Addr) (sub : Exc → Exc → Bool) : List ExceptHandler → Hs → Prop
  | nil : HsOf X XA sub [] .nil
  | cons {x : Str} {y : Exc} {d : D} {v : V} {e : Expr} {np p1 p2 : Pos} {hds : List ExceptHandler} {hs : Hs} (hn : Names X x (.ref (XA y))) (he : ∀ X' : Cx, PE X' e (tC v)) (hd : ∀ K H L, Den K H L v d)
      (hm : ∀ z, PySem.W.exmOne X.K (.ref (XA z)) (.ref (XA y)) = some (sub z y)) (t : HsOf X XA sub hds hs) : HsOf X XA sub (.ExceptHandler (some (.Name x np)) none [.Return (some e) p1] p2 :: hds) (.cons y d hs)
theorem hs_ok {sub : Exc → Exc → Bool} (T : Tk X XA xk Wx) (hn : X.N.length = n) : ∀ {hds : List ExceptHandler} {hs : Hs}, HsOf X XA sub hds hs → ∃ l, HdsOk X hds l ∧ ∀ (D : Ends) (z : Exc) (α : AL) (c : Cells) (H : Hp), Out K (evHs sub hs z c) α c H (FlEnd K n D) xk →
    ∀ α' H', Stp K α c H α' c H' → ∀ σ, σ.length = n → wMany X.K Wx D l (.ref (XA z)) none σ H'
  | _, _, .nil => ⟨[], .nil, fun D z α c H h α' H' s σ hσ => T.to z α' c H' σ (by rw [hσ, hn]) (h α' H' s)⟩
  | _, _, .cons (y := y) (d := d) (v := v) (hs := hs) h1 he hd hm t => by
    obtain ⟨l, h2, h3⟩ := hs_ok T hn t
    refine ⟨_, .cons (ts := fun _ _ _ => tRet (tC v)) h1 (fun a oe cls d' pn _ _ => pss_one (ps_ret (he _))) h2, fun D z α c H h α' H' s σ hσ => ⟨sub z y, hm z, fun hb a ha => ?_, fun hb => ?_⟩⟩
    · have h4 : Out K (if sub z y = true then .ok (.ret (.v d)) c else evHs sub hs z c) α c H (FlEnd K n D) xk := h
      exact (h4.iteT hb) α' H' s v (hd _ _ _)
    · have h4 : Out K (if sub z y = true then .ok (.ret (.v d)) c else evHs sub hs z c) α c H (FlEnd K n D) xk := h
      rw [if_neg (by rw [hb]; simp)] at h4
      exact h3 D z α c H h4 α' H' s σ hσ
theorem s_try {sub : Exc → Exc → Bool} {h₀ : ExceptHandler} {hds : List ExceptHandler} {hs : Hs} (T : Tk X XA xk Wx) (hn : X.N.length = n) (hst : X.stack = X.env :: X.outer) (hf : X.env.frame = some X.env.locals) (hh : HsOf X XA sub (h₀ :: hds) hs)
    (hb : ∀ (W : WX) (xk' : XKQ) (pn : List (Addr × Obj)) (xe : Value → Shared → Prop), Tk (X.tr pn xe) XA xk' W → PassesOwn (model X.prog X.w) X.A X.env xe → PSs (X.tr pn xe) body (dS K n xk' r)) :
    PS X (.Try body (h₀ :: hds) [] [] pos) (dS K n xk fun ρ c => match r ρ c with
    | .exc x c1 => evHs sub hs x c1
    | r => r) := by
  obtain ⟨l, h1, h2⟩ := hs_ok (K := K) T hn hh
  have main := ps_try_many (X := X) (pos := pos) (tb := fun W => dS K n (fun e α c H => ∀ σ, σ.length = n → W (.ref (XA e)) none σ H) r) hst hf T.tk
    (fun W pn xe tk po => hb W _ pn xe ⟨tk, fun e α c H σ hσ q => q σ (by rw [hσ]; exact hn)⟩ po) h1
  refine main.imp fun D σ H ⟨ρ, α, c, m, h⟩ => ⟨ρ, α, c, m, ?_⟩
  cases er : r ρ c with
  | ok k c1 =>
    dsimp only at h
    rw [er] at h
    exact h
  | bad =>
    dsimp only at h
    rw [er] at h
    exact h
  | exc x c1 =>
    dsimp only at h
    rw [er] at h
    intro α' H' s σ' hσ
    exact h2 D x α' c1 H' (Out.back s h) α' H' (Stp.refl s.cel) σ' hσ
end
end Q
end
section
set_option autoImplicit false
set_option maxHeartbeats 4000000
/-! # The Q layer, part 13: does a piece of syntax say what the IR says? -/
namespace Q
open PySem PySem.Spec PyProof.Rows L2

/-- the names of the text's defs, constants, exception classes, by number; dom: which defs stand in this text -/
structure Nm where
  fname : Nat → Str
  gname : Nat → Str
  xname : Exc → Str
  dom : Nat → Bool
  xdom : Exc → Bool
  gdom : Nat → Bool
def visB (sc : Scope) (x : Str) : Bool := match sc.names.lookup x with
  | some .local => true
  | some .cell => true
  | some .free => true
  | _ => false
def glB (sc : Scope) (x : Str) : Bool := decide (sc.names.lookup x = some .globalImplicit)
def locB (sc : Scope) (x : Str) : Bool := match sc.names.lookup x with
  | some .local => true
  | some .cell => true
  | _ => false
def dbB (x : Str) : Bool := !(x == ("__debug__" : Str))
def plainB : Expr → Bool
  | .Starred _ _ => false
  | .Set _ _ _ => false
  | .Slice _ _ _ _ => false
  | _ => true
def mCmp : Cmp → CmpOp → Bool
  | .eq, .Eq => true
  | .ne, .NotEq => true
  | .lt, .Lt => true
  | .le, .LtE => true
  | .gt, .Gt => true
  | .ge, .GtE => true
  | .isN, .Is => true
  | .notN, .IsNot => true
  | .isT, .Is => true
  | .notT, .IsNot => true
  | .in_, .In => true
  | .notIn, .NotIn => true
  | _, _ => false
def mOp : Op → Operator → Bool
  | .add, .Add => true
  | .sub, .Sub => true
  | .mul, .Mult => true
  | .mod, .Mod => true
  | .fdiv, .FloorDiv => true
  | .pow, .Pow => true
  | _, _ => false
def mCon : D → Const → Bool
  | .non, .none => true
  | .bl b, .bool k => b == k
  | .int i, .int j => i == j
  | .str x, .str y => x == y
  | _, _ => false
def bltName : Blt → Str
  | .len => "len"
  | .int => "int"
  | .all => "all"
  | .tuple => "tuple"
  | .list => "list"
  | .sorted => "sorted"
  | .min => "min"
  | .sum => "sum"
/-- may stand as a test -/
def tstB : E → Bool
  | .ite _ _ _ => false
  | .frz _ => false
  | .lc2 _ _ _ _ _ _ _ => false
  | .not a => tstB a
  | .and a b => tstB a && tstB b
  | .or a b => tstB a && tstB b
  | _ => true
def ownOf (N : List Str) (ts : List Nat) : List (Str × Nat) := ts.map fun i => (N.getD i "", i)
def mName (N : List Str) (sc : Scope) (i : Nat) (x : Str) : Bool := decide (N[i]? = some x) && locB sc x
def mNames (N : List Str) (sc : Scope) : List Nat → List Expr → Bool
  | [], [] => true
  | i :: is, .Name x _ :: es => mName N sc i x && mNames N sc is es
  | _, _ => false
/-- a target of names -/
def mTg (N : List Str) (sc : Scope) : List Nat → Expr → Bool
  | [i], .Name x _ => mName N sc i x
  | i :: j :: is, .Tuple es _ _ => mNames N sc (i :: j :: is) es
  | _, _ => false
def mKeys : List Str → List (Option Expr) → Bool
  | [], [] => true
  | k :: ks, some (.Constant (.str x) _ _) :: r => k == x && mKeys ks r
  | _, _ => false
section
variable (M : Nm) (N : List Str)
mutual
def mE : E → Scope → Expr → Bool
  | .var i, sc, .Name x _ => decide (N[i]? = some x) && visB sc x && dbB x && !(x == ("__classdict__" : Str))
  | .con d, _, .Constant k _ _ => mCon d k
  | .glo g, sc, .Name x _ => x == M.gname g && glB sc x && dbB x && M.gdom g
  | .tup es, sc, .Tuple xs _ _ => mEs es sc xs
  | .lst es, sc, .List xs _ => mEs es sc xs
  | .cel es, sc, .List xs _ => mEs es sc xs
  | .dic ks es, sc, .Dict keys vals _ => mKeys ks keys && mEs es sc vals && !keys.isEmpty && decide (keys.length = vals.length) && decide (keys.length ≤ 15)
  | .and a b, sc, .BoolOp .And (x :: y :: r) p => mE a sc x && (match r with | [] => mE b sc y | _ => mE b sc (.BoolOp .And (y :: r) p))
  | .or a b, sc, .BoolOp .Or (x :: y :: r) p => mE a sc x && (match r with | [] => mE b sc y | _ => mE b sc (.BoolOp .Or (y :: r) p))
  | .not a, sc, .UnaryOp .Not x _ => mE a sc x
  | .cmp o a b, sc, .Compare x [op] [y] _ => mCmp o op && mE a sc x && mE b sc y && plainB y
  | .chn o p a b e, sc, .Compare x [op, op'] [y, z] _ => mCmp o op && mCmp p op' && mE a sc x && mE b sc y && mE e sc z && plainB z
  | .bin o a b, sc, .BinOp x op y _ => mOp o op && mE a sc x && mE b sc y
  | .neg a, sc, .UnaryOp .USub x _ => mE a sc x
  | .ite t a b, sc, .IfExp x y z _ => mE t sc x && tstB t && mE a sc y && mE b sc z
  | .idx a i, sc, .Subscript x y _ => mE a sc x && mE i sc y && plainB y
  | .slc a lo hi, sc, .Subscript x (.Slice l h none _) _ => mE a sc x && mEo lo sc l && mEo hi sc h
  | .call f (.cons e es), sc, .Call (.Name x _) (y :: ys) [] _ => x == M.fname f && glB sc x && dbB x && M.dom f && mEs (.cons e es) sc (y :: ys)
  | .blt f (.cons e es), sc, .Call (.Name x _) (y :: ys) [] _ => x == bltName f && glB sc x && mEs (.cons e es) sc (y :: ys)
  | .isi a t, sc, .Call (.Name x _) [y, .Name z _] [] _ => x == ("isinstance" : Str) && glB sc x && z == Str.ofString (tyName t) && glB sc z && mE a sc y && plainB y
  | .get a k e, sc, .Call (.Attribute (.Name o op) m ap) [y, z] [] pos => m == ("get" : Str) && mE a sc (.Name o op) && mE k sc y && mE e sc z && plainB y && plainB z && (ap.endLine == pos.line)
  | .app a e, sc, .Call (.Attribute (.Name o op) m ap) [y] [] pos => m == ("append" : Str) && mE a sc (.Name o op) && mE e sc y && plainB y && (ap.endLine == pos.line)
  | .pop a e, sc, .Call (.Attribute (.Name o op) m ap) [y] [] pos => m == ("pop" : Str) && mE a sc (.Name o op) && mE e sc y && plainB y && (ap.endLine == pos.line)
  | .frz a, sc, p => mE a sc p
  | .cad a b, sc, .BinOp x .Add y _ => mE a sc x && mE b sc y
  | .lc _ elt ts it t, sc, .ListComp x [⟨tg, iter, ifs, 0⟩] scope _ => blkC N sc scope (ownOf N ts) && mTg N scope ts tg && mIt it sc iter tg && mEoT t scope ifs && mE elt scope x && plainB iter
  | _, _, _ => false
def mEs : Es → Scope → List Expr → Bool
  | .nil, _, [] => true
  | .cons e es, sc, y :: ys => mE e sc y && plainB y && mEs es sc ys
  | _, _, _ => false
def mEo : Eo → Scope → Option Expr → Bool
  | .non, _, none => true
  | .som e, sc, some y => mE e sc y
  | _, _, _ => false
def mEoT : Eo → Scope → List Expr → Bool
  | .non, _, [] => true
  | .som e, sc, [y] => mE e sc y && tstB e
  | _, _, _ => false
def mIt : Iw → Scope → Expr → Expr → Bool
  | .zip a b, sc, .Call (.Name x _) [y, z] [] _, .Tuple _ _ _ => x == ("zip" : Str) && glB sc x && mE a sc y && mE b sc z && plainB y && plainB z
  | .rng a, sc, .Call (.Name x _) [y] [] _, _ => x == ("range" : Str) && glB sc x && mE a sc y && plainB y
  | .rng2 a b, sc, .Call (.Name x _) [y, z] [] _, _ => x == ("range" : Str) && glB sc x && mE a sc y && mE b sc z && plainB y && plainB z
  | .val e, sc, y, _ => mE e sc y
  | _, _, _, _ => false
end
end
end Q
end
section
set_option autoImplicit false
set_option maxHeartbeats 4000000
/-! # The Q layer, part 14: what matches is sound (expressions) -/
namespace Q
open PySem PySem.Spec PyProof.Rows L2

/-- the scope that runs has the written one's names -/
structure ScOk (X : Cx) (sc : Scope) : Prop where
  vis : ∀ x, visB sc x = true → Vis X.env.scope x
  cf : ∀ x, sc.names.lookup x = some .cell ∨ sc.names.lookup x = some .free → X.env.scope.names.lookup x = some .cell ∨ X.env.scope.names.lookup x = some .free
  gl : ∀ x, glB sc x = true → Gl X x
  loc : ∀ x, locB sc x = true → Loc X.env.scope x ∧ (X.fn x = true ∨ X.env.scope.names.lookup x = some .local)
def bltNames : List Str := ["len", "int", "all", "tuple", "list", "sorted", "min", "sum", "isinstance", "str", "bool", "zip", "range"]
/-- what every context of this text knows -/
structure Gd (X : Cx) (K : KP) (M : Nm) (XA : Exc → Addr) (G : Nat → Option D) (lvl : Nat) (callf : Nat → List W → Cells → Res W) : Prop where
  o : Ok0 X K
  room : Room lvl X.A
  cal : ∀ f, M.dom f = true → ∃ fa fd ps, X.mg (M.fname f) = some (.ref fa) ∧ PySem.W.keepIn X.K (.ref fa) = true ∧ Binds X.K fd ps [] ∧ FnOk X.prog X.w X.K X.mg X.base (L2.CX X.prog X.w) lvl fa fd ps (spEv K XA (callf f))
  glo : ∀ g, M.gdom g = true → ∃ v u, X.mg (M.gname g) = some u ∧ RelV v u ∧ ∀ d, G g = some d → ∀ H L, Den K H L v d
  blt : ∀ x ∈ bltNames, X.mg x = none
/-- .. and a context with its own wish -/
structure Ctx (X : Cx) (K : KP) (M : Nm) (XA : Exc → Addr) (G : Nat → Option D) (lvl : Nat) (callf : Nat → List W → Cells → Res W) (N : List Str) (xk : XKQ) (Wx : WX) (sc : Scope) : Prop where
  gd : Gd X K M XA G lvl callf
  hN : X.N = N
  nd : N.Nodup
  tk : Tk X XA xk Wx
  sc : ScOk X sc

theorem star_of {e : Expr} (h : plainB e = true) (es : List Expr) (env : PySem.Env) : starEach (e :: es) env = (false, eval e env) :: starEach es env := by
  cases e <;> first | rfl | exact absurd h (by simp [plainB])
theorem plain_ix {e : Expr} (h : plainB e = true) : PlainIx e := by
  intro o i
  cases e <;> first | rfl | exact absurd h (by simp [plainB])
theorem behind_of {e : Expr} (h : plainB e = true) (o : CmpOp) : behindInMarks o e = false := by
  cases e <;> first | rfl | exact absurd h (by simp [plainB])
theorem folded_of {e : Expr} (h : plainB e = true) (env : PySem.Env) (x : Value) : foldedSetIterable e env x = pure x := by
  cases e <;> first | rfl | exact absurd h (by simp [plainB])
theorem mCmp_eq {o : Cmp} {op : CmpOp} (h : mCmp o op = true) : op = pyCmp o := by
  cases o <;> cases op <;> first | rfl | exact absurd h (by simp [mCmp])
theorem mOp_eq {o : Op} {op : Operator} (h : mOp o op = true) : op = pyOp o := by
  cases o <;> cases op <;> first | rfl | exact absurd h (by simp [mOp])
theorem eqS {x y : Str} (h : (x == y) = true) : x = y := eq_of_beq h
theorem glB_eq {sc : Scope} {x : Str} (h : glB sc x = true) : sc.names.lookup x = some .globalImplicit := of_decide_eq_true h

section
variable {X : Cx} {K : KP} {n : Nat} {xk : XKQ} {a : Expr} {es : List Expr}
theorem mCon_ok {d : D} {k : Const} {j : Nat} {pos : Pos} (h : mCon d k = true) : ∃ v, PE X (.Constant k j pos) (tC v) ∧ ∀ K H L, Den K H L v d := by
  unfold mCon at h
  split at h
  · exact ⟨_, pe_non, fun _ _ _ => .non⟩
  · cases eq_of_beq h; exact ⟨_, pe_bl, fun _ _ _ => .bl _⟩
  · cases eq_of_beq h; exact ⟨_, pe_int, fun _ _ _ => .int _⟩
  · cases eq_of_beq h; exact ⟨_, pe_str, fun _ _ _ => .str _⟩
  · cases h
/-! ### a block's scope -/
theorem lookup_free {sc : Scope} : ∀ {names : List (Str × NameKind)} {x : Str}, names.lookup x = some .free →
    (names.map fun (n, k) => if (k == NameKind.free && sc.kind == .function && sc.names.lookup n == some .cell) then (n, NameKind.cell) else (n, k)).lookup x = some .cell ∨
    (names.map fun (n, k) => if (k == NameKind.free && sc.kind == .function && sc.names.lookup n == some .cell) then (n, NameKind.cell) else (n, k)).lookup x = some .free
  | [], _, h => by cases h
  | (m, k) :: r, x, h => by
    rw [List.lookup_cons] at h
    rw [List.map_cons]
    dsimp only
    by_cases e : (x == m) = true
    · rw [e] at h
      cases h
      by_cases c : (NameKind.free == NameKind.free && sc.kind == ScopeKind.function && sc.names.lookup m == some NameKind.cell) = true
      · rw [if_pos c, List.lookup_cons, e]; exact .inl rfl
      · rw [if_neg c, List.lookup_cons, e]; exact .inr rfl
    · have e' : (x == m) = false := by simpa using e
      rw [e'] at h
      have ih := lookup_free (sc := sc) (names := r) (x := x) h
      split <;> (rw [List.lookup_cons, e']; exact ih)
theorem sc_blk {scope sc : Scope} {s : Shared} {H : Hp} {C : Addr} {cl : List (Str × Addr)} {fp : List Addr} : ScOk (X.blk s H scope (compEnvC scope cl C X.env) fp) scope := by
  have keep : ∀ x k, k ≠ NameKind.free → scope.names.lookup x = some k → (relabel scope X.env).names.lookup x = some k := fun x k hk h => lookup_relS_keep (sc := X.env.scope) hk h
  have free : ∀ x, scope.names.lookup x = some .free → (relabel scope X.env).names.lookup x = some .cell ∨ (relabel scope X.env).names.lookup x = some .free := fun x h => lookup_free (sc := X.env.scope) h
  refine ⟨fun x h => ?_, fun x h => ?_, fun x h => keep x _ (by simp) (glB_eq h), fun x h => ?_⟩
  · unfold visB at h
    split at h
    · rename_i e; exact .inl (keep x _ (by simp) e)
    · rename_i e; exact .inr (.inl (keep x _ (by simp) e))
    · rename_i e; exact .inr ((free x e).elim .inl .inr)
    · cases h
  · rcases h with h | h
    · exact .inl (keep x _ (by simp) h)
    · exact free x h
  · unfold locB at h
    split at h
    · rename_i e; exact ⟨.inl (keep x _ (by simp) e), .inr (keep x _ (by simp) e)⟩
    · rename_i e
      refine ⟨.inr (keep x _ (by simp) e), .inl ?_⟩
      show (scope.names.lookup x == some .cell) = true
      rw [e]; rfl
    · cases h
end
end Q
end
section
set_option autoImplicit false
set_option maxHeartbeats 4000000
/-! # The Q layer, part 15: what a match says of the syntax (printed by gen_inv.py) -/
namespace Q
open PySem PySem.Spec PyProof.Rows L2
theorem dbB_eq {x : Str} (h : dbB x = true) : (x == ("__debug__" : Str)) = false := by unfold dbB at h; simpa using h
variable {M : Nm} {N : List Str} {sc : Scope} {p : Expr}
theorem inv_var {i : Nat} (h : mE M N (.var i) sc p = true) : ∃ x pos, p = .Name x pos ∧ N[i]? = some x ∧ visB sc x = true ∧ (x == ("__debug__" : Str)) = false ∧ (x == ("__classdict__" : Str)) = false := by
  unfold mE at h
  split at h <;> first | cases h | (rename_i q; cases q)
  simp only [Bool.and_eq_true, Bool.not_eq_true', decide_eq_true_eq] at h
  obtain ⟨⟨⟨h1, h2⟩, h3⟩, h4⟩ := h
  exact ⟨_, _, rfl, h1, h2, dbB_eq h3, h4⟩
theorem inv_con {d : D} (h : mE M N (.con d) sc p = true) : ∃ k j pos, p = .Constant k j pos ∧ mCon d k = true := by
  unfold mE at h
  split at h <;> first | cases h | (rename_i q; cases q)
  exact ⟨_, _, _, rfl, h⟩
theorem inv_glo {g : Nat} (h : mE M N (.glo g) sc p = true) : ∃ pos, p = .Name (M.gname g) pos ∧ glB sc (M.gname g) = true ∧ (M.gname g == ("__debug__" : Str)) = false ∧ M.gdom g = true := by
  unfold mE at h
  split at h <;> first | cases h | (rename_i q; cases q)
  simp only [Bool.and_eq_true] at h
  obtain ⟨⟨⟨h1, h2⟩, h3⟩, h4⟩ := h
  obtain rfl := eqS h1
  exact ⟨_, rfl, h2, dbB_eq h3, h4⟩
theorem inv_tup {es : Es} (h : mE M N (.tup es) sc p = true) : ∃ xs k pos, p = .Tuple xs k pos ∧ mEs M N es sc xs = true := by
  unfold mE at h
  split at h <;> first | cases h | (rename_i q; cases q)
  exact ⟨_, _, _, rfl, h⟩
theorem inv_lst {es : Es} (h : mE M N (.lst es) sc p = true) : ∃ xs pos, p = .List xs pos ∧ mEs M N es sc xs = true := by
  unfold mE at h
  split at h <;> first | cases h | (rename_i q; cases q)
  exact ⟨_, _, rfl, h⟩
theorem inv_cel {es : Es} (h : mE M N (.cel es) sc p = true) : ∃ xs pos, p = .List xs pos ∧ mEs M N es sc xs = true := by
  unfold mE at h
  split at h <;> first | cases h | (rename_i q; cases q)
  exact ⟨_, _, rfl, h⟩
theorem inv_dic {ks : List Str} {es : Es} (h : mE M N (.dic ks es) sc p = true) : ∃ keys vs pos, p = .Dict keys vs pos ∧ mKeys ks keys = true ∧ mEs M N es sc vs = true ∧ keys ≠ [] ∧ keys.length = vs.length ∧ keys.length ≤ 15 := by
  unfold mE at h
  split at h <;> first | cases h | (rename_i q; cases q)
  simp only [Bool.and_eq_true, decide_eq_true_eq] at h
  obtain ⟨⟨⟨⟨h1, h2⟩, h3⟩, h4⟩, h5⟩ := h
  exact ⟨_, _, _, rfl, h1, h2, (fun z => by rw [z] at h3; cases h3), h4, h5⟩
theorem inv_not {a : E} (h : mE M N (.not a) sc p = true) : ∃ x pos, p = .UnaryOp .Not x pos ∧ mE M N a sc x = true := by
  unfold mE at h
  split at h <;> first | cases h | (rename_i q; cases q)
  exact ⟨_, _, rfl, h⟩
theorem inv_cmp {o : Cmp} {a b : E} (h : mE M N (.cmp o a b) sc p = true) : ∃ x y pos, p = .Compare x [pyCmp o] [y] pos ∧ mE M N a sc x = true ∧ mE M N b sc y = true ∧ plainB y = true := by
  unfold mE at h
  split at h <;> first | cases h | (rename_i q; cases q)
  simp only [Bool.and_eq_true] at h
  obtain ⟨⟨⟨h1, h2⟩, h3⟩, h4⟩ := h
  obtain rfl := mCmp_eq h1
  exact ⟨_, _, _, rfl, h2, h3, h4⟩
theorem inv_chn {o q : Cmp} {a b e : E} (h : mE M N (.chn o q a b e) sc p = true) : ∃ x y z pos, p = .Compare x [pyCmp o, pyCmp q] [y, z] pos ∧ mE M N a sc x = true ∧ mE M N b sc y = true ∧ mE M N e sc z = true ∧ plainB z = true := by
  unfold mE at h
  split at h <;> first | cases h | (rename_i q; cases q)
  simp only [Bool.and_eq_true] at h
  obtain ⟨⟨⟨⟨⟨h1, h2⟩, h3⟩, h4⟩, h5⟩, h6⟩ := h
  obtain rfl := mCmp_eq h1
  obtain rfl := mCmp_eq h2
  exact ⟨_, _, _, _, rfl, h3, h4, h5, h6⟩
theorem inv_bin {o : Op} {a b : E} (h : mE M N (.bin o a b) sc p = true) : ∃ x y pos, p = .BinOp x (pyOp o) y pos ∧ mE M N a sc x = true ∧ mE M N b sc y = true := by
  unfold mE at h
  split at h <;> first | cases h | (rename_i q; cases q)
  simp only [Bool.and_eq_true] at h
  obtain ⟨⟨h1, h2⟩, h3⟩ := h
  obtain rfl := mOp_eq h1
  exact ⟨_, _, _, rfl, h2, h3⟩
theorem inv_neg {a : E} (h : mE M N (.neg a) sc p = true) : ∃ x pos, p = .UnaryOp .USub x pos ∧ mE M N a sc x = true := by
  unfold mE at h
  split at h <;> first | cases h | (rename_i q; cases q)
  exact ⟨_, _, rfl, h⟩
theorem inv_ite {t a b : E} (h : mE M N (.ite t a b) sc p = true) : ∃ x y z pos, p = .IfExp x y z pos ∧ mE M N t sc x = true ∧ tstB t = true ∧ mE M N a sc y = true ∧ mE M N b sc z = true := by
  unfold mE at h
  split at h <;> first | cases h | (rename_i q; cases q)
  simp only [Bool.and_eq_true] at h
  obtain ⟨⟨⟨h1, h2⟩, h3⟩, h4⟩ := h
  exact ⟨_, _, _, _, rfl, h1, h2, h3, h4⟩
theorem inv_idx {a i : E} (h : mE M N (.idx a i) sc p = true) : ∃ x y pos, p = .Subscript x y pos ∧ mE M N a sc x = true ∧ mE M N i sc y = true ∧ plainB y = true := by
  unfold mE at h
  split at h <;> first | cases h | (rename_i q; cases q)
  simp only [Bool.and_eq_true] at h
  obtain ⟨⟨h1, h2⟩, h3⟩ := h
  exact ⟨_, _, _, rfl, h1, h2, h3⟩
theorem inv_slc {a : E} {lo hi : Eo} (h : mE M N (.slc a lo hi) sc p = true) : ∃ x l u p2 pos, p = .Subscript x (.Slice l u none p2) pos ∧ mE M N a sc x = true ∧ mEo M N lo sc l = true ∧ mEo M N hi sc u = true := by
  unfold mE at h
  split at h <;> first | cases h | (rename_i q; cases q)
  simp only [Bool.and_eq_true] at h
  obtain ⟨⟨h1, h2⟩, h3⟩ := h
  exact ⟨_, _, _, _, _, rfl, h1, h2, h3⟩
theorem inv_call {f : Nat} {es : Es} (h : mE M N (.call f es) sc p = true) : ∃ y ys p2 pos e r, es = .cons e r ∧ p = .Call (.Name (M.fname f) p2) (y :: ys) [] pos ∧ glB sc (M.fname f) = true ∧ (M.fname f == ("__debug__" : Str)) = false ∧ M.dom f = true ∧ mEs M N (.cons e r) sc (y :: ys) = true := by
  unfold mE at h
  split at h <;> first | cases h | (rename_i q; cases q)
  simp only [Bool.and_eq_true] at h
  obtain ⟨⟨⟨⟨h1, h2⟩, h3⟩, h4⟩, h5⟩ := h
  obtain rfl := eqS h1
  exact ⟨_, _, _, _, _, _, rfl, rfl, h2, dbB_eq h3, h4, h5⟩
theorem inv_blt {f : Blt} {es : Es} (h : mE M N (.blt f es) sc p = true) : ∃ y ys p2 pos e r, es = .cons e r ∧ p = .Call (.Name (bltName f) p2) (y :: ys) [] pos ∧ glB sc (bltName f) = true ∧ mEs M N (.cons e r) sc (y :: ys) = true := by
  unfold mE at h
  split at h <;> first | cases h | (rename_i q; cases q)
  simp only [Bool.and_eq_true] at h
  obtain ⟨⟨h1, h2⟩, h3⟩ := h
  obtain rfl := eqS h1
  exact ⟨_, _, _, _, _, _, rfl, rfl, h2, h3⟩
theorem inv_isi {a : E} {t : Ty} (h : mE M N (.isi a t) sc p = true) : ∃ y p2 p3 pos, p = .Call (.Name "isinstance" p2) [y, .Name (Str.ofString (tyName t)) p3] [] pos ∧ glB sc "isinstance" = true ∧ glB sc (Str.ofString (tyName t)) = true ∧ mE M N a sc y = true ∧ plainB y = true := by
  unfold mE at h
  split at h <;> first | cases h | (rename_i q; cases q)
  simp only [Bool.and_eq_true] at h
  obtain ⟨⟨⟨⟨⟨h1, h2⟩, h3⟩, h4⟩, h5⟩, h6⟩ := h
  obtain rfl := eqS h1
  obtain rfl := eqS h3
  exact ⟨_, _, _, _, rfl, h2, h4, h5, h6⟩
theorem inv_get {a k e : E} (h : mE M N (.get a k e) sc p = true) : ∃ o op ap y z pos, p = .Call (.Attribute (.Name o op) "get" ap) [y, z] [] pos ∧ mE M N a sc (.Name o op) = true ∧ mE M N k sc y = true ∧ mE M N e sc z = true ∧ plainB y = true ∧ plainB z = true ∧ (ap.endLine == pos.line) = true := by
  unfold mE at h
  split at h <;> first | cases h | (rename_i q; cases q)
  simp only [Bool.and_eq_true] at h
  obtain ⟨⟨⟨⟨⟨⟨h1, h2⟩, h3⟩, h4⟩, h5⟩, h6⟩, h7⟩ := h
  obtain rfl := eqS h1
  exact ⟨_, _, _, _, _, _, rfl, h2, h3, h4, h5, h6, h7⟩
theorem inv_app {a e : E} (h : mE M N (.app a e) sc p = true) : ∃ o op ap y pos, p = .Call (.Attribute (.Name o op) "append" ap) [y] [] pos ∧ mE M N a sc (.Name o op) = true ∧ mE M N e sc y = true ∧ plainB y = true ∧ (ap.endLine == pos.line) = true := by
  unfold mE at h
  split at h <;> first | cases h | (rename_i q; cases q)
  simp only [Bool.and_eq_true] at h
  obtain ⟨⟨⟨⟨h1, h2⟩, h3⟩, h4⟩, h5⟩ := h
  obtain rfl := eqS h1
  exact ⟨_, _, _, _, _, rfl, h2, h3, h4, h5⟩
theorem inv_pop {a e : E} (h : mE M N (.pop a e) sc p = true) : ∃ o op ap y pos, p = .Call (.Attribute (.Name o op) "pop" ap) [y] [] pos ∧ mE M N a sc (.Name o op) = true ∧ mE M N e sc y = true ∧ plainB y = true ∧ (ap.endLine == pos.line) = true := by
  unfold mE at h
  split at h <;> first | cases h | (rename_i q; cases q)
  simp only [Bool.and_eq_true] at h
  obtain ⟨⟨⟨⟨h1, h2⟩, h3⟩, h4⟩, h5⟩ := h
  obtain rfl := eqS h1
  exact ⟨_, _, _, _, _, rfl, h2, h3, h4, h5⟩
theorem inv_cad {a b : E} (h : mE M N (.cad a b) sc p = true) : ∃ x y pos, p = .BinOp x .Add y pos ∧ mE M N a sc x = true ∧ mE M N b sc y = true := by
  unfold mE at h
  split at h <;> first | cases h | (rename_i q; cases q)
  rw [Bool.and_eq_true] at h
  exact ⟨_, _, _, rfl, h.1, h.2⟩
theorem inv_lc {m : Bool} {elt : E} {it : Iw} {t : Eo} {ts : List Nat} (h : mE M N (.lc m elt ts it t) sc p = true) : ∃ x tg iter ifs scope pos, p = .ListComp x [⟨tg, iter, ifs, 0⟩] scope pos ∧ blkC N sc scope (ownOf N ts) = true ∧ mTg N scope ts tg = true ∧ mIt M N it sc iter tg = true ∧ mEoT M N t scope ifs = true ∧ mE M N elt scope x = true ∧ plainB iter = true := by
  unfold mE at h
  split at h <;> first | cases h | (rename_i q; cases q)
  simp only [Bool.and_eq_true] at h
  obtain ⟨⟨⟨⟨⟨h1, h2⟩, h3⟩, h4⟩, h5⟩, h6⟩ := h
  exact ⟨_, _, _, _, _, _, rfl, h1, h2, h3, h4, h5, h6⟩
theorem inv_and {a b : E} (h : mE M N (.and a b) sc p = true) : ∃ x y r pos, p = .BoolOp .And (x :: y :: r) pos ∧ mE M N a sc x = true ∧ ((r = [] ∧ mE M N b sc y = true) ∨ (r ≠ [] ∧ mE M N b sc (.BoolOp .And (y :: r) pos) = true)) := by
  unfold mE at h
  split at h <;> first | cases h | (rename_i q; cases q)
  rw [Bool.and_eq_true] at h
  obtain ⟨h1, h2⟩ := h
  split at h2
  · exact ⟨_, _, _, _, rfl, h1, .inl ⟨rfl, h2⟩⟩
  · rename_i q
    exact ⟨_, _, _, _, rfl, h1, .inr ⟨q, h2⟩⟩
theorem inv_or {a b : E} (h : mE M N (.or a b) sc p = true) : ∃ x y r pos, p = .BoolOp .Or (x :: y :: r) pos ∧ mE M N a sc x = true ∧ ((r = [] ∧ mE M N b sc y = true) ∨ (r ≠ [] ∧ mE M N b sc (.BoolOp .Or (y :: r) pos) = true)) := by
  unfold mE at h
  split at h <;> first | cases h | (rename_i q; cases q)
  rw [Bool.and_eq_true] at h
  obtain ⟨h1, h2⟩ := h
  split at h2
  · exact ⟨_, _, _, _, rfl, h1, .inl ⟨rfl, h2⟩⟩
  · rename_i q
    exact ⟨_, _, _, _, rfl, h1, .inr ⟨q, h2⟩⟩
theorem inv_frz {a : E} (h : mE M N (.frz a) sc p = true) : mE M N a sc p = true := by
  unfold mE at h
  exact h
theorem inv_no {a : E} {b e : List Nat} {x f : Iw} {d g : Eo} (h : mE M N (.lc2 a b x d e f g) sc p = true) : False := by
  unfold mE at h
  cases h
theorem inv_val {e : E} {tg : Expr} (h : mIt M N (.val e) sc p tg = true) : mE M N e sc p = true := by
  unfold mIt at h
  exact h
theorem inv_nil {xs : List Expr} (h : mEs M N .nil sc xs = true) : xs = [] := by
  cases xs with
  | nil => rfl
  | cons _ _ => unfold mEs at h; cases h
theorem inv_cons {e : E} {es : Es} {xs : List Expr} (h : mEs M N (.cons e es) sc xs = true) : ∃ y ys, xs = y :: ys ∧ mE M N e sc y = true ∧ plainB y = true ∧ mEs M N es sc ys = true := by
  cases xs with
  | nil => unfold mEs at h; cases h
  | cons y ys =>
    unfold mEs at h
    simp only [Bool.and_eq_true] at h
    obtain ⟨⟨h1, h2⟩, h3⟩ := h
    exact ⟨_, _, rfl, h1, h2, h3⟩
theorem inv_non {o : Option Expr} (h : mEo M N .non sc o = true) : o = none := by
  cases o with
  | none => rfl
  | some _ => unfold mEo at h; cases h
theorem inv_som {e : E} {o : Option Expr} (h : mEo M N (.som e) sc o = true) : ∃ y, o = some y ∧ mE M N e sc y = true := by
  cases o with
  | none => unfold mEo at h; cases h
  | some y => unfold mEo at h; exact ⟨_, rfl, h⟩
theorem inv_nonT {xs : List Expr} (h : mEoT M N .non sc xs = true) : xs = [] := by
  cases xs with
  | nil => rfl
  | cons _ _ => unfold mEoT at h; cases h
theorem inv_somT {e : E} {xs : List Expr} (h : mEoT M N (.som e) sc xs = true) : ∃ y, xs = [y] ∧ mE M N e sc y = true ∧ tstB e = true := by
  match xs, h with
  | [], h => unfold mEoT at h; cases h
  | [y], h =>
    unfold mEoT at h
    rw [Bool.and_eq_true] at h
    exact ⟨_, rfl, h⟩
  | _ :: _ :: _, h => unfold mEoT at h; cases h
theorem inv_zip {a b : E} {tg : Expr} (h : mIt M N (.zip a b) sc p tg = true) : ∃ y z p2 pos es k pt, p = .Call (.Name "zip" p2) [y, z] [] pos ∧ tg = .Tuple es k pt ∧ glB sc "zip" = true ∧ mE M N a sc y = true ∧ mE M N b sc z = true ∧ plainB y = true ∧ plainB z = true := by
  unfold mIt at h
  split at h <;> first | cases h | (rename_i q; cases q)
  · simp only [Bool.and_eq_true] at h
    obtain ⟨⟨⟨⟨⟨h1, h2⟩, h3⟩, h4⟩, h5⟩, h6⟩ := h
    obtain rfl := eqS h1
    exact ⟨_, _, _, _, _, _, _, rfl, rfl, h2, h3, h4, h5, h6⟩
theorem inv_rng {a : E} {tg : Expr} (h : mIt M N (.rng a) sc p tg = true) : ∃ y p2 pos, p = .Call (.Name "range" p2) [y] [] pos ∧ glB sc "range" = true ∧ mE M N a sc y = true ∧ plainB y = true := by
  unfold mIt at h
  split at h <;> first | cases h | (rename_i q; cases q)
  · simp only [Bool.and_eq_true] at h
    obtain ⟨⟨⟨h1, h2⟩, h3⟩, h4⟩ := h
    obtain rfl := eqS h1
    exact ⟨_, _, _, rfl, h2, h3, h4⟩
theorem inv_rng2 {a b : E} {tg : Expr} (h : mIt M N (.rng2 a b) sc p tg = true) : ∃ y z p2 pos, p = .Call (.Name "range" p2) [y, z] [] pos ∧ glB sc "range" = true ∧ mE M N a sc y = true ∧ mE M N b sc z = true ∧ plainB y = true ∧ plainB z = true := by
  unfold mIt at h
  split at h <;> first | cases h | (rename_i q; cases q)
  · simp only [Bool.and_eq_true] at h
    obtain ⟨⟨⟨⟨⟨h1, h2⟩, h3⟩, h4⟩, h5⟩, h6⟩ := h
    obtain rfl := eqS h1
    exact ⟨_, _, _, _, rfl, h2, h3, h4, h5, h6⟩
end Q
end
section
set_option autoImplicit false
set_option maxHeartbeats 4000000
/-! # The Q layer, part 15: an expression that matches is sound -/
namespace Q
open PySem PySem.Spec PyProof.Rows L2

structure OkE (X : Cx) (K : KP) (n : Nat) (xk : XKQ) (r : Env → Cells → Res W) (tst : Bool) (p : Expr) : Prop where
  pe : PE X p (dE K n xk r)
  pt : tst = true → PT X p (dT K n xk (rTru r))
  pw : tst = true → ∀ op es q, p = .BoolOp op es q → PW X p (dT K n xk (rTru r))
theorem OkE.one {X : Cx} {K : KP} {n : Nat} {xk : XKQ} {r : Env → Cells → Res W} {tst : Bool} {p : Expr} (h : PE X p (dE K n xk r)) (hs : ∀ whole, isTrue p X.env whole = (do let v ← whole; standAt p.pos; holding [v] (truthy v))) (hb : ∀ op es q, p ≠ .BoolOp op es q) : OkE X K n xk r tst p :=
  ⟨h, fun _ => t_of h hs, fun _ op es q e => absurd e (hb op es q)⟩
/-- for what is no test -/
theorem OkE.no {X : Cx} {K : KP} {n : Nat} {xk : XKQ} {r : Env → Cells → Res W} {p : Expr} (h : PE X p (dE K n xk r)) : OkE X K n xk r false p := ⟨h, fun z => (nomatch z), fun z => (nomatch z)⟩

section
variable {X : Cx} {K : KP} {M : Nm} {XA : Exc → Addr} {G : Nat → Option D} {lvl : Nat} {callf : Nat → List W → Cells → Res W} {N : List Str} {xk : XKQ} {Wx : WX} {sc : Scope}
theorem Gd.blk (g : Gd X K M XA G lvl callf) (s : Shared) (H : Hp) (scope : Scope) (cenv : PySem.Env) (fp : List Addr) : Gd (X.blk s H scope cenv fp) K M XA G lvl callf :=
  ⟨⟨g.o.hK, g.o.hP, g.o.u, g.o.calm⟩, g.room, g.cal, g.glo, g.blt⟩
theorem Ctx.blk (C : Ctx X K M XA G lvl callf N xk Wx sc) {scope : Scope} (s : Shared) (H : Hp) (B : Addr) (cl : List (Str × Addr)) (fp : List Addr) :
    Ctx (X.blk s H scope (compEnvC scope cl B X.env) fp) K M XA G lvl callf N xF (fun _ _ _ _ => False) scope :=
  ⟨C.gd.blk s H scope _ fp, C.hN, C.nd, ⟨takes_none5, fun _ _ _ _ _ _ q => q⟩, sc_blk (sc := sc)⟩
theorem plain_any {es : List Expr} {env : PySem.Env} {pos : Pos} (h : (starEach es env).all (fun x => !x.1) = true) : (backTo pos (starEach es env)).any (·.1) = false := by
  cases h2 : starEach es env with
  | nil => rfl
  | cons a r =>
    have b : ∀ (l : List (Bool × Sem Value)), l.all (fun x => !x.1) = true → (backTo pos l).any (·.1) = false := by
      intro l hl
      unfold backTo
      rw [List.any_map]
      rw [List.any_eq_false]
      rw [List.all_eq_true] at hl
      intro x hx
      have := hl x hx
      simpa using this
    rw [h2] at h
    exact b _ h
theorem es_star : ∀ {es : Es} {ys : List Expr} {env : PySem.Env}, mEs M N es sc ys = true → (starEach ys env).all (fun x => !x.1) = true
  | .nil, ys, env, h => by rw [inv_nil h]; rfl
  | .cons e es, ys, env, h => by
    obtain ⟨y, r, rfl, h1, h2, h3⟩ := inv_cons h
    rw [star_of h2, List.all_cons, es_star (es := es) (env := env) h3]
    rfl
theorem es_any {es : Es} {ys : List Expr} {env : PySem.Env} {pos : Pos} (h : mEs M N es sc ys = true) : (backTo pos (starEach ys env)).any (·.1) = false := plain_any (es_star h)
theorem star_one {e : Expr} (h : plainB e = true) (env : PySem.Env) : starEach [e] env = [(false, eval e env)] := star_of h [] env
theorem star_two {e f : Expr} (h : plainB e = true) (h2 : plainB f = true) (env : PySem.Env) : starEach [e, f] env = [(false, eval e env), (false, eval f env)] := by rw [star_of h, star_one h2]
theorem mark_two {o p : CmpOp} {b e : Expr} (h : plainB e = true) : lastMarks [o, p] [b, e] = false := behind_of h p
theorem keys_all : ∀ {ks : List Str} {keys : List (Option Expr)}, mKeys ks keys = true → keys.all (·.isSome) = true ∧ ks.length = keys.length
  | [], [], _ => ⟨rfl, rfl⟩
  | k :: ks, some (.Constant (.str x) _ _) :: r, h => by
    unfold mKeys at h
    rw [Bool.and_eq_true] at h
    obtain ⟨h1, h2⟩ := keys_all h.2
    exact ⟨by rw [List.all_cons, h1]; rfl, congrArg (· + 1) h2⟩
theorem own_map (ts : List Nat) : (ownOf N ts).map (·.2) = ts := by
  unfold ownOf
  rw [List.map_map]
  exact List.map_id _
theorem name_of (C : Ctx X K M XA G lvl callf N xk Wx sc) {i : Nat} {x : Str} (h : mName N sc i x = true) : X.N[i]? = some x ∧ Loc X.env.scope x ∧ (X.fn x = true ∨ X.env.scope.names.lookup x = some .local) := by
  unfold mName at h
  rw [Bool.and_eq_true, decide_eq_true_eq] at h
  exact ⟨by rw [C.hN]; exact h.1, C.sc.loc x h.2⟩
theorem names_of (C : Ctx X K M XA G lvl callf N xk Wx sc) : ∀ {is : List Nat} {es : List Expr}, mNames N sc is es = true → NamesOf X es is ∧ es.length = is.length
  | [], [], _ => ⟨.nil, rfl⟩
  | i :: is, .Name x _ :: es, h => by
    unfold mNames at h
    rw [Bool.and_eq_true] at h
    obtain ⟨h1, h2, h3⟩ := name_of C h.1
    obtain ⟨h4, h5⟩ := names_of C h.2
    exact ⟨.cons h1 h2 h3 h4, congrArg (· + 1) h5⟩
theorem tg_of (C : Ctx X K M XA G lvl callf N xk Wx sc) {ts : List Nat} {tg : Expr} (h : mTg N sc ts tg = true) : TgOf X tg ts := by
  unfold mTg at h
  split at h
  · obtain ⟨h1, h2, h3⟩ := name_of C h
    exact .one h1 h2 h3
  · exact .many (names_of C h).1 (by simp)
  · cases h
theorem blk_of (C : Ctx X K M XA G lvl callf N xk Wx sc) {scope : Scope} {own : List (Str × Nat)} (h : blkC N sc scope own = true) : BlkOk X.N X.env.scope scope own := by
  have b := blkOk_by h
  exact ⟨b.kind, b.uniq, by rw [C.hN]; exact b.ix, fun y hy e => C.sc.cf _ (b.free y hy e), by rw [C.hN]; exact b.own⟩
theorem Ctx.ndX (C : Ctx X K M XA G lvl callf N xk Wx sc) : X.N.Nodup := by rw [C.hN]; exact C.nd
theorem Ctx.lnX (C : Ctx X K M XA G lvl callf N xk Wx sc) : X.N.length = N.length := by rw [C.hN]
theorem Ctx.bl (C : Ctx X K M XA G lvl callf N xk Wx sc) (x : Str) (h : x ∈ bltNames) : X.mg x = none := C.gd.blt x h
end
/-! ### the soundness of a match -/
section
variable {K : KP} {M : Nm} {XA : Exc → Addr} {G : Nat → Option D} {lvl : Nat} {callf : Nat → List W → Cells → Res W} {N : List Str}
mutual
theorem okE : ∀ (e : E) {X : Cx} {xk : XKQ} {Wx : WX} {sc : Scope} {p : Expr}, Ctx X K M XA G lvl callf N xk Wx sc → mE M N e sc p = true → OkE X K N.length xk (evE G callf e) (tstB e) p
  | .var i, X, xk, Wx, sc, p, C, h => by
    obtain ⟨x, pos, rfl, h1, h2, h3, h4⟩ := inv_var h
    exact .one (q_var (by rw [C.hN]; exact h1) (C.sc.vis x h2) h3 h4) (fun _ => rfl) (fun _ _ _ z => nomatch z)
  | .con d, X, xk, Wx, sc, p, C, h => by
    obtain ⟨k, j, pos, rfl, h1⟩ := inv_con h
    obtain ⟨v, h2, h3⟩ := mCon_ok (X := X) (j := j) (pos := pos) h1
    exact .one (q_val h2 (h3 K)) (fun _ => rfl) (fun _ _ _ z => nomatch z)
  | .glo g, X, xk, Wx, sc, p, C, h => by
    obtain ⟨pos, rfl, h1, h2, h3⟩ := inv_glo h
    obtain ⟨v, u, h4, h5, h6⟩ := C.gd.glo g h3
    exact .one (q_glo (v := v) (u := u) (C.sc.gl _ h1) (fun d e => ⟨h4, h5, h6 d e⟩) h2) (fun _ => rfl) (fun _ _ _ z => nomatch z)
  | .tup es, X, xk, Wx, sc, p, C, h => by
    obtain ⟨xs, k, pos, rfl, h1⟩ := inv_tup h
    exact .one (q_tup (okEs es C h1)) (fun _ => rfl) (fun _ _ _ z => nomatch z)
  | .lst es, X, xk, Wx, sc, p, C, h => by
    obtain ⟨xs, pos, rfl, h1⟩ := inv_lst h
    exact .one (q_lst (okEs es C h1)) (fun _ => rfl) (fun _ _ _ z => nomatch z)
  | .cel es, X, xk, Wx, sc, p, C, h => by
    obtain ⟨xs, pos, rfl, h1⟩ := inv_cel h
    exact .one (q_cel (okEs es C h1)) (fun _ => rfl) (fun _ _ _ z => nomatch z)
  | .dic ks es, X, xk, Wx, sc, p, C, h => by
    obtain ⟨keys, vs, pos, rfl, h1, h2, h3, h4, h5⟩ := inv_dic h
    exact .one (q_dic (okP es C h1 h4 h2) (keys_all h1).1 h4 h3 h5 (keys_all h1).2) (fun _ => rfl) (fun _ _ _ z => nomatch z)
  | .and a b, X, xk, Wx, sc, p, C, h => by
    obtain ⟨x, y, r, pos, rfl, h1, h2⟩ := inv_and h
    have ha := okE a C h1
    rcases h2 with ⟨rfl, h2⟩ | ⟨_, h2⟩
    · have hb := okE b C h2
      have w : tstB (.and a b) = true → PW X (.BoolOp .And [x, y] pos) (dT K N.length xk (rTru (evE G callf (.and a b)))) := fun z => by
        have z' : (tstB a && tstB b) = true := z
        rw [Bool.and_eq_true] at z'
        exact w_and (ha.pt z'.1) (pw_and1 (hb.pt z'.2))
      exact ⟨q_and ha.pe (pe_one hb.pe), fun z => (w z).pt, fun z op es q e => by cases e; exact w z⟩
    · have hb := okE b C h2
      have w : tstB (.and a b) = true → PW X (.BoolOp .And (x :: y :: r) pos) (dT K N.length xk (rTru (evE G callf (.and a b)))) := fun z => by
        have z' : (tstB a && tstB b) = true := z
        rw [Bool.and_eq_true] at z'
        exact w_and (ha.pt z'.1) (hb.pw z'.2 _ _ _ rfl)
      exact ⟨q_and ha.pe hb.pe, fun z => (w z).pt, fun z op es q e => by cases e; exact w z⟩
  | .or a b, X, xk, Wx, sc, p, C, h => by
    obtain ⟨x, y, r, pos, rfl, h1, h2⟩ := inv_or h
    have ha := okE a C h1
    rcases h2 with ⟨rfl, h2⟩ | ⟨_, h2⟩
    · have hb := okE b C h2
      have w : tstB (.or a b) = true → PW X (.BoolOp .Or [x, y] pos) (dT K N.length xk (rTru (evE G callf (.or a b)))) := fun z => by
        have z' : (tstB a && tstB b) = true := z
        rw [Bool.and_eq_true] at z'
        exact w_or (ha.pt z'.1) (pw_or1 (hb.pt z'.2))
      exact ⟨q_or ha.pe (pe_one hb.pe), fun z => (w z).pt, fun z op es q e => by cases e; exact w z⟩
    · have hb := okE b C h2
      have w : tstB (.or a b) = true → PW X (.BoolOp .Or (x :: y :: r) pos) (dT K N.length xk (rTru (evE G callf (.or a b)))) := fun z => by
        have z' : (tstB a && tstB b) = true := z
        rw [Bool.and_eq_true] at z'
        exact w_or (ha.pt z'.1) (hb.pw z'.2 _ _ _ rfl)
      exact ⟨q_or ha.pe hb.pe, fun z => (w z).pt, fun z op es q e => by cases e; exact w z⟩
  | .not a, X, xk, Wx, sc, p, C, h => by
    obtain ⟨x, pos, rfl, h1⟩ := inv_not h
    have ha := okE a C h1
    exact ⟨q_not ha.pe, fun z => t_not (ha.pt z), fun _ _ _ _ z => nomatch z⟩
  | .cmp o a b, X, xk, Wx, sc, p, C, h => by
    obtain ⟨x, y, pos, rfl, h1, h2, h3⟩ := inv_cmp h
    have ha := okE a C h1
    have hb := okE b C h2
    exact ⟨q_cmp C.gd.o o ha.pe hb.pe (behind_of h3 _), fun _ => t_cmp C.gd.o o ha.pe hb.pe (behind_of h3 _), fun _ _ _ _ z => nomatch z⟩
  | .chn o q a b e, X, xk, Wx, sc, p, C, h => by
    obtain ⟨x, y, z, pos, rfl, h1, h2, h3, h4⟩ := inv_chn h
    have ha := okE a C h1
    have hb := okE b C h2
    have he := okE e C h3
    exact ⟨q_chn C.gd.o o q ha.pe hb.pe he.pe (mark_two h4), fun _ => t_chn C.gd.o o q ha.pe hb.pe he.pe (mark_two h4), fun _ _ _ _ z => nomatch z⟩
  | .bin o a b, X, xk, Wx, sc, p, C, h => by
    obtain ⟨x, y, pos, rfl, h1, h2⟩ := inv_bin h
    exact .one (q_bin C.gd.o o (okE a C h1).pe (okE b C h2).pe) (fun _ => rfl) (fun _ _ _ z => nomatch z)
  | .neg a, X, xk, Wx, sc, p, C, h => by
    obtain ⟨x, pos, rfl, h1⟩ := inv_neg h
    exact .one (q_neg (okE a C h1).pe) (fun _ => rfl) (fun _ _ _ z => nomatch z)
  | .ite t a b, X, xk, Wx, sc, p, C, h => by
    obtain ⟨x, y, z, pos, rfl, h1, h2, h3, h4⟩ := inv_ite h
    exact .no (q_ite ((okE t C h1).pt h2) (okE a C h3).pe (okE b C h4).pe)
  | .idx a i, X, xk, Wx, sc, p, C, h => by
    obtain ⟨x, y, pos, rfl, h1, h2, h3⟩ := inv_idx h
    exact .one (q_idx C.gd.o (okE a C h1).pe (okE i C h2).pe (plain_ix h3)) (fun _ => rfl) (fun _ _ _ z => nomatch z)
  | .slc a lo hi, X, xk, Wx, sc, p, C, h => by
    obtain ⟨x, l, u, p2, pos, rfl, h1, h2, h3⟩ := inv_slc h
    exact .one (q_slc C.gd.o (okE a C h1).pe (okEo lo C h2) (okEo hi C h3)) (fun _ => rfl) (fun _ _ _ z => nomatch z)
  | .call f es, X, xk, Wx, sc, p, C, h => by
    obtain ⟨y, ys, p2, pos, e, r, he, rfl, h1, h2, h3, h4⟩ := inv_call h
    obtain ⟨fa, fd, ps, g1, g2, g3, g4⟩ := C.gd.cal f h3
    obtain ⟨y', ys', e2, h5, h6, h7⟩ := inv_cons h4
    cases e2
    rw [← he] at h4
    exact .one (q_call C.tk C.lnX g4 C.gd.room (C.sc.gl _ h1) g1 g2 g3 (okEs es C h4) h2 (star_of h6 _ _) (es_any h7)) (fun _ => rfl) (fun _ _ _ z => nomatch z)
  | .blt f es, X, xk, Wx, sc, p, C, h => by
    obtain ⟨y, ys, p2, pos, e, r, he, rfl, h1, h4⟩ := inv_blt h
    obtain ⟨y', ys', e2, h5, h6, h7⟩ := inv_cons h4
    cases e2
    rw [← he] at h4
    have b : bltName f ∈ bltNames := by cases f <;> decide
    exact .one (q_blt C.gd.o f (C.sc.gl _ h1) (C.bl _ b) (by cases f <;> decide +kernel) (okEs es C h4) (by cases f <;> decide) (by cases f <;> decide) (star_of h6 _ _) (es_any h7)) (fun _ => rfl) (fun _ _ _ z => nomatch z)
  | .isi a t, X, xk, Wx, sc, p, C, h => by
    obtain ⟨y, p2, p3, pos, rfl, h1, h2, h3, h4⟩ := inv_isi h
    have b : Str.ofString (tyName t) ∈ bltNames := by cases t <;> decide
    exact .one (q_isi C.gd.o t (C.sc.gl _ h1) (C.bl _ (by decide)) (C.sc.gl _ h2) (C.bl _ b) (okE a C h3).pe (star_of h4 _ _)) (fun _ => rfl) (fun _ _ _ z => nomatch z)
  | .get a k e, X, xk, Wx, sc, p, C, h => by
    obtain ⟨o, op, ap, y, z, pos, rfl, h1, h2, h3, h4, h5, h6⟩ := inv_get h
    exact .one (q_get C.gd.o (okE a C h1).pe (okE k C h2).pe (okE e C h3).pe (star_two h4 h5 _) h6) (fun _ => rfl) (fun _ _ _ z => nomatch z)
  | .app a e, X, xk, Wx, sc, p, C, h => by
    obtain ⟨o, op, ap, y, pos, rfl, h1, h2, h3, h4⟩ := inv_app h
    exact .one (q_app (okE a C h1).pe (okE e C h2).pe (star_of h3 _ _) h4) (fun _ => rfl) (fun _ _ _ z => nomatch z)
  | .pop a e, X, xk, Wx, sc, p, C, h => by
    obtain ⟨o, op, ap, y, pos, rfl, h1, h2, h3, h4⟩ := inv_pop h
    exact .one (q_pop (okE a C h1).pe (okE e C h2).pe (star_of h3 _ _) h4) (fun _ => rfl) (fun _ _ _ z => nomatch z)
  | .frz a, X, xk, Wx, sc, p, C, h => .no (q_frz (r := evE G callf a) (okE a C (inv_frz h)).pe)
  | .cad a b, X, xk, Wx, sc, p, C, h => by
    obtain ⟨x, y, pos, rfl, h1, h2⟩ := inv_cad h
    exact .one (q_cad (okE a C h1).pe (okE b C h2).pe) (fun _ => rfl) (fun _ _ _ z => nomatch z)
  | .lc mk elt ts it t, X, xk, Wx, sc, p, C, h => by
    obtain ⟨x, tg, iter, ifs, scope, pos, rfl, h1, h2, h3, h4, h5, h6⟩ := inv_lc h
    exact .one (q_lc C.gd.o.calm C.ndX (okIt it C h3) (blk_of C h1) (own_map ts)
      (fun s H B cl fp => tg_pg (Ctx.blk C s H B cl fp).ndX (Ctx.blk C (scope := scope) s H B cl fp).gd.o.calm C.gd.o.hK (tg_of (Ctx.blk C s H B cl fp) h2))
      (fun s H B cl fp => okEoT t (Ctx.blk C s H B cl fp) h4) (fun s H B cl fp => (okE elt (Ctx.blk C s H B cl fp) h5).pe) (folded_of h6 _)) (fun _ => rfl) (fun _ _ _ z => nomatch z)
  | .lc2 _ _ _ _ _ _ _, X, xk, Wx, sc, p, C, h => (inv_no h).elim
theorem okEs : ∀ (es : Es) {X : Cx} {xk : XKQ} {Wx : WX} {sc : Scope} {ys : List Expr}, Ctx X K M XA G lvl callf N xk Wx sc → mEs M N es sc ys = true → PA X ys (dA K N.length xk (evEs G callf es))
  | .nil, X, xk, Wx, sc, ys, C, h => by
    rw [inv_nil h]
    exact a_nil
  | .cons e es, X, xk, Wx, sc, ys, C, h => by
    obtain ⟨y, r, rfl, h1, h2, h3⟩ := inv_cons h
    exact a_cons (okE e C h1).pe (okEs es C h3) (star_of h2 _ _)
theorem okP : ∀ (es : Es) {X : Cx} {xk : XKQ} {Wx : WX} {sc : Scope} {ys : List Expr} {keys : List (Option Expr)} {ks : List Str} {pos : Pos}, Ctx X K M XA G lvl callf N xk Wx sc → mKeys ks keys = true → keys.length = ys.length → mEs M N es sc ys = true → QP X K N.length xk pos keys ys ks (evEs G callf es)
  | .nil, X, xk, Wx, sc, ys, keys, ks, pos, C, hk, hl, h => by
    obtain rfl := inv_nil h
    have e : keys = [] := List.eq_nil_of_length_eq_zero hl
    subst e
    have e2 : ks = [] := List.eq_nil_of_length_eq_zero (keys_all hk).2
    subst e2
    exact p_nil
  | .cons e es, X, xk, Wx, sc, ys, keys, ks, pos, C, hk, hl, h => by
    obtain ⟨y, r, rfl, h1, h2, h3⟩ := inv_cons h
    match ks, keys, hk, hl with
    | [], [], _, hl => simp at hl
    | k :: ks, some (.Constant (.str x) _ _) :: keys, hk, hl =>
      unfold mKeys at hk
      rw [Bool.and_eq_true] at hk
      obtain rfl := eqS hk.1
      exact p_cons (okE e C h1).pe (okP es C hk.2 (by simpa using hl) h3)
theorem okEo : ∀ (o : Eo) {X : Cx} {xk : XKQ} {Wx : WX} {sc : Scope} {l : Option Expr}, Ctx X K M XA G lvl callf N xk Wx sc → mEo M N o sc l = true → PO X l (dO K N.length xk (evEo G callf o))
  | .non, X, xk, Wx, sc, l, C, h => by
    rw [inv_non h]
    exact o_non
  | .som e, X, xk, Wx, sc, l, C, h => by
    obtain ⟨y, rfl, h1⟩ := inv_som h
    exact o_som (okE e C h1).pe
theorem okEoT : ∀ (o : Eo) {X : Cx} {xk : XKQ} {Wx : WX} {sc : Scope} {l : List Expr}, Ctx X K M XA G lvl callf N xk Wx sc → mEoT M N o sc l = true → PTs X l (dT K N.length xk (evEoT G callf o))
  | .non, X, xk, Wx, sc, l, C, h => by
    rw [inv_nonT h]
    exact PTs.imp pts_nil fun σ H Q ⟨ρ, α, c, m, h⟩ => Out.here m.cel h
  | .som e, X, xk, Wx, sc, l, C, h => by
    obtain ⟨y, rfl, h1, h2⟩ := inv_somT h
    exact pts_one ((okE e C h1).pt h2)
theorem okIt : ∀ (it : Iw) {X : Cx} {xk : XKQ} {Wx : WX} {sc : Scope} {p tg : Expr}, Ctx X K M XA G lvl callf N xk Wx sc → mIt M N it sc p tg = true → QI X K N.length xk tg p (evIt G callf it)
  | .val e, X, xk, Wx, sc, p, tg, C, h => i_val C.gd.o (okE e C (inv_val h)).pe
  | .zip a b, X, xk, Wx, sc, p, tg, C, h => by
    obtain ⟨y, z, p2, pos, es, k, pt, rfl, rfl, h1, h2, h3, h4, h5⟩ := inv_zip h
    exact i_zip C.gd.o (C.sc.gl _ h1) (C.bl _ (by decide)) (okE a C h2).pe (okE b C h3).pe (star_of h4 _ _) (star_of h5 _ _) (by rw [star_one h5]; rfl)
  | .rng a, X, xk, Wx, sc, p, tg, C, h => by
    obtain ⟨y, p2, pos, rfl, h1, h2, h3⟩ := inv_rng h
    exact i_rng (C.sc.gl _ h1) (C.bl _ (by decide)) (okE a C h2).pe (star_one h3 _) (star_of h3 _ _)
  | .rng2 a b, X, xk, Wx, sc, p, tg, C, h => by
    obtain ⟨y, z, p2, pos, rfl, h1, h2, h3, h4, h5⟩ := inv_rng2 h
    exact i_rng2 (C.sc.gl _ h1) (C.bl _ (by decide)) (okE a C h2).pe (okE b C h3).pe (star_two h4 h5 _) (star_one h5 _) (star_of h4 _ _) (star_of h5 _ _)
end
end
end Q
end
section
set_option autoImplicit false
set_option maxHeartbeats 4000000
/-! # The Q layer, part 16: statements that match -/
namespace Q
open PySem PySem.Spec PyProof.Rows L2

/-! ### which order the stores of several names have -/
def swN (sc : Scope) (ts : List Expr) : List Str :=
  ts.filterMap fun e => match e with
    | .Name id pos => if sc.names.lookup id == some .local && pos.line == (ts.head?.map (·.pos.line)).getD 0 then some id else none
    | _ => none
def swB (sc : Scope) (ts vs : List Expr) : Bool :=
  (ts.length == 2 || ts.length == 3) && vs.length == ts.length && (swN sc ts).length == ts.length && (swN sc ts).eraseDups.length == (swN sc ts).length && !vs.all (foldedForSure 8)
def starB (vs : List Expr) : Bool := vs.any fun e => match e with
  | .Starred _ _ => true
  | _ => false
theorem no_star {vs : List Expr} (h : vs.all plainB = true) : starB vs = false := by
  unfold starB
  rw [List.any_eq_false]
  intro e he
  have := List.all_eq_true.mp h e he
  cases e <;> first | (cases this; done) | (intro z; cases z)
theorem sw_unf {env : PySem.Env} {ts vs : List Expr} {k k2 : Nat} {p p2 : Pos} : swappedStores [.Tuple ts k p] (.Tuple vs k2 p2) env =
    (if (!(ts.length == 2 || ts.length == 3) || vs.length != ts.length || env.blockKind != .function) = true then pure none else
      if starB vs = true then pure none else
        if ((swN env.scope ts).length != ts.length || (swN env.scope ts).eraseDups.length != (swN env.scope ts).length) = true then pure none else
          if vs.all (foldedForSure 8) = true then pure none else
            if vs.all (constantsAlone 8) = true then (do unsupported "assign.tuple-of-constant-expressions:order-of-the-stores"; pure (some (swN env.scope ts))) else pure (some (swN env.scope ts))) := rfl
theorem sw_no {env : PySem.Env} {ts vs : List Expr} {k k2 : Nat} {p p2 : Pos} (hb : env.blockKind = .function) (hv : vs.all plainB = true) (h : swB env.scope ts vs = false) : swappedStores [.Tuple ts k p] (.Tuple vs k2 p2) env = pure none := by
  rw [sw_unf, no_star hv]
  have e0 : (env.blockKind != .function) = false := by rw [hb]; rfl
  unfold swB at h
  rw [e0]
  unfold bne
  split
  · rfl
  · rename_i h1
    rw [if_neg (by simp)]
    split
    · rfl
    · rename_i h3
      split
      · rfl
      · rename_i h4
        exfalso
        revert h h1 h3 h4
        cases (ts.length == 2 || ts.length == 3) <;> cases vs.length == ts.length <;> cases (swN env.scope ts).length == ts.length <;> cases (swN env.scope ts).eraseDups.length == (swN env.scope ts).length <;> cases vs.all (foldedForSure 8) <;> simp
theorem sw_yes {env : PySem.Env} {ts vs : List Expr} {k k2 : Nat} {p p2 : Pos} (hb : env.blockKind = .function) (hv : vs.all plainB = true) (h : swB env.scope ts vs = true) (hc : vs.all (constantsAlone 8) = false) : swappedStores [.Tuple ts k p] (.Tuple vs k2 p2) env = pure (some (swN env.scope ts)) := by
  rw [sw_unf, no_star hv]
  have e0 : (env.blockKind != .function) = false := by rw [hb]; rfl
  unfold swB at h
  simp only [Bool.and_eq_true] at h
  obtain ⟨⟨⟨⟨h1, h2⟩, h3⟩, h4⟩, h5⟩ := h
  have h5' : vs.all (foldedForSure 8) = false := by simpa using h5
  unfold bne at e0 ⊢
  rw [e0, h1, h2, h3, h4, h5', hc]
  rfl
/-- no comprehension -/
def noComp : Expr → Bool
  | .ListComp _ _ _ _ => false
  | .SetComp _ _ _ _ => false
  | .DictComp _ _ _ _ _ => false
  | _ => true
theorem noComp_sw {e : Expr} (h : noComp e = true) (t : Option Expr) (l : Nat) (env : PySem.Env) : swapsWith e t l env = pure false := by
  cases e <;> first | rfl | (cases h; done)
def noTup : Expr → Bool
  | .Tuple _ _ _ => false
  | _ => true
def isLcE : E → Bool
  | .lc _ _ _ _ _ => true
  | _ => false
/-- name += e -/
theorem s_aug {X : Cx} {K : KP} {n : Nat} {xk : XKQ} {i : Nat} {x : Str} {e : Expr} {p pos : Pos} {re : Env → Cells → Res W} (hN : X.N.Nodup) (hi : X.N[i]? = some x) (hx : Loc X.env.scope x) (he : PE X e (dE K n xk re)) (hf : X.fn x = true ∨ X.env.scope.names.lookup x = some .local) :
    PS X (.AugAssign (.Name x p) .Add e pos) (dS K n xk fun ρ c => match ρ[i]? with
    | some (some (.v (.int x))) => (re ρ c).bind fun w c => match w with
      | .v (.int y) => .ok (.nxt (ρ.set i (some (.v (.int (x + y)))))) c
      | _ => .bad
    | _ => .bad) :=
  (ps_aug hN hi hx he ip_add hf).imp fun D σ H ⟨ρ, α, c, m, h⟩ => by
    dsimp only at h
    split at h
    · rename_i z ez
      obtain ⟨v, h1, h2⟩ := m.loc i _ ez
      cases Den.int_inv h2
      refine ⟨_, h1, dE.bind m h fun v w α1 c1 H1 m1 s1 d1 h1 => ?_⟩
      split at h1
      · cases Den.int_inv d1
        exact ⟨_, _, rfl, rfl, Out.here m1.cel h1 _ (m1.set (w := .v (.int _)) (.int _))⟩
      · exact h1.elim
    · exact h.elim

section
variable (M : Nm) (N : List Str)
def mAll (sc : Scope) (is : List Nat) (ts : List Expr) : Bool := match is, ts with
  | [i, j], [.Name x _, .Name y _] => decide (N[i]? = some x) && decide (N[j]? = some y) && decide (i ≠ j) && decide (sc.names.lookup x = some .local) && decide (sc.names.lookup y = some .local) && decide (swN sc ts = [x, y])
  | [i, j, l], [.Name x _, .Name y _, .Name z _] => decide (N[i]? = some x) && decide (N[j]? = some y) && decide (N[l]? = some z) && decide (i ≠ j) && decide (i ≠ l) && decide (j ≠ l) &&
      decide (sc.names.lookup x = some .local) && decide (sc.names.lookup y = some .local) && decide (sc.names.lookup z = some .local) && decide (swN sc ts = [x, y, z])
  | _, _ => false
mutual
def mS : S → Scope → Stmt → Bool
  | .set (.name i) e, sc, .Assign [.Name x p] v _ => mE M N e sc v && mName N sc i x && (noComp v || isLcE e)
  | .set (.names is) e, sc, .Assign [.Tuple ts _ _] v _ => mE M N e sc v && mNames N sc is ts && decide (2 ≤ is.length) && noTup v && noComp v
  | .set (.item a i) e, sc, .Assign [.Subscript x y _] v _ => mE M N e sc v && mE M N a sc x && mE M N i sc y && plainB y && noComp v
  | .par true is es, sc, .Assign [.Tuple ts _ _] (.Tuple vs _ _) _ => mEs M N es sc vs && vs.all plainB && mAll N sc is ts && swB sc ts vs && !vs.all (constantsAlone 8)
  | .par false is es, sc, .Assign [.Tuple ts _ _] (.Tuple vs _ _) _ => mEs M N es sc vs && vs.all plainB && mNames N sc is ts && decide (2 ≤ is.length) && decide (is.length ≤ 8) && !swB sc ts vs
  | .aug i e, sc, .AugAssign (.Name x _) .Add v _ => mE M N e sc v && mName N sc i x
  | .ife c a b, sc, .If t x y _ => mE M N c sc t && tstB c && mSs a sc x && mSs b sc y
  | .for is it b, sc, .For tg iter body [] _ => mTg N sc is tg && mIt M N it sc iter tg && plainB iter && mSs b sc body
  | .whl c b, sc, .While t body [] _ => mE M N c sc t && tstB c && mSs b sc body
  | .ret e, sc, .Return (some v) _ => mE M N e sc v
  | .rse e, sc, .Raise (some (.Call (.Name x _) [.Constant (.str _) _ _] [] _)) none _ => x == M.xname e && M.xdom e && glB sc x && dbB x
  | .exp e, sc, .Expr v _ => mE M N e sc v && noComp v
  | .pass, _, .Pass _ => true
  | .try b hs, sc, .Try body (h :: hds) [] [] _ => mSs b sc body && mHs hs sc (h :: hds)
  | _, _, _ => false
def mSs : Ss → Scope → List Stmt → Bool
  | .nil, _, [] => true
  | .cons s r, sc, x :: xs => mS s sc x && mSs r sc xs
  | _, _, _ => false
def mHs : Hs → Scope → List ExceptHandler → Bool
  | .nil, _, [] => true
  | .cons y d r, sc, .ExceptHandler (some (.Name x _)) none [.Return (some (.Constant k _ _)) _] _ :: hds => x == M.xname y && M.xdom y && glB sc x && dbB x && mCon d k && mHs r sc hds
  | _, _, _ => false
end
end
end Q
end
section
set_option autoImplicit false
set_option maxHeartbeats 4000000
/-! # The Q layer, part 17: a statement that matches is sound -/
namespace Q
open PySem PySem.Spec PyProof.Rows L2

/-- a context in a def's body -/
structure SCtx (X : Cx) (K : KP) (M : Nm) (XA : Exc → Addr) (G : Nat → Option D) (lvl : Nat) (callf : Nat → List W → Cells → Res W) (N : List Str) (xk : XKQ) (Wx : WX) (sub : Exc → Exc → Bool) (sc : Scope) : Prop where
  c : Ctx X K M XA G lvl callf N xk Wx sc
  sc : X.env.scope = sc
  bk : X.env.blockKind = .function
  po : PassesOwn (model X.prog X.w) X.A X.env X.xe
  st : X.stack = X.env :: X.outer
  fr : X.env.frame = some X.env.locals
  ex : ∀ x, M.xdom x = true → ExcOk X.K X.mg (M.xname x) (XA x)
  sub : ∀ z y, M.xdom y = true → PySem.W.exmOne X.K (.ref (XA z)) (.ref (XA y)) = some (sub z y)
section
variable {K : KP} {M : Nm} {XA : Exc → Addr} {G : Nat → Option D} {lvl : Nat} {callf : Nat → List W → Cells → Res W} {N : List Str} {sub : Exc → Exc → Bool} {wf : Nat}
theorem SCtx.tr {X : Cx} {xk xk' : XKQ} {Wx W : WX} {sc : Scope} (S : SCtx X K M XA G lvl callf N xk Wx sub sc) {pn : List (Addr × Obj)} {xe : Value → Shared → Prop} (t : Tk (X.tr pn xe) XA xk' W) (po : PassesOwn (model X.prog X.w) X.A X.env xe) :
    SCtx (X.tr pn xe) K M XA G lvl callf N xk' W sub sc :=
  ⟨⟨⟨⟨S.c.gd.o.hK, S.c.gd.o.hP, S.c.gd.o.u, S.c.gd.o.calm⟩, S.c.gd.room, S.c.gd.cal, S.c.gd.glo, S.c.gd.blt⟩, S.c.hN, S.c.nd, t, ⟨S.c.sc.vis, S.c.sc.cf, S.c.sc.gl, S.c.sc.loc⟩⟩, S.sc, S.bk, po, S.st, S.fr, S.ex, S.sub⟩
/-- name = [..] -/
theorem okSetLc {X : Cx} {xk : XKQ} {Wx : WX} {sc : Scope} (C : Ctx X K M XA G lvl callf N xk Wx sc) (hs : X.env.scope = sc) {i : Nat} {x : Str} {p pos : Pos} {v : Expr} {m : Bool} {elt : E} {ts : List Nat} {it : Iw} {t : Eo} (hn : mName N sc i x = true) (h : mE M N (.lc m elt ts it t) sc v = true) :
    PS X (.Assign [.Name x p] v pos) (dS K N.length xk fun ρ c => (evE G callf (.lc m elt ts it t) ρ c).bind fun w c => if i < ρ.length then .ok (.nxt (ρ.set i (some w))) c else .bad) := by
  obtain ⟨n1, n2, n3⟩ := name_of C hn
  have hv := okE (.lc m elt ts it t) C h
  obtain ⟨y, tg, iter, ifs, scope, q, rfl, h1, h2, h3, h4, h5, h6⟩ := inv_lc h
  have e : swapsWith (.ListComp y [⟨tg, iter, ifs, 0⟩] scope q) (some (.Name x p)) pos.line X.env = pure (X.env.blockKind == .function && X.env.kindOf x == some .local && p.line == q.line && !(scope.names.any fun (n, k) => n == x && (k == .local || k == .cell))) := rfl
  cases z : (X.env.blockKind == .function && X.env.kindOf x == some .local && p.line == q.line && !(scope.names.any fun (n, k) => n == x && (k == .local || k == .cell))) with
  | false =>
    rw [z] at e
    exact s_set C.ndX n1 n2 hv.pe e n3
  | true =>
    rw [z] at e
    simp only [Bool.and_eq_true] at z
    have k1 : X.env.scope.names.lookup x = some .local := eq_of_beq z.1.1.2
    exact (s_setLc (py := p) C.gd.o.calm C.ndX (okIt it C h3) (blk_of C h1) (own_map ts)
      (fun s H B cl fp => tg_pg (Ctx.blk C s H B cl fp).ndX (Ctx.blk C (scope := scope) s H B cl fp).gd.o.calm C.gd.o.hK (tg_of (Ctx.blk C s H B cl fp) h2))
      (fun s H B cl fp => okEoT t (Ctx.blk C s H B cl fp) h4) (fun s H B cl fp => (okE elt (Ctx.blk C s H B cl fp) h5).pe) (folded_of h6 _) n1 k1 e).imp fun D σ H h => set_red (fun _ _ _ q => q) D σ H h
theorem noTup_sw {e : Expr} (h : noTup e = true) {ts : List Expr} {k : Nat} {p : Pos} {env : PySem.Env} : swappedStores [.Tuple ts k p] e env = pure none := by
  cases e <;> first | rfl | (cases h; done)
theorem plain_set {a b : Expr} {p : Pos} (h : plainB b = true) (env : PySem.Env) (v : Value) : assign (.Subscript a b p) env v = (do
      let ov ← holding [v] (eval a env)
      let iv ← holding [v, ov] (eval b env)
      standAt p
      holding [v, ov, iv] (setItem ov iv v)
      release [v, ov, iv] []) := by
  cases b <;> first | rfl | (cases h; done)
theorem noComp_sole {e : Expr} (h : noComp e = true) (t : Expr) (l : Nat) (env : PySem.Env) : swapsWithSole [t] e l env = pure false := noComp_sw h (some t) l env
theorem swB_len {sc : Scope} {ts vs : List Expr} (h : swB sc ts vs = true) : vs.length = ts.length := by
  unfold swB at h
  simp only [Bool.and_eq_true] at h
  exact eq_of_beq h.1.1.1.2
theorem mCon_any {d : D} {k : Const} {j : Nat} {pos : Pos} (h : mCon d k = true) : ∃ v, (∀ X : Cx, PE X (.Constant k j pos) (tC v)) ∧ ∀ K H L, Den K H L v d := by
  unfold mCon at h
  split at h
  · exact ⟨_, fun _ => pe_non, fun _ _ _ => .non⟩
  · cases eq_of_beq h; exact ⟨_, fun _ => pe_bl, fun _ _ _ => .bl _⟩
  · cases eq_of_beq h; exact ⟨_, fun _ => pe_int, fun _ _ _ => .int _⟩
  · cases eq_of_beq h; exact ⟨_, fun _ => pe_str, fun _ _ _ => .str _⟩
  · cases h
theorem okHs {X : Cx} {xk : XKQ} {Wx : WX} {sc : Scope} (S : SCtx X K M XA G lvl callf N xk Wx sub sc) : ∀ (hs : Hs) {hds : List ExceptHandler}, mHs M N hs sc hds = true → HsOf X XA sub hds hs
  | .nil, [], _ => .nil
  | .nil, _ :: _, h => by unfold mHs at h; cases h
  | .cons y d r, hds, h => by
    unfold mHs at h
    split at h <;> first | (cases h; done) | (rename_i q; cases q)
    simp only [Bool.and_eq_true] at h
    obtain ⟨⟨⟨⟨⟨h1, h2⟩, h3⟩, h4⟩, h5⟩, h6⟩ := h
    obtain rfl := eqS h1
    obtain ⟨v, q1, q2⟩ := mCon_any h5
    exact .cons ⟨S.c.sc.gl _ h3, dbB_eq h4, .inl (S.ex y h2).g⟩ q1 q2 (fun z => S.sub z y h2) (okHs S r h6)
mutual
theorem okS : ∀ (s : S) {X : Cx} {xk : XKQ} {Wx : WX} {sc : Scope} {x : Stmt}, SCtx X K M XA G lvl callf N xk Wx sub sc → mS M N s sc x = true → PS X x (dS K N.length xk (evS G callf sub wf s))
  | .set (.name i) e, X, xk, Wx, sc, x, S, h => by
    unfold mS at h
    split at h <;> first | (cases h; done) | (rename_i q; cases q)
    simp only [Bool.and_eq_true, Bool.or_eq_true] at h
    obtain ⟨⟨h1, h2⟩, h3⟩ := h
    rcases h3 with h3 | h3
    · obtain ⟨n1, n2, n3⟩ := name_of S.c h2
      exact s_set S.c.ndX n1 n2 (okE e S.c h1).pe (noComp_sw h3 _ _ _) n3
    · cases e with
      | lc m elt ts it t => exact okSetLc S.c S.sc h2 h1
      | _ => cases h3
  | .set (.names is) e, X, xk, Wx, sc, x, S, h => by
    unfold mS at h
    split at h <;> first | (cases h; done) | (rename_i q; cases q)
    simp only [Bool.and_eq_true, decide_eq_true_eq] at h
    obtain ⟨⟨⟨⟨h1, h2⟩, h3⟩, h4⟩, h5⟩ := h
    exact s_names S.c.ndX S.c.gd.o.calm S.c.gd.o.hK (.many (names_of S.c h2).1 h3) (okE e S.c h1).pe (noComp_sole h5 _ _ _) (noTup_sw h4)
  | .set (.item a i) e, X, xk, Wx, sc, x, S, h => by
    unfold mS at h
    split at h <;> first | (cases h; done) | (rename_i q; cases q)
    simp only [Bool.and_eq_true] at h
    obtain ⟨⟨⟨⟨h1, h2⟩, h3⟩, h4⟩, h5⟩ := h
    exact s_item S.c.gd.o.hK (okE e S.c h1).pe (okE a S.c h2).pe (okE i S.c h3).pe (noComp_sole h5 _ _ _) rfl (plain_set h4 _)
  | .par true is es, X, xk, Wx, sc, x, S, h => by
    unfold mS at h
    split at h <;> first | (cases h; done) | (rename_i q; cases q)
    rename_i vs _ _ _
    simp only [Bool.and_eq_true, Bool.not_eq_true'] at h
    obtain ⟨⟨⟨⟨h1, h2⟩, h3⟩, h4⟩, h5⟩ := h
    have ha := okEs es S.c h1
    rw [← S.sc] at h3 h4
    have hw := fun k p k2 p2 => sw_yes (k := k) (p := p) (k2 := k2) (p2 := p2) S.bk h2 h4 h5
    have l2 := swB_len h4
    unfold mAll at h3
    split at h3
    · simp only [Bool.and_eq_true, decide_eq_true_eq] at h3
      obtain ⟨⟨⟨⟨⟨q1, q2⟩, q3⟩, q4⟩, q5⟩, q6⟩ := h3
      rw [q6] at hw
      match vs, l2, ha, hw with
      | [a, b], _, ha, hw => exact s_par2 S.c.gd.o.calm S.c.ndX (by rw [S.c.hN]; exact q1) (by rw [S.c.hN]; exact q2) q3 q4 q5 ha (hw _ _ _ _)
      | [], l2, _, _ => simp at l2
      | [_], l2, _, _ => simp at l2
      | _ :: _ :: _ :: _, l2, _, _ => simp at l2
    · simp only [Bool.and_eq_true, decide_eq_true_eq] at h3
      obtain ⟨⟨⟨⟨⟨⟨⟨⟨⟨q1, q2⟩, q3⟩, q4⟩, q5⟩, q6⟩, q7⟩, q8⟩, q9⟩, q10⟩ := h3
      rw [q10] at hw
      match vs, l2, ha, hw with
      | [a, b, c], _, ha, hw => exact s_par3 S.c.gd.o.calm S.c.ndX (by rw [S.c.hN]; exact q1) (by rw [S.c.hN]; exact q2) (by rw [S.c.hN]; exact q3) q4 q5 q6 q7 q8 q9 ha (hw _ _ _ _)
      | [], l2, _, _ => simp at l2
      | [_], l2, _, _ => simp at l2
      | [_, _], l2, _, _ => simp at l2
      | _ :: _ :: _ :: _ :: _, l2, _, _ => simp at l2
    · cases h3
  | .par false is es, X, xk, Wx, sc, x, S, h => by
    unfold mS at h
    split at h <;> first | (cases h; done) | (rename_i q; cases q)
    simp only [Bool.and_eq_true, decide_eq_true_eq, Bool.not_eq_true'] at h
    obtain ⟨⟨⟨⟨⟨h1, h2⟩, h3⟩, h4⟩, h5⟩, h6⟩ := h
    rw [← S.sc] at h6
    exact s_parT S.c.ndX S.c.gd.o.calm S.c.gd.o.hK (.many (names_of S.c h3).1 h4) h5 (okEs es S.c h1) (sw_no S.bk h2 h6)
  | .aug i e, X, xk, Wx, sc, x, S, h => by
    unfold mS at h
    split at h <;> first | (cases h; done) | (rename_i q; cases q)
    simp only [Bool.and_eq_true] at h
    obtain ⟨n1, n2, n3⟩ := name_of S.c h.2
    exact s_aug S.c.ndX n1 n2 (okE e S.c h.1).pe n3
  | .ife c a b, X, xk, Wx, sc, x, S, h => by
    unfold mS at h
    split at h <;> first | (cases h; done) | (rename_i q; cases q)
    simp only [Bool.and_eq_true] at h
    obtain ⟨⟨⟨h1, h2⟩, h3⟩, h4⟩ := h
    exact s_ife ((okE c S.c h1).pt h2) (okSs a S h3) (okSs b S h4)
  | .for is it b, X, xk, Wx, sc, x, S, h => by
    unfold mS at h
    split at h <;> first | (cases h; done) | (rename_i q; cases q)
    simp only [Bool.and_eq_true] at h
    obtain ⟨⟨⟨h1, h2⟩, h3⟩, h4⟩ := h
    exact s_for S.po S.c.gd.o.calm S.c.ndX S.c.gd.o.hK (okIt it S.c h2) (tg_of S.c h1) (okSs b S h4) (folded_of h3 _)
  | .whl c b, X, xk, Wx, sc, x, S, h => by
    unfold mS at h
    split at h <;> first | (cases h; done) | (rename_i q; cases q)
    simp only [Bool.and_eq_true] at h
    obtain ⟨⟨h1, h2⟩, h3⟩ := h
    exact s_whl S.po ((okE c S.c h1).pt h2) (okSs b S h3)
  | .ret e, X, xk, Wx, sc, x, S, h => by
    unfold mS at h
    split at h <;> first | (cases h; done) | (rename_i q; cases q)
    exact s_ret (okE e S.c h).pe
  | .rse e, X, xk, Wx, sc, x, S, h => by
    unfold mS at h
    split at h <;> first | (cases h; done) | (rename_i q; cases q)
    simp only [Bool.and_eq_true] at h
    obtain ⟨⟨⟨h1, h2⟩, h3⟩, h4⟩ := h
    obtain rfl := eqS h1
    exact s_rse S.c.tk S.c.lnX S.c.gd.o.calm (S.ex e h2) (S.c.sc.gl _ h3) (dbB_eq h4)
  | .exp e, X, xk, Wx, sc, x, S, h => by
    unfold mS at h
    split at h <;> first | (cases h; done) | (rename_i q; cases q)
    rw [Bool.and_eq_true] at h
    exact s_exp (okE e S.c h.1).pe (noComp_sw h.2 _ _ _)
  | .pass, X, xk, Wx, sc, x, S, h => by
    unfold mS at h
    split at h <;> first | (cases h; done) | (rename_i q; cases q)
    exact s_pass
  | .try b hs, X, xk, Wx, sc, x, S, h => by
    unfold mS at h
    split at h <;> first | (cases h; done) | (rename_i q; cases q)
    rw [Bool.and_eq_true] at h
    exact s_try S.c.tk S.c.lnX S.st S.fr (okHs S hs h.2) fun W xk' pn xe tk po => okSs b (S.tr tk po) h.1
theorem okSs : ∀ (s : Ss) {X : Cx} {xk : XKQ} {Wx : WX} {sc : Scope} {xs : List Stmt}, SCtx X K M XA G lvl callf N xk Wx sub sc → mSs M N s sc xs = true → PSs X xs (dS K N.length xk (evSs G callf sub wf s))
  | .nil, X, xk, Wx, sc, [], S, h => s_nil
  | .nil, X, xk, Wx, sc, _ :: _, S, h => by unfold mSs at h; cases h
  | .cons s r, X, xk, Wx, sc, [], S, h => by unfold mSs at h; cases h
  | .cons s r, X, xk, Wx, sc, x :: xs, S, h => by
    unfold mSs at h
    rw [Bool.and_eq_true] at h
    exact s_cons (okS s S h.1) (okSs r S h.2)
end
end
end Q
end
section
set_option autoImplicit false
set_option maxHeartbeats 4000000
/-! # The Q layer, part 18: defs -/
namespace Q
open PySem PySem.Spec PyProof.Rows L2

section
variable {K : KP} {H H' : Hp} {α α' : AL} {c c' : Cells}
theorem hid_sub {l : List Addr} {e : Cells} (hl : ∀ (n : Nat) (ds : List D) (a : Addr), e[n]? = some (some ds) → l[n]? = some a → Live α' c' a) : Frs (Hid α' c') (Hid ⟨l, α'.z⟩ e) H' := fun a z => by
  rcases z with ⟨n, ds, h1, h2⟩ | z
  · exact .inl (.inl (hl n ds a h1 h2))
  · exact .inl (.inr z)
/-- the cells made meanwhile are gone, but those that are given in more -/
theorem Stp.cutG (x : Cel K α c H) (s : Stp K α c H α' c' H') {l : List Addr} {e : Cells} (hlen : l.length = e.length) (hnd : l.Nodup) (hpre : α.l <+: l) (hsub : ∀ a ∈ l, a ∈ α'.l)
    (hl : ∀ (n : Nat) (ds : List D) (a : Addr), e[n]? = some (some ds) → l[n]? = some a → ∃ (m : Nat), c'[m]? = some (some ds) ∧ α'.l[m]? = some a) :
    Stp K α c H ⟨l, α'.z⟩ e H' ∧ Frs (Hid α' c') (Hid ⟨l, α'.z⟩ e) H' := by
  have lv : ∀ (n : Nat) (ds : List D) (a : Addr), e[n]? = some (some ds) → l[n]? = some a → Live α' c' a := fun n ds a h1 h2 => by
    obtain ⟨m, q1, q2⟩ := hl n ds a h1 h2
    exact ⟨m, ds, q1, q2⟩
  have f : Frm (Hid α' c') H' H' := fun _ _ _ q => q
  have g := hid_sub (H' := H') lv
  refine ⟨⟨⟨hlen, hnd, fun n a q => ?_, fun a q => ⟨(s.cel.zok a q).1, fun z => (s.cel.zok a q).2 (hsub a z)⟩, fun n ds q => ?_⟩, hpre, s.zeq, s.frm, fun a q => ?_⟩, g⟩
  · obtain ⟨m, hm⟩ := List.getElem?_of_mem (hsub a (List.mem_of_getElem? q))
    exact s.cel.trk m a hm
  · have hn : n < l.length := by rw [hlen]; exact (List.getElem?_eq_some_iff.mp q).1
    obtain ⟨m, q1, q2⟩ := hl n ds l[n] q (List.getElem?_eq_getElem hn)
    obtain ⟨xs, h1, h2, h3⟩ := s.cel.get q1 q2
    exact ⟨l[n], xs, List.getElem?_eq_getElem hn, h1, h2.step f g, h3⟩
  · obtain ⟨n, ds, h1, h2⟩ := q
    exact s.frs a (lv n ds a h1 h2)
theorem Stp.cut (x : Cel K α c H) (s : Stp K α c H α' c' H') : Stp K α c H ⟨α'.l.take c.length, α'.z⟩ (c'.take c.length) H' ∧ Frs (Hid α' c') (Hid ⟨α'.l.take c.length, α'.z⟩ (c'.take c.length)) H' := by
  refine Stp.cutG x s (by rw [List.length_take, List.length_take, s.cel.len]) (s.cel.nod.sublist (List.take_sublist _ _)) ?_ (fun a h => List.mem_of_mem_take h) fun n ds a h1 h2 => ?_
  · obtain ⟨t, e⟩ := s.ext
    rw [← e, ← x.len, List.take_left]
    exact List.prefix_refl _
  · have hn : n < c.length := by
      have := (List.getElem?_eq_some_iff.mp h1).1
      rw [List.length_take] at this; omega
    rw [List.getElem?_take_of_lt hn] at h1 h2
    exact ⟨n, h1, h2⟩
theorem Stp.cutC (x : Cel K α c H) (s : Stp K α c H α' c' H') {m : Nat} {ds : List D} {p : Addr} (hm : ¬ m < c.length) (h1 : c'[m]? = some (some ds)) (h2 : α'.l[m]? = some p) :
    Stp K α c H ⟨α'.l.take c.length ++ [p], α'.z⟩ (c'.take c.length ++ [some ds]) H' := by
  have lt : (α'.l.take c.length).length = c.length := by
    rw [List.length_take]
    have := s.len x
    have := s.cel.len
    omega
  have lt2 : (c'.take c.length).length = c.length := by
    rw [List.length_take]
    have := s.len x
    omega
  refine (Stp.cutG x s (by rw [List.length_append, List.length_append, lt, lt2]; rfl) ?_ ?_ ?_ fun n es a q1 q2 => ?_).1
  · rw [List.nodup_append]
    refine ⟨s.cel.nod.sublist (List.take_sublist _ _), by simp, fun a ha b hb e => ?_⟩
    simp at hb
    subst hb; subst e
    obtain ⟨i, hi⟩ := List.getElem?_of_mem ha
    have hi2 : i < c.length := by
      have := (List.getElem?_eq_some_iff.mp hi).1
      rw [lt] at this; exact this
    rw [List.getElem?_take_of_lt hi2] at hi
    have n1 := (List.getElem?_eq_some_iff.mp hi).1
    have n2 := (List.getElem?_eq_some_iff.mp h2).1
    have e1 := (List.getElem?_eq_some_iff.mp hi).2
    have e2 := (List.getElem?_eq_some_iff.mp h2).2
    have := (List.getElem_inj s.cel.nod (h₀ := n1) (h₁ := n2)).mp (e1.trans e2.symm)
    omega
  · obtain ⟨t, e⟩ := s.ext
    rw [← e, ← x.len, List.take_left]
    exact List.prefix_append _ _
  · intro a ha
    rw [List.mem_append] at ha
    rcases ha with ha | ha
    · exact List.mem_of_mem_take ha
    · simp at ha
      subst ha
      exact List.mem_of_getElem? h2
  · by_cases hn : n < c.length
    · rw [List.getElem?_append_left (by omega), List.getElem?_take_of_lt hn] at q1 q2
      exact ⟨n, q1, q2⟩
    · rw [List.getElem?_append_right (by omega), lt2] at q1
      rw [List.getElem?_append_right (by omega), lt] at q2
      have hn0 : n - c.length = 0 := by
        have := (List.getElem?_eq_some_iff.mp q1).1
        simp at this; omega
      rw [hn0] at q1 q2
      simp at q1 q2
      subst q1; subst q2
      exact ⟨m, h1, h2⟩
/-- the end of a call -/
theorem fin_ok {r : Res Fl} {n : Nat} {Q : VK} {k : Exc → Hp → Prop} (x : Cel K α c H) (h : Out K (finish c.length r) α c H (fun w α' c' H' => ∀ v, DenW K H' α' c' v w → Q v H') (fun e _ _ H' => k e H')) :
    Out K r α c H (FlEnd K n { nx := fun _ H' => Q .non H', rt := Q }) (fun e _ _ H' => k e H') := by
  cases r with
  | bad => exact h
  | exc e c' => exact fun α' H' s => h _ _ (Stp.cut x s).1
  | ok k c' =>
    cases k with
    | nxt ρ => exact fun α' H' s σ _ => h _ _ (Stp.cut x s).1 _ .non
    | ret w =>
      cases w with
      | v d =>
        exact fun α' H' s v hv => h _ _ (Stp.cut x s).1 v (Den.step (fun _ _ _ q => q) (Stp.cut x s).2 hv)
      | c m =>
        intro α' H' s v hv
        obtain ⟨p, h2, rfl⟩ := hv
        have h' : Out K (if m < c.length then .ok (.c m) (c'.take c.length) else match c'[m]? with
          | some (some ds) => .ok (.c c.length) (c'.take c.length ++ [some ds])
          | _ => .bad : Res W) α c H (fun w α' c' H' => ∀ v, DenW K H' α' c' v w → Q v H') (fun e _ _ H' => k e H') := h
        by_cases hm : m < c.length
        · rw [if_pos hm] at h'
          exact h' _ _ (Stp.cut x s).1 _ ⟨p, by show (α'.l.take c.length)[m]? = some p; rw [List.getElem?_take_of_lt hm]; exact h2, rfl⟩
        · rw [if_neg hm] at h'
          split at h'
          · rename_i ds e
            refine h' _ _ (Stp.cutC x s hm e h2) _ ⟨p, ?_, rfl⟩
            have lt : (α'.l.take c.length).length = c.length := by
              rw [List.length_take]
              have := s.len x
              have := s.cel.len
              omega
            show (α'.l.take c.length ++ [p])[c.length]? = some p
            rw [List.getElem?_append_right (by omega), lt]
            simp
          · exact h'.elim
/-- the names at a call's start -/
theorem start_ok (x : Cel K α c H) {N : List Str} {vs : List V} {ws : List W} (d : DenWs K H α c vs ws) (hl : ws.length ≤ N.length) : Sm K N.length (L2.start N vs) (startE N.length ws) α c H := by
  have lv := d.length
  refine ⟨x, ?_, ?_, fun i w e => ?_⟩
  · unfold L2.start startE
    simp only [List.length_append, List.length_map, List.length_replicate]
    omega
  · unfold L2.start
    simp only [List.length_append, List.length_map, List.length_replicate]
    omega
  · unfold startE at e
    unfold L2.start
    by_cases hi : i < ws.length
    · rw [List.getElem?_append_left (by simpa using hi), List.getElem?_map] at e
      have get : ∀ {vs : List V} {ws : List W} {i : Nat} {w : W}, DenWs K H α c vs ws → ws[i]? = some w → ∃ v, vs[i]? = some v ∧ DenW K H α c v w := by
        intro vs ws i w d
        induction d generalizing i with
        | nil => intro e; simp at e
        | cons q t ih =>
          intro e
          cases i with
          | zero => simp at e; subst e; exact ⟨_, rfl, q⟩
          | succ i =>
            obtain ⟨v, h1, h2⟩ := ih (i := i) (by simpa using e)
            exact ⟨v, by simpa using h1, h2⟩
      cases z : ws[i]? with
      | none => rw [z] at e; cases e
      | some w' =>
        rw [z] at e
        cases e
        obtain ⟨v, h1, h2⟩ := get d z
        exact ⟨v, by rw [List.getElem?_append_left (by simp; omega), List.getElem?_map, h1]; rfl, h2⟩
    · rw [List.getElem?_append_right (by simp; omega)] at e
      rw [List.getElem?_replicate] at e
      split at e <;> cases e
end

/-! ### the defs of the text -/
/-- a def of the text and its reading -/
structure DefOk (K : KP) (mg : Str → Option Value) (M : Nm) (f : Nat) (d : Def) (fa : Addr) (fd : FuncData) (st : Stmt) (N ps : List Str) : Prop where
  fn : C8.Fun K.K (M.fname f) (M.fname f) st fa fd
  mgf : mg (M.fname f) = some (.ref fa)
  kp : PySem.W.keepIn K.K (.ref fa) = true
  bd : Binds K.K fd ps []
  sc : FnScope N ps (C8.fnScope st)
  sl : d.slots = N.length
  pr : d.par = ps.length
  ok : mSs M N d.body (C8.fnScope st) (C8.fnBody st) = true
/-- what is known of the text -/
structure Text (P : Program) (w : World) (K : KP) (mg : Str → Option Value) (M : Nm) (XA : Exc → Addr) (Γ : Tab) : Prop where
  hP : w.params = K.P
  dfs : ∀ f, M.dom f = true → ∃ d fa fd st N ps, Γ.defs f = some d ∧ DefOk K mg M f d fa fd st N ps
  glo : ∀ g, M.gdom g = true → ∃ v u, mg (M.gname g) = some u ∧ RelV v u ∧ ∀ d, Γ.glob g = some d → ∀ H L, Den K H L v d
  blt : ∀ x ∈ bltNames, mg x = none
  ex : ∀ x, M.xdom x = true → ExcOk K.K mg (M.xname x) (XA x)
  sub : ∀ z y, M.xdom y = true → PySem.W.exmOne K.K (.ref (XA z)) (.ref (XA y)) = some (Γ.sub z y)
theorem sc_self {X : Cx} (h : X.fn = fun _ => true) : ScOk X X.env.scope := by
  refine ⟨fun x h => ?_, fun x h => h, fun x h => glB_eq h, fun x q => ?_⟩
  · unfold visB at h
    split at h
    · rename_i e; exact .inl e
    · rename_i e; exact .inr (.inl e)
    · rename_i e; exact .inr (.inr e)
    · cases h
  · unfold locB at q
    refine ⟨?_, .inl (by rw [h])⟩
    split at q
    · rename_i e; exact .inl e
    · rename_i e; exact .inr e
    · cases q
theorem pre_len {N ps : List Str} {sc : Scope} (S : FnScope N ps sc) : ps.length ≤ N.length := by
  have := congrArg List.length S.pre
  rw [List.length_take] at this; omega
theorem def_at {P : Program} {w : World} {K : KP} {mg : Str → Option Value} {base : Heap} {M : Nm} {XA : Exc → Addr} {Γ : Tab} {wf n f : Nat} (T : Text P w K mg M XA Γ)
    (ih : ∀ f, M.dom f = true → ∃ fa fd ps, mg (M.fname f) = some (.ref fa) ∧ PySem.W.keepIn K.K (.ref fa) = true ∧ Binds K.K fd ps [] ∧ FnOk P w K.K mg base (L2.CX P w) n fa fd ps (spEv K XA (ev Γ wf n f)))
    {d : Def} {fa : Addr} {fd : FuncData} {st : Stmt} {N ps : List Str} (hd : Γ.defs f = some d) (D : DefOk K mg M f d fa fd st N ps) : FnOk P w K.K mg base (L2.CX P w) (n + 1) fa fd ps (spEv K XA (ev Γ wf (n + 1) f)) := by
    have red : ∀ {ws : List W} {α : AL} {c : Cells} {H : Hp} {k x}, Out K (ev Γ wf (n + 1) f ws c) α c H k x → ws.length = ps.length ∧ Out K (finish c.length (evSs Γ.glob (ev Γ wf n) Γ.sub wf d.body (startE d.slots ws) c)) α c H k x := by
      intro ws α c H k x h
      have h' : Out K (match Γ.defs f with
        | some d => if ws.length = d.par then finish c.length (evSs Γ.glob (ev Γ wf n) Γ.sub wf d.body (startE d.slots ws) c) else .bad
        | none => .bad) α c H k x := h
      rw [hd] at h'
      obtain ⟨q1, q2⟩ := Out.iteB h'
      exact ⟨by rw [q1, D.pr], q2⟩
    obtain ⟨oc, od, dV, kV, doc, pm, an, cdv, ct, osl, rfl, lk, hcd⟩ := D.fn.ex
    refine fn_of lk hcd D.sc (fun vs H Q E h => ?_) fun A outer s H vs Q E hr h => ?_
    · obtain ⟨ws, α, c, _, dw, h⟩ := h
      rw [dw.length]
      exact (red h).1
    · obtain ⟨ws, α, c, C, dw, h⟩ := h
      obtain ⟨hl, h2⟩ := red h
      refine ⟨dS K N.length (fun x _ _ H => E (.ref (XA x)) none H) (evSs Γ.glob (ev Γ wf n) Γ.sub wf d.body), okSs (xk := fun x _ _ H => E (.ref (XA x)) none H) (Wx := fun cls d _ H => E cls d H) d.body (lvl := n) (XA := XA) (M := M) (sc := C8.fnScope st) ?_ D.ok, startE d.slots ws, α, c, ?_, fin_ok C h2⟩
      · refine ⟨⟨⟨⟨rfl, T.hP, ?_, rfl⟩, hr, ih, T.glo, T.blt⟩, rfl, D.sc.nd, ⟨takes_of rfl rfl rfl rfl, fun _ _ _ _ _ _ q => q⟩, sc_self rfl⟩, rfl, ?_, passes_of rfl, rfl, rfl, T.ex, T.sub⟩
        · have := hr.un
          show (A.deeper _).units + 100 < cLine
          omega
        · show (if (C8.fnScope st).kind.isAnnotationScope then ScopeKind.function else (C8.fnScope st).kind) = .function
          rw [D.sc.kind]
          rfl
      · rw [D.sl]
        exact start_ok C dw (by rw [hl]; exact pre_len D.sc)
theorem def_ok {P : Program} {w : World} {K : KP} {mg : Str → Option Value} {base : Heap} {M : Nm} {XA : Exc → Addr} {Γ : Tab} {wf : Nat} (T : Text P w K mg M XA Γ) :
    ∀ (n f : Nat), M.dom f = true → ∃ fa fd ps, mg (M.fname f) = some (.ref fa) ∧ PySem.W.keepIn K.K (.ref fa) = true ∧ Binds K.K fd ps [] ∧ FnOk P w K.K mg base (L2.CX P w) n fa fd ps (spEv K XA (ev Γ wf n f))
  | 0, f, hf => by
    obtain ⟨d, fa, fd, st, N, ps, hd, D⟩ := T.dfs f hf
    refine ⟨fa, fd, ps, D.mgf, D.kp, D.bd, ⟨fun vs H Q E h => ?_, fun A outer s H args us vs Q E hr e0 hb hv h => ?_⟩⟩
    · obtain ⟨ws, α, c, _, _, h⟩ := h
      exact h.elim
    · obtain ⟨ws, α, c, _, _, h⟩ := h
      exact h.elim
  | n + 1, f, hf => by
    have ih := def_ok (base := base) (wf := wf) T n
    obtain ⟨d, fa, fd, st, N, ps, hd, D⟩ := T.dfs f hf
    exact ⟨fa, fd, ps, D.mgf, D.kp, D.bd, def_at T ih hd D⟩
end Q
end
section
set_option autoImplicit false
set_option maxHeartbeats 4000000
/-! # The Q layer, part 19: the end of a law -/
namespace Q
open PySem PySem.Spec PyProof.Rows L2

/-- a def's promise, where nothing is raised -/
def spNo (K : KP) (f : List W → Cells → Res W) : Sp := fun vs H Q _ => ∃ ws α c, Cel K α c H ∧ DenWs K H α c vs ws ∧
  Out K (f ws c) α c H (fun w α' c' H' => ∀ v, DenW K H' α' c' v w → Q v H') (fun _ _ _ _ => False)
theorem spNo_ev {K : KP} {XA : Exc → Addr} {f : List W → Cells → Res W} {vs : List V} {H : Hp} {Q : VK} {E : XK} (h : spNo K f vs H Q E) : spEv K XA f vs H Q E := by
  obtain ⟨ws, α, c, C, d, h⟩ := h
  exact ⟨ws, α, c, C, d, h.imp (fun _ _ _ _ _ _ q => q) fun _ _ _ _ _ q => q.elim⟩
def noList (K : PySem.W.Frag) : Bool := K.all fun p => match p.2.cls with
  | .type t => t != "list"
  | _ => true
theorem lookup_mem {K : PySem.W.Frag} {a : Addr} {o : Obj} : K.lookup a = some o → (a, o) ∈ K := by
  induction K with
  | nil => intro h; cases h
  | cons p r ih =>
    obtain ⟨b, u⟩ := p
    intro h
    rw [List.lookup_cons] at h
    split at h
    · rename_i e
      cases h
      rw [eq_of_beq e]
      exact .head _
    · exact .tail _ (ih h)
theorem no_list {K : PySem.W.Frag} (h : noList K = true) {a : Addr} {o : Obj} (e : K.lookup a = some o) (z : o.cls = .type "list") : False := by
  unfold noList at h
  rw [List.all_eq_true] at h
  have := h _ (lookup_mem e)
  dsimp only at this
  rw [z] at this
  simp at this
/-- the law's own promise, from the evaluator's answer -/
theorem law_sp {K : KP} {f : List W → Cells → Res W} {H : Hp} {a : Addr} {ns : List Int} (nl : noList K.K = true) (hf : ∃ c, f [.v (.lst (ns.map .int))] [] = .ok (.v (.bl true)) c) (hS : SqL K.K H a (ns.map V.int)) :
    spNo K f [.ref a] H (fun v _ => v = .bl true) fun _ _ _ => False := by
  have r : Rd H a (.lst (ns.map V.int)) := by
    rcases hS with h | ⟨o, its, n, h1, h2, _⟩
    · exact h
    · exact (no_list nl h1 h2).elim
  have dn : ∀ (L : Addr → Prop) (ns : List Int), Dens K H L (ns.map V.int) (ns.map .int) := by
    intro L ns
    induction ns with
    | nil => exact .nil
    | cons i r ih => exact .cons (.int i) ih
  obtain ⟨c, e⟩ := hf
  refine ⟨[.v (.lst (ns.map .int))], ⟨[], fun _ => False⟩, [], ⟨rfl, List.nodup_nil, fun n a h => by simp at h, fun a h => h.elim, fun n ds h => by simp at h⟩, .cons (.lst (fun z => ?_) r (dn _ ns)) .nil, ?_⟩
  · rcases z with ⟨n, ds, h, _⟩ | z
    · simp at h
    · exact z
  · rw [e]
    exact fun α' H' s v hv => Den.bl_inv hv
theorem cx_false {P : Program} {w : World} {H : Hp} {s : Shared} {e : Value} {s' : Shared} (h : L2.CX P w [] H s (fun _ _ _ => False) e s') : False := by
  obtain ⟨_, _, _, _, _, _, _, _, _, _, _, _, h⟩ := h
  exact h
/-- the goal that k_fill leaves -/
theorem walk {l : PySem.W.OpenLaw} {q : Program} {loose : List Str} {XP : (Str → Option Value) → Heap → Prop} {YP : World → Heap → Prop} {d : DefRec} {K : Params → PySem.W.Frag} {Γ : Tab} {wf k ix : Nat} (hn : l.most = some 63) (hdf : d.params.defaults = []) (hr : Room k callerA)
    (hY : ∀ (w : World) (h : Heap), YP w h → (K w.params).In h) (hN : ∀ P, noList (K P) = true) (hL : ∀ ns : List Int, ns.length ≤ 63 → ∃ c, ev Γ wf k ix [.v (.lst (ns.map .int))] [] = .ok (.v (.bl true)) c)
    (F : ∀ (w : World) (mg : Str → Option Value) (fa : Addr) (h : Heap), (K w.params).In h → h.Ns mainGlobals mg → mg d.name = some (.ref fa) →
      ∃ fd : FuncData, (∀ (s : Shared) (u : Value), BindsTo s fd ⟨[u], []⟩ [("script", u)]) ∧ ∀ base : Heap, (K w.params).In base → base.Ns mainGlobals mg → FnOk l.prog w (K w.params) mg base (L2.CX l.prog w) k fa fd ["script"] (spNo ⟨K w.params, w.params⟩ (ev Γ wf k ix))) :
    PySem.W.WalkO q loose XP YP l.row.toRowW d [] (fun f vs => PySem.call f vs) :=
  L2.walk_of (n := 63) (k := k) (x := "script") (CX := fun w => L2.CX l.prog w) (sp := fun w => spNo ⟨K w.params, w.params⟩ (ev Γ wf k ix)) hn (by decide) hdf hr hY F (fun w H a ns hl _ hS => law_sp (K := ⟨K w.params, w.params⟩) (hN w.params) (hL ns hl) hS) fun _ _ _ _ _ z => cx_false z
/-- a def of the text, from what k_is tells -/
theorem def_mk {K : KP} {mg : Str → Option Value} {h : Heap} (X : K.K.In h) (G : h.Ns mainGlobals mg) {M : Nm} {f : Nat} {d : Def} {fa : Addr} {st : Stmt} {N ps : List Str} {oc kV dc pm cdv ct : Value} {od an : Option Addr} {sl : Array (Option Value)} {x : Str} (hx : M.fname f = x)
    (a : PySem.W.nsIn K.K mainGlobals x = some (some (.ref fa))) (l : K.K.lookup fa = some ⟨oc, od, .func (PySem.W.fnOf x x (C8.fnArgs st) (C8.fnBody st) (C8.fnScope st) .none kV dc pm an cdv ct), sl⟩) (c : PySem.W.codeIn K.K cdv x = true) (k : PySem.W.keepIn K.K (.ref fa) = true)
    (hb : ∀ (kV doc pm : Value) (an : Option Addr) (cdv ct : Value) (us : List Value), us.length = ps.length → bindArgs (PySem.W.fnOf x x (C8.fnArgs st) (C8.fnBody st) (C8.fnScope st) .none kV doc pm an cdv ct) ⟨us, []⟩ = pure (ps.zip us))
    (sc : FnScope N ps (C8.fnScope st)) (sl' : d.slots = N.length) (pr : d.par = ps.length) (ok : mSs M N d.body (C8.fnScope st) (C8.fnBody st) = true) :
    DefOk K mg M f d fa (PySem.W.fnOf x x (C8.fnArgs st) (C8.fnBody st) (C8.fnScope st) .none kV dc pm an cdv ct) st N ps := by
  subst hx
  have F : C8.Fun K.K (M.fname f) (M.fname f) st fa (PySem.W.fnOf (M.fname f) (M.fname f) (C8.fnArgs st) (C8.fnBody st) (C8.fnScope st) .none kV dc pm an cdv ct) := ⟨oc, od, .none, kV, dc, pm, an, cdv, ct, sl, rfl, l, c⟩
  exact ⟨F, PySem.W.mg_of X G a, k, F.binds rfl hb, sc, sl', pr, ok⟩
/-! ### facts of the written part -/
/-- a def of the top -/
def FnF (K : PySem.W.Frag) (x : Str) (st : Stmt) : Prop := ∃ (fa : Addr) (oc kV dc pm cdv ct : Value) (od an : Option Addr) (sl : Array (Option Value)), PySem.W.nsIn K mainGlobals x = some (some (.ref fa)) ∧
  K.lookup fa = some ⟨oc, od, .func (PySem.W.fnOf x x (C8.fnArgs st) (C8.fnBody st) (C8.fnScope st) .none kV dc pm an cdv ct), sl⟩ ∧ PySem.W.codeIn K cdv x = true ∧ PySem.W.keepIn K (.ref fa) = true
theorem FnF.mk {K : PySem.W.Frag} {x : Str} {st : Stmt} {fa : Addr} {oc kV dc pm cdv ct : Value} {od an : Option Addr} {sl : Array (Option Value)} (a : PySem.W.nsIn K mainGlobals x = some (some (.ref fa)))
    (l : K.lookup fa = some ⟨oc, od, .func (PySem.W.fnOf x x (C8.fnArgs st) (C8.fnBody st) (C8.fnScope st) .none kV dc pm an cdv ct), sl⟩) (c : PySem.W.codeIn K cdv x = true) (k : PySem.W.keepIn K (.ref fa) = true) : FnF K x st := ⟨fa, oc, kV, dc, pm, cdv, ct, od, an, sl, a, l, c, k⟩
/-- a constant of the top -/
def GlF (K : PySem.W.Frag) (P : Params) (x : Str) (d : D) : Prop := ∃ u, PySem.W.nsIn K mainGlobals x = some (some u) ∧ ∃ v, RelV v u ∧ ∀ H L, Den ⟨K, P⟩ H L v d
theorem gl_str {K : PySem.W.Frag} {P : Params} {x y : Str} {t : Tok} (a : PySem.W.nsIn K mainGlobals x = some (some (.str y t))) : GlF K P x (.str y) := ⟨_, a, .str y, ⟨t, rfl⟩, fun _ _ => .str y⟩
theorem gl_int {K : PySem.W.Frag} {P : Params} {x : Str} {i : Int} {t : Tok} (a : PySem.W.nsIn K mainGlobals x = some (some (.int i t))) : GlF K P x (.int i) := ⟨_, a, .int i, ⟨t, rfl⟩, fun _ _ => .int i⟩
/-- flat values -/
def flB : Value → D → Bool
  | .str x _, .str y => x == y
  | .int i _, .int j => i == j
  | .bool a, .bl b => a == b
  | .none, .non => true
  | _, _ => false
def flsB : List Value → List D → Bool
  | [], [] => true
  | u :: us, d :: ds => flB u d && flsB us ds
  | _, _ => false
def tupB (o : Obj) (ds : List D) : Bool := (match o.cls with | .type t => t == "tuple" | _ => false) && (match o.data with | .seq its _ => decide (its.size ≤ sizeLine) && flsB its.toList ds | _ => false)
theorem fl_of {u : Value} {d : D} (h : flB u d = true) : ∃ v, RelV v u ∧ ∀ (K : KP) H L, Den K H L v d := by
  unfold flB at h
  split at h
  · cases eq_of_beq h; exact ⟨.str _, ⟨_, rfl⟩, fun _ _ _ => .str _⟩
  · cases eq_of_beq h; exact ⟨.int _, ⟨_, rfl⟩, fun _ _ _ => .int _⟩
  · cases eq_of_beq h; exact ⟨.bl _, rfl, fun _ _ _ => .bl _⟩
  · exact ⟨.non, rfl, fun _ _ _ => .non⟩
  · cases h
theorem fls_of : ∀ {us : List Value} {ds : List D}, flsB us ds = true → ∃ vs, Vals vs us ∧ ∀ (K : KP) H L, Dens K H L vs ds
  | [], [], _ => ⟨[], .nil, fun _ _ _ => .nil⟩
  | u :: us, d :: ds, h => by
    unfold flsB at h
    rw [Bool.and_eq_true] at h
    obtain ⟨v, h1, h2⟩ := fl_of h.1
    obtain ⟨vs, h3, h4⟩ := fls_of h.2
    exact ⟨v :: vs, .cons h1 h3, fun K H L => .cons (h2 K H L) (h4 K H L)⟩
  | [], _ :: _, h => by cases h
  | _ :: _, [], h => by cases h
theorem tup_of {K : PySem.W.Frag} {P : Params} {b : Addr} {o : Obj} {ds : List D} (l : K.lookup b = some o) (h : tupB o ds = true) : ∀ H L, Den ⟨K, P⟩ H L (.ref b) (.tup ds) := by
  unfold tupB at h
  rw [Bool.and_eq_true] at h
  obtain ⟨h1, h2⟩ := h
  split at h1
  · rename_i t ht
    have e := eq_of_beq h1
    subst e
    split at h2
    · rename_i its n hd
      rw [Bool.and_eq_true, decide_eq_true_eq] at h2
      obtain ⟨vs, h3, h4⟩ := fls_of h2.2
      exact fun H L => .tup (.inr ⟨o, its, n, l, ht, hd, h2.1, h3⟩) (h4 ⟨K, P⟩ H L)
    · cases h2
  · cases h1
theorem gl_tup {K : PySem.W.Frag} {P : Params} {x : Str} {b : Addr} {o : Obj} {ds : List D} (a : PySem.W.nsIn K mainGlobals x = some (some (.ref b))) (l : K.lookup b = some o) (h : tupB o ds = true) : GlF K P x (.tup ds) := ⟨_, a, .ref b, rfl, tup_of l h⟩
/-- what the entries' values are -/
def entV (e : DictEntry) : V := match e.val with
  | .ref a => .ref a
  | _ => .non
theorem gl_dct {K : PySem.W.Frag} {P : Params} {x : Str} {b : Addr} {es : Array DictEntry} {n : Nat} {ks : List Str} {ds : List D} (a : PySem.W.nsIn K mainGlobals x = some (some (.ref b))) (l : K.lookup b = some ⟨.type "dict", none, .dict es n, #[]⟩) (hm : (b == sysModules) = false)
    (hk : PySem.W.KeysLit P es.toList) (hp : Paired (fun (k : Str × V) (e : DictEntry) => (∃ t, e.key = .str k.1 t) ∧ RelV k.2 e.val) (ks.zip (es.toList.map entV)) es.toList) (hl : ks.length = (es.toList.map entV).length) (hd : ∀ H L, Dens ⟨K, P⟩ H L (es.toList.map entV) ds) : GlF K P x (.dct ks ds) :=
  ⟨_, a, .ref b, rfl, fun H L => .dct (.inr ⟨es, n, l, hm, hk, hp, hl⟩) (hd H L)⟩
theorem dens_nil {K : KP} : ∀ H L, Dens K H L [] [] := fun _ _ => .nil
theorem dens_cons {K : KP} {v : V} {d : D} {vs : List V} {ds : List D} (h : ∀ H L, Den K H L v d) (t : ∀ H L, Dens K H L vs ds) : ∀ H L, Dens K H L (v :: vs) (d :: ds) := fun H L => .cons (h H L) (t H L)
/-- an exception class of the top -/
def ExF (K : PySem.W.Frag) (x : Str) (C : Addr) : Prop := PySem.W.nsIn K mainGlobals x = some (some (.ref C)) ∧ PySem.W.excIn K C [.type "ValueError", .type "Exception", .type "BaseException", .type "object"] "ValueError.__new__" = true ∧ PySem.W.keepIn K (.ref C) = true ∧
  PySem.W.subIn K (.ref C) (.type "BaseException") = some true ∧ PySem.W.typeIn K (.ref C) = some (.type "type")
theorem ExF.mk {K : PySem.W.Frag} {x : Str} {C : Addr} (a : PySem.W.nsIn K mainGlobals x = some (some (.ref C))) (q : PySem.W.excIn K C [.type "ValueError", .type "Exception", .type "BaseException", .type "object"] "ValueError.__new__" = true) (k : PySem.W.keepIn K (.ref C) = true)
    (b : PySem.W.subIn K (.ref C) (.type "BaseException") = some true) (t : PySem.W.typeIn K (.ref C) = some (.type "type")) : ExF K x C := ⟨a, q, k, b, t⟩
theorem ExF.ok {K : PySem.W.Frag} {mg : Str → Option Value} {h : Heap} (X : K.In h) (G : h.Ns mainGlobals mg) {x : Str} {C : Addr} (e : ExF K x C) : ExcOk K mg x C := ⟨PySem.W.mg_of X G e.1, e.2.1, e.2.2.1, e.2.2.2.1, e.2.2.2.2⟩
end Q
end
section
set_option maxRecDepth 100000
namespace K01
open PySem Q
/-! # the text says what the IR says (printed by mkend.py) -/
def M : Nm where
  fname := fun f => fnames.getD f ""
  gname := fun g => gnames.getD g ""
  xname := fun x => xnames.getD x ""
  dom := fun f => decide (f < 43)
  xdom := fun x => decide (x = 1)
  gdom := fun g => decide (g < 13)
abbrev st (i : Nat) : Stmt := PySem.Challenge.pw_liveviews_k01_programs_known.main.body.getD i (.Pass ⟨0, 0, 0, 0⟩)
theorem m_is_whole : mSs M n_is_whole i_is_whole.body (C8.fnScope (st 17)) (C8.fnBody (st 17)) = true := by decide +kernel
theorem s_is_whole : L2.FnScope n_is_whole (["value", "low", "high"] : List PySem.Str) (C8.fnScope (st 17)) := C8.fnScope_by (by decide +kernel)
theorem m_is_label : mSs M n_is_label i_is_label.body (C8.fnScope (st 18)) (C8.fnBody (st 18)) = true := by decide +kernel
theorem s_is_label : L2.FnScope n_is_label (["value"] : List PySem.Str) (C8.fnScope (st 18)) := C8.fnScope_by (by decide +kernel)
theorem m_are_labels : mSs M n_are_labels i_are_labels.body (C8.fnScope (st 19)) (C8.fnBody (st 19)) = true := by decide +kernel
theorem s_are_labels : L2.FnScope n_are_labels (["value", "least", "most"] : List PySem.Str) (C8.fnScope (st 19)) := C8.fnScope_by (by decide +kernel)
theorem m_is_declared : mSs M n_is_declared i_is_declared.body (C8.fnScope (st 20)) (C8.fnBody (st 20)) = true := by decide +kernel
theorem s_is_declared : L2.FnScope n_is_declared (["tables", "value"] : List PySem.Str) (C8.fnScope (st 20)) := C8.fnScope_by (by decide +kernel)
theorem m_is_head : mSs M n_is_head i_is_head.body (C8.fnScope (st 21)) (C8.fnBody (st 21)) = true := by decide +kernel
theorem s_is_head : L2.FnScope n_is_head (["tables", "views"] : List PySem.Str) (C8.fnScope (st 21)) := C8.fnScope_by (by decide +kernel)
theorem m_told_of : mSs M n_told_of i_told_of.body (C8.fnScope (st 22)) (C8.fnBody (st 22)) = true := by decide +kernel
theorem s_told_of : L2.FnScope n_told_of (["views", "name"] : List PySem.Str) (C8.fnScope (st 22)) := C8.fnScope_by (by decide +kernel)
theorem m_begun : mSs M n_begun i_begun.body (C8.fnScope (st 23)) (C8.fnBody (st 23)) = true := by decide +kernel
theorem s_begun : L2.FnScope n_begun (["tables", "views", "source"] : List PySem.Str) (C8.fnScope (st 23)) := C8.fnScope_by (by decide +kernel)
theorem m_with_op : mSs M n_with_op i_with_op.body (C8.fnScope (st 24)) (C8.fnBody (st 24)) = true := by decide +kernel
theorem s_with_op : L2.FnScope n_with_op (["views", "state", "op"] : List PySem.Str) (C8.fnScope (st 24)) := C8.fnScope_by (by decide +kernel)
theorem m_shape_of : mSs M n_shape_of i_shape_of.body (C8.fnScope (st 25)) (C8.fnBody (st 25)) = true := by decide +kernel
theorem s_shape_of : L2.FnScope n_shape_of (["tables", "views", "source", "ops"] : List PySem.Str) (C8.fnScope (st 25)) := C8.fnScope_by (by decide +kernel)
theorem m_is_view_step : mSs M n_is_view_step i_is_view_step.body (C8.fnScope (st 26)) (C8.fnBody (st 26)) = true := by decide +kernel
theorem s_is_view_step : L2.FnScope n_is_view_step (["tables", "views", "item"] : List PySem.Str) (C8.fnScope (st 26)) := C8.fnScope_by (by decide +kernel)
theorem m_is_simple : mSs M n_is_simple i_is_simple.body (C8.fnScope (st 27)) (C8.fnBody (st 27)) = true := by decide +kernel
theorem s_is_simple : L2.FnScope n_is_simple (["tables", "views", "item"] : List PySem.Str) (C8.fnScope (st 27)) := C8.fnScope_by (by decide +kernel)
theorem m_inner : mSs M n_inner i_inner.body (C8.fnScope (st 28)) (C8.fnBody (st 28)) = true := by decide +kernel
theorem s_inner : L2.FnScope n_inner (["item"] : List PySem.Str) (C8.fnScope (st 28)) := C8.fnScope_by (by decide +kernel)
theorem m_measured_item : mSs M n_measured_item i_measured_item.body (C8.fnScope (st 29)) (C8.fnBody (st 29)) = true := by decide +kernel
theorem s_measured_item : L2.FnScope n_measured_item (["tables", "views", "item", "deep"] : List PySem.Str) (C8.fnScope (st 29)) := C8.fnScope_by (by decide +kernel)
theorem m_measured : mSs M n_measured i_measured.body (C8.fnScope (st 30)) (C8.fnBody (st 30)) = true := by decide +kernel
theorem s_measured : L2.FnScope n_measured (["tables", "views", "body", "deep"] : List PySem.Str) (C8.fnScope (st 30)) := C8.fnScope_by (by decide +kernel)
theorem m_is_program : mSs M n_is_program i_is_program.body (C8.fnScope (st 31)) (C8.fnBody (st 31)) = true := by decide +kernel
theorem s_is_program : L2.FnScope n_is_program (["value"] : List PySem.Str) (C8.fnScope (st 31)) := C8.fnScope_by (by decide +kernel)
theorem m_need_program : mSs M n_need_program i_need_program.body (C8.fnScope (st 32)) (C8.fnBody (st 32)) = true := by decide +kernel
theorem s_need_program : L2.FnScope n_need_program (["program"] : List PySem.Str) (C8.fnScope (st 32)) := C8.fnScope_by (by decide +kernel)
theorem m_steps_in : mSs M n_steps_in i_steps_in.body (C8.fnScope (st 33)) (C8.fnBody (st 33)) = true := by decide +kernel
theorem s_steps_in : L2.FnScope n_steps_in (["body"] : List PySem.Str) (C8.fnScope (st 33)) := C8.fnScope_by (by decide +kernel)
theorem m_steps : mSs M n_steps i_steps.body (C8.fnScope (st 34)) (C8.fnBody (st 34)) = true := by decide +kernel
theorem s_steps : L2.FnScope n_steps (["program"] : List PySem.Str) (C8.fnScope (st 34)) := C8.fnScope_by (by decide +kernel)
theorem m__law_deck : mSs M n__law_deck i__law_deck.body (C8.fnScope (st 36)) (C8.fnBody (st 36)) = true := by decide +kernel
theorem s__law_deck : L2.FnScope n__law_deck (["cell", "turn"] : List PySem.Str) (C8.fnScope (st 36)) := C8.fnScope_by (by decide +kernel)
theorem m__law_pick : mSs M n__law_pick i__law_pick.body (C8.fnScope (st 37)) (C8.fnBody (st 37)) = true := by decide +kernel
theorem s__law_pick : L2.FnScope n__law_pick (["deck", "limit"] : List PySem.Str) (C8.fnScope (st 37)) := C8.fnScope_by (by decide +kernel)
theorem m__law_one : mSs M n__law_one i__law_one.body (C8.fnScope (st 38)) (C8.fnBody (st 38)) = true := by decide +kernel
theorem s__law_one : L2.FnScope n__law_one (["deck", "items"] : List PySem.Str) (C8.fnScope (st 38)) := C8.fnScope_by (by decide +kernel)
theorem m__law_head : mSs M n__law_head i__law_head.body (C8.fnScope (st 39)) (C8.fnBody (st 39)) = true := by decide +kernel
theorem s__law_head : L2.FnScope n__law_head (["deck"] : List PySem.Str) (C8.fnScope (st 39)) := C8.fnScope_by (by decide +kernel)
theorem m__law_list : mSs M n__law_list i__law_list.body (C8.fnScope (st 40)) (C8.fnBody (st 40)) = true := by decide +kernel
theorem s__law_list : L2.FnScope n__law_list (["head", "name"] : List PySem.Str) (C8.fnScope (st 40)) := C8.fnScope_by (by decide +kernel)
theorem m__law_source : mSs M n__law_source i__law_source.body (C8.fnScope (st 41)) (C8.fnBody (st 41)) = true := by decide +kernel
theorem s__law_source : L2.FnScope n__law_source (["head", "source"] : List PySem.Str) (C8.fnScope (st 41)) := C8.fnScope_by (by decide +kernel)
theorem m__law_with : mSs M n__law_with i__law_with.body (C8.fnScope (st 42)) (C8.fnBody (st 42)) = true := by decide +kernel
theorem s__law_with : L2.FnScope n__law_with (["head", "state", "op"] : List PySem.Str) (C8.fnScope (st 42)) := C8.fnScope_by (by decide +kernel)
theorem m__law_is_label : mSs M n__law_is_label i__law_is_label.body (C8.fnScope (st 43)) (C8.fnBody (st 43)) = true := by decide +kernel
theorem s__law_is_label : L2.FnScope n__law_is_label (["value"] : List PySem.Str) (C8.fnScope (st 43)) := C8.fnScope_by (by decide +kernel)
theorem m__law_shape : mSs M n__law_shape i__law_shape.body (C8.fnScope (st 44)) (C8.fnBody (st 44)) = true := by decide +kernel
theorem s__law_shape : L2.FnScope n__law_shape (["head", "source", "ops"] : List PySem.Str) (C8.fnScope (st 44)) := C8.fnScope_by (by decide +kernel)
theorem m__law_op : mSs M n__law_op i__law_op.body (C8.fnScope (st 45)) (C8.fnBody (st 45)) = true := by decide +kernel
theorem s__law_op : L2.FnScope n__law_op (["deck", "head", "state"] : List PySem.Str) (C8.fnScope (st 45)) := C8.fnScope_by (by decide +kernel)
theorem m__law_view : mSs M n__law_view i__law_view.body (C8.fnScope (st 46)) (C8.fnBody (st 46)) = true := by decide +kernel
theorem s__law_view : L2.FnScope n__law_view (["deck", "head"] : List PySem.Str) (C8.fnScope (st 46)) := C8.fnScope_by (by decide +kernel)
theorem m__law_body : mSs M n__law_body i__law_body.body (C8.fnScope (st 47)) (C8.fnBody (st 47)) = true := by decide +kernel
theorem s__law_body : L2.FnScope n__law_body (["deck", "head", "deep", "left"] : List PySem.Str) (C8.fnScope (st 47)) := C8.fnScope_by (by decide +kernel)
theorem m__law_program : mSs M n__law_program i__law_program.body (C8.fnScope (st 48)) (C8.fnBody (st 48)) = true := by decide +kernel
theorem s__law_program : L2.FnScope n__law_program (["deck", "limit"] : List PySem.Str) (C8.fnScope (st 48)) := C8.fnScope_by (by decide +kernel)
theorem m__law_inner : mSs M n__law_inner i__law_inner.body (C8.fnScope (st 49)) (C8.fnBody (st 49)) = true := by decide +kernel
theorem s__law_inner : L2.FnScope n__law_inner (["item"] : List PySem.Str) (C8.fnScope (st 49)) := C8.fnScope_by (by decide +kernel)
theorem m__law_rows : mSs M n__law_rows i__law_rows.body (C8.fnScope (st 50)) (C8.fnBody (st 50)) = true := by decide +kernel
theorem s__law_rows : L2.FnScope n__law_rows (["body", "at"] : List PySem.Str) (C8.fnScope (st 50)) := C8.fnScope_by (by decide +kernel)
theorem m__law_steps : mSs M n__law_steps i__law_steps.body (C8.fnScope (st 51)) (C8.fnBody (st 51)) = true := by decide +kernel
theorem s__law_steps : L2.FnScope n__law_steps (["rows"] : List PySem.Str) (C8.fnScope (st 51)) := C8.fnScope_by (by decide +kernel)
theorem m__law_labels : mSs M n__law_labels i__law_labels.body (C8.fnScope (st 52)) (C8.fnBody (st 52)) = true := by decide +kernel
theorem s__law_labels : L2.FnScope n__law_labels (["value", "least", "most"] : List PySem.Str) (C8.fnScope (st 52)) := C8.fnScope_by (by decide +kernel)
theorem m__law_is_head : mSs M n__law_is_head i__law_is_head.body (C8.fnScope (st 53)) (C8.fnBody (st 53)) = true := by decide +kernel
theorem s__law_is_head : L2.FnScope n__law_is_head (["tables", "lists"] : List PySem.Str) (C8.fnScope (st 53)) := C8.fnScope_by (by decide +kernel)
theorem m__law_is_simple : mSs M n__law_is_simple i__law_is_simple.body (C8.fnScope (st 54)) (C8.fnBody (st 54)) = true := by decide +kernel
theorem s__law_is_simple : L2.FnScope n__law_is_simple (["head", "item"] : List PySem.Str) (C8.fnScope (st 54)) := C8.fnScope_by (by decide +kernel)
theorem m__law_size : mSs M n__law_size i__law_size.body (C8.fnScope (st 55)) (C8.fnBody (st 55)) = true := by decide +kernel
theorem s__law_size : L2.FnScope n__law_size (["head", "body", "deep"] : List PySem.Str) (C8.fnScope (st 55)) := C8.fnScope_by (by decide +kernel)
theorem m__law_is_program : mSs M n__law_is_program i__law_is_program.body (C8.fnScope (st 56)) (C8.fnBody (st 56)) = true := by decide +kernel
theorem s__law_is_program : L2.FnScope n__law_is_program (["value"] : List PySem.Str) (C8.fnScope (st 56)) := C8.fnScope_by (by decide +kernel)
theorem m__law_odd : mSs M n__law_odd i__law_odd.body (C8.fnScope (st 57)) (C8.fnBody (st 57)) = true := by decide +kernel
theorem s__law_odd : L2.FnScope n__law_odd (["deck"] : List PySem.Str) (C8.fnScope (st 57)) := C8.fnScope_by (by decide +kernel)
theorem m__law_bent : mSs M n__law_bent i__law_bent.body (C8.fnScope (st 58)) (C8.fnBody (st 58)) = true := by decide +kernel
theorem s__law_bent : L2.FnScope n__law_bent (["deck", "value"] : List PySem.Str) (C8.fnScope (st 58)) := C8.fnScope_by (by decide +kernel)
theorem m__law_told : mSs M n__law_told i__law_told.body (C8.fnScope (st 59)) (C8.fnBody (st 59)) = true := by decide +kernel
theorem s__law_told : L2.FnScope n__law_told (["value"] : List PySem.Str) (C8.fnScope (st 59)) := C8.fnScope_by (by decide +kernel)
theorem m_law : mSs M n_law i_law.body (C8.fnScope (st 60)) (C8.fnBody (st 60)) = true := by decide +kernel
theorem s_law : L2.FnScope n_law (["script"] : List PySem.Str) (C8.fnScope (st 60)) := C8.fnScope_by (by decide +kernel)
end K01
end
section
set_option maxRecDepth 100000
set_option maxHeartbeats 0
namespace K01
open PySem PySem.Spec PyProof.Rows L2 Q
theorem text_mk {P : Program} {w : World} {K : PySem.W.Frag} {h : Heap} {mg : Str → Option Value} (X : K.In h) (G : h.Ns mainGlobals mg)
    (h0 : FnF K "is_whole" (st 17))
    (h1 : FnF K "is_label" (st 18))
    (h2 : FnF K "are_labels" (st 19))
    (h3 : FnF K "is_declared" (st 20))
    (h4 : FnF K "is_head" (st 21))
    (h5 : FnF K "told_of" (st 22))
    (h6 : FnF K "begun" (st 23))
    (h7 : FnF K "with_op" (st 24))
    (h8 : FnF K "shape_of" (st 25))
    (h9 : FnF K "is_view_step" (st 26))
    (h10 : FnF K "is_simple" (st 27))
    (h11 : FnF K "inner" (st 28))
    (h12 : FnF K "measured_item" (st 29))
    (h13 : FnF K "measured" (st 30))
    (h14 : FnF K "is_program" (st 31))
    (h15 : FnF K "need_program" (st 32))
    (h16 : FnF K "steps_in" (st 33))
    (h17 : FnF K "steps" (st 34))
    (h18 : FnF K "_law_deck" (st 36))
    (h19 : FnF K "_law_pick" (st 37))
    (h20 : FnF K "_law_one" (st 38))
    (h21 : FnF K "_law_head" (st 39))
    (h22 : FnF K "_law_list" (st 40))
    (h23 : FnF K "_law_source" (st 41))
    (h24 : FnF K "_law_with" (st 42))
    (h25 : FnF K "_law_is_label" (st 43))
    (h26 : FnF K "_law_shape" (st 44))
    (h27 : FnF K "_law_op" (st 45))
    (h28 : FnF K "_law_view" (st 46))
    (h29 : FnF K "_law_body" (st 47))
    (h30 : FnF K "_law_program" (st 48))
    (h31 : FnF K "_law_inner" (st 49))
    (h32 : FnF K "_law_rows" (st 50))
    (h33 : FnF K "_law_steps" (st 51))
    (h34 : FnF K "_law_labels" (st 52))
    (h35 : FnF K "_law_is_head" (st 53))
    (h36 : FnF K "_law_is_simple" (st 54))
    (h37 : FnF K "_law_size" (st 55))
    (h38 : FnF K "_law_is_program" (st 56))
    (h39 : FnF K "_law_odd" (st 57))
    (h40 : FnF K "_law_bent" (st 58))
    (h41 : FnF K "_law_told" (st 59))
    (h42 : FnF K "law" (st 60))
    (g0 : GlF K w.params "LETTERS" (glist.getD 0 .non))
    (g1 : GlF K w.params "KINDS" (glist.getD 1 .non))
    (g2 : GlF K w.params "HOWS" (glist.getD 2 .non))
    (g3 : GlF K w.params "CHANGES" (glist.getD 3 .non))
    (g4 : GlF K w.params "MOST_TABLES" (glist.getD 4 .non))
    (g5 : GlF K w.params "MOST_VIEWS" (glist.getD 5 .non))
    (g6 : GlF K w.params "MOST_STEPS" (glist.getD 6 .non))
    (g7 : GlF K w.params "MOST_ITEMS" (glist.getD 7 .non))
    (g8 : GlF K w.params "MOST_DEEP" (glist.getD 8 .non))
    (g9 : GlF K w.params "MOST_OPS" (glist.getD 9 .non))
    (g10 : GlF K w.params "MOST_SHORT" (glist.getD 10 .non))
    (g11 : GlF K w.params "PLAIN_OPS" (glist.getD 11 .non))
    (g12 : GlF K w.params "TEST_OPS" (glist.getD 12 .non))
    {C : Addr} (e1 : ExF K "InvalidProgram" C) (ee : PySem.W.exmOne K (.ref C) (.ref C) = some true)
    (z0 : PySem.W.nsIn K mainGlobals "len" = some none)
    (z1 : PySem.W.nsIn K mainGlobals "int" = some none)
    (z2 : PySem.W.nsIn K mainGlobals "all" = some none)
    (z3 : PySem.W.nsIn K mainGlobals "tuple" = some none)
    (z4 : PySem.W.nsIn K mainGlobals "list" = some none)
    (z5 : PySem.W.nsIn K mainGlobals "sorted" = some none)
    (z6 : PySem.W.nsIn K mainGlobals "min" = some none)
    (z7 : PySem.W.nsIn K mainGlobals "sum" = some none)
    (z8 : PySem.W.nsIn K mainGlobals "isinstance" = some none)
    (z9 : PySem.W.nsIn K mainGlobals "str" = some none)
    (z10 : PySem.W.nsIn K mainGlobals "bool" = some none)
    (z11 : PySem.W.nsIn K mainGlobals "zip" = some none)
    (z12 : PySem.W.nsIn K mainGlobals "range" = some none) :
    Text P w ⟨K, w.params⟩ mg M (fun _ => C) Γ where
  hP := rfl
  dfs := fun f hf => match f, hf with
    | 0, _ => by
      obtain ⟨fa, oc, kV, dc, pm, cdv, ct, od, an, sl, a, l, c, k⟩ := h0
      exact ⟨i_is_whole, _, _, st 17, n_is_whole, (["value", "low", "high"] : List PySem.Str), rfl, def_mk X G rfl a l c k (fun _ _ _ _ _ _ us hl => match us, hl with | [_, _, _], _ => rfl) s_is_whole rfl rfl m_is_whole⟩
    | 1, _ => by
      obtain ⟨fa, oc, kV, dc, pm, cdv, ct, od, an, sl, a, l, c, k⟩ := h1
      exact ⟨i_is_label, _, _, st 18, n_is_label, (["value"] : List PySem.Str), rfl, def_mk X G rfl a l c k (fun _ _ _ _ _ _ us hl => match us, hl with | [_], _ => rfl) s_is_label rfl rfl m_is_label⟩
    | 2, _ => by
      obtain ⟨fa, oc, kV, dc, pm, cdv, ct, od, an, sl, a, l, c, k⟩ := h2
      exact ⟨i_are_labels, _, _, st 19, n_are_labels, (["value", "least", "most"] : List PySem.Str), rfl, def_mk X G rfl a l c k (fun _ _ _ _ _ _ us hl => match us, hl with | [_, _, _], _ => rfl) s_are_labels rfl rfl m_are_labels⟩
    | 3, _ => by
      obtain ⟨fa, oc, kV, dc, pm, cdv, ct, od, an, sl, a, l, c, k⟩ := h3
      exact ⟨i_is_declared, _, _, st 20, n_is_declared, (["tables", "value"] : List PySem.Str), rfl, def_mk X G rfl a l c k (fun _ _ _ _ _ _ us hl => match us, hl with | [_, _], _ => rfl) s_is_declared rfl rfl m_is_declared⟩
    | 4, _ => by
      obtain ⟨fa, oc, kV, dc, pm, cdv, ct, od, an, sl, a, l, c, k⟩ := h4
      exact ⟨i_is_head, _, _, st 21, n_is_head, (["tables", "views"] : List PySem.Str), rfl, def_mk X G rfl a l c k (fun _ _ _ _ _ _ us hl => match us, hl with | [_, _], _ => rfl) s_is_head rfl rfl m_is_head⟩
    | 5, _ => by
      obtain ⟨fa, oc, kV, dc, pm, cdv, ct, od, an, sl, a, l, c, k⟩ := h5
      exact ⟨i_told_of, _, _, st 22, n_told_of, (["views", "name"] : List PySem.Str), rfl, def_mk X G rfl a l c k (fun _ _ _ _ _ _ us hl => match us, hl with | [_, _], _ => rfl) s_told_of rfl rfl m_told_of⟩
    | 6, _ => by
      obtain ⟨fa, oc, kV, dc, pm, cdv, ct, od, an, sl, a, l, c, k⟩ := h6
      exact ⟨i_begun, _, _, st 23, n_begun, (["tables", "views", "source"] : List PySem.Str), rfl, def_mk X G rfl a l c k (fun _ _ _ _ _ _ us hl => match us, hl with | [_, _, _], _ => rfl) s_begun rfl rfl m_begun⟩
    | 7, _ => by
      obtain ⟨fa, oc, kV, dc, pm, cdv, ct, od, an, sl, a, l, c, k⟩ := h7
      exact ⟨i_with_op, _, _, st 24, n_with_op, (["views", "state", "op"] : List PySem.Str), rfl, def_mk X G rfl a l c k (fun _ _ _ _ _ _ us hl => match us, hl with | [_, _, _], _ => rfl) s_with_op rfl rfl m_with_op⟩
    | 8, _ => by
      obtain ⟨fa, oc, kV, dc, pm, cdv, ct, od, an, sl, a, l, c, k⟩ := h8
      exact ⟨i_shape_of, _, _, st 25, n_shape_of, (["tables", "views", "source", "ops"] : List PySem.Str), rfl, def_mk X G rfl a l c k (fun _ _ _ _ _ _ us hl => match us, hl with | [_, _, _, _], _ => rfl) s_shape_of rfl rfl m_shape_of⟩
    | 9, _ => by
      obtain ⟨fa, oc, kV, dc, pm, cdv, ct, od, an, sl, a, l, c, k⟩ := h9
      exact ⟨i_is_view_step, _, _, st 26, n_is_view_step, (["tables", "views", "item"] : List PySem.Str), rfl, def_mk X G rfl a l c k (fun _ _ _ _ _ _ us hl => match us, hl with | [_, _, _], _ => rfl) s_is_view_step rfl rfl m_is_view_step⟩
    | 10, _ => by
      obtain ⟨fa, oc, kV, dc, pm, cdv, ct, od, an, sl, a, l, c, k⟩ := h10
      exact ⟨i_is_simple, _, _, st 27, n_is_simple, (["tables", "views", "item"] : List PySem.Str), rfl, def_mk X G rfl a l c k (fun _ _ _ _ _ _ us hl => match us, hl with | [_, _, _], _ => rfl) s_is_simple rfl rfl m_is_simple⟩
    | 11, _ => by
      obtain ⟨fa, oc, kV, dc, pm, cdv, ct, od, an, sl, a, l, c, k⟩ := h11
      exact ⟨i_inner, _, _, st 28, n_inner, (["item"] : List PySem.Str), rfl, def_mk X G rfl a l c k (fun _ _ _ _ _ _ us hl => match us, hl with | [_], _ => rfl) s_inner rfl rfl m_inner⟩
    | 12, _ => by
      obtain ⟨fa, oc, kV, dc, pm, cdv, ct, od, an, sl, a, l, c, k⟩ := h12
      exact ⟨i_measured_item, _, _, st 29, n_measured_item, (["tables", "views", "item", "deep"] : List PySem.Str), rfl, def_mk X G rfl a l c k (fun _ _ _ _ _ _ us hl => match us, hl with | [_, _, _, _], _ => rfl) s_measured_item rfl rfl m_measured_item⟩
    | 13, _ => by
      obtain ⟨fa, oc, kV, dc, pm, cdv, ct, od, an, sl, a, l, c, k⟩ := h13
      exact ⟨i_measured, _, _, st 30, n_measured, (["tables", "views", "body", "deep"] : List PySem.Str), rfl, def_mk X G rfl a l c k (fun _ _ _ _ _ _ us hl => match us, hl with | [_, _, _, _], _ => rfl) s_measured rfl rfl m_measured⟩
    | 14, _ => by
      obtain ⟨fa, oc, kV, dc, pm, cdv, ct, od, an, sl, a, l, c, k⟩ := h14
      exact ⟨i_is_program, _, _, st 31, n_is_program, (["value"] : List PySem.Str), rfl, def_mk X G rfl a l c k (fun _ _ _ _ _ _ us hl => match us, hl with | [_], _ => rfl) s_is_program rfl rfl m_is_program⟩
    | 15, _ => by
      obtain ⟨fa, oc, kV, dc, pm, cdv, ct, od, an, sl, a, l, c, k⟩ := h15
      exact ⟨i_need_program, _, _, st 32, n_need_program, (["program"] : List PySem.Str), rfl, def_mk X G rfl a l c k (fun _ _ _ _ _ _ us hl => match us, hl with | [_], _ => rfl) s_need_program rfl rfl m_need_program⟩
    | 16, _ => by
      obtain ⟨fa, oc, kV, dc, pm, cdv, ct, od, an, sl, a, l, c, k⟩ := h16
      exact ⟨i_steps_in, _, _, st 33, n_steps_in, (["body"] : List PySem.Str), rfl, def_mk X G rfl a l c k (fun _ _ _ _ _ _ us hl => match us, hl with | [_], _ => rfl) s_steps_in rfl rfl m_steps_in⟩
    | 17, _ => by
      obtain ⟨fa, oc, kV, dc, pm, cdv, ct, od, an, sl, a, l, c, k⟩ := h17
      exact ⟨i_steps, _, _, st 34, n_steps, (["program"] : List PySem.Str), rfl, def_mk X G rfl a l c k (fun _ _ _ _ _ _ us hl => match us, hl with | [_], _ => rfl) s_steps rfl rfl m_steps⟩
    | 18, _ => by
      obtain ⟨fa, oc, kV, dc, pm, cdv, ct, od, an, sl, a, l, c, k⟩ := h18
      exact ⟨i__law_deck, _, _, st 36, n__law_deck, (["cell", "turn"] : List PySem.Str), rfl, def_mk X G rfl a l c k (fun _ _ _ _ _ _ us hl => match us, hl with | [_, _], _ => rfl) s__law_deck rfl rfl m__law_deck⟩
    | 19, _ => by
      obtain ⟨fa, oc, kV, dc, pm, cdv, ct, od, an, sl, a, l, c, k⟩ := h19
      exact ⟨i__law_pick, _, _, st 37, n__law_pick, (["deck", "limit"] : List PySem.Str), rfl, def_mk X G rfl a l c k (fun _ _ _ _ _ _ us hl => match us, hl with | [_, _], _ => rfl) s__law_pick rfl rfl m__law_pick⟩
    | 20, _ => by
      obtain ⟨fa, oc, kV, dc, pm, cdv, ct, od, an, sl, a, l, c, k⟩ := h20
      exact ⟨i__law_one, _, _, st 38, n__law_one, (["deck", "items"] : List PySem.Str), rfl, def_mk X G rfl a l c k (fun _ _ _ _ _ _ us hl => match us, hl with | [_, _], _ => rfl) s__law_one rfl rfl m__law_one⟩
    | 21, _ => by
      obtain ⟨fa, oc, kV, dc, pm, cdv, ct, od, an, sl, a, l, c, k⟩ := h21
      exact ⟨i__law_head, _, _, st 39, n__law_head, (["deck"] : List PySem.Str), rfl, def_mk X G rfl a l c k (fun _ _ _ _ _ _ us hl => match us, hl with | [_], _ => rfl) s__law_head rfl rfl m__law_head⟩
    | 22, _ => by
      obtain ⟨fa, oc, kV, dc, pm, cdv, ct, od, an, sl, a, l, c, k⟩ := h22
      exact ⟨i__law_list, _, _, st 40, n__law_list, (["head", "name"] : List PySem.Str), rfl, def_mk X G rfl a l c k (fun _ _ _ _ _ _ us hl => match us, hl with | [_, _], _ => rfl) s__law_list rfl rfl m__law_list⟩
    | 23, _ => by
      obtain ⟨fa, oc, kV, dc, pm, cdv, ct, od, an, sl, a, l, c, k⟩ := h23
      exact ⟨i__law_source, _, _, st 41, n__law_source, (["head", "source"] : List PySem.Str), rfl, def_mk X G rfl a l c k (fun _ _ _ _ _ _ us hl => match us, hl with | [_, _], _ => rfl) s__law_source rfl rfl m__law_source⟩
    | 24, _ => by
      obtain ⟨fa, oc, kV, dc, pm, cdv, ct, od, an, sl, a, l, c, k⟩ := h24
      exact ⟨i__law_with, _, _, st 42, n__law_with, (["head", "state", "op"] : List PySem.Str), rfl, def_mk X G rfl a l c k (fun _ _ _ _ _ _ us hl => match us, hl with | [_, _, _], _ => rfl) s__law_with rfl rfl m__law_with⟩
    | 25, _ => by
      obtain ⟨fa, oc, kV, dc, pm, cdv, ct, od, an, sl, a, l, c, k⟩ := h25
      exact ⟨i__law_is_label, _, _, st 43, n__law_is_label, (["value"] : List PySem.Str), rfl, def_mk X G rfl a l c k (fun _ _ _ _ _ _ us hl => match us, hl with | [_], _ => rfl) s__law_is_label rfl rfl m__law_is_label⟩
    | 26, _ => by
      obtain ⟨fa, oc, kV, dc, pm, cdv, ct, od, an, sl, a, l, c, k⟩ := h26
      exact ⟨i__law_shape, _, _, st 44, n__law_shape, (["head", "source", "ops"] : List PySem.Str), rfl, def_mk X G rfl a l c k (fun _ _ _ _ _ _ us hl => match us, hl with | [_, _, _], _ => rfl) s__law_shape rfl rfl m__law_shape⟩
    | 27, _ => by
      obtain ⟨fa, oc, kV, dc, pm, cdv, ct, od, an, sl, a, l, c, k⟩ := h27
      exact ⟨i__law_op, _, _, st 45, n__law_op, (["deck", "head", "state"] : List PySem.Str), rfl, def_mk X G rfl a l c k (fun _ _ _ _ _ _ us hl => match us, hl with | [_, _, _], _ => rfl) s__law_op rfl rfl m__law_op⟩
    | 28, _ => by
      obtain ⟨fa, oc, kV, dc, pm, cdv, ct, od, an, sl, a, l, c, k⟩ := h28
      exact ⟨i__law_view, _, _, st 46, n__law_view, (["deck", "head"] : List PySem.Str), rfl, def_mk X G rfl a l c k (fun _ _ _ _ _ _ us hl => match us, hl with | [_, _], _ => rfl) s__law_view rfl rfl m__law_view⟩
    | 29, _ => by
      obtain ⟨fa, oc, kV, dc, pm, cdv, ct, od, an, sl, a, l, c, k⟩ := h29
      exact ⟨i__law_body, _, _, st 47, n__law_body, (["deck", "head", "deep", "left"] : List PySem.Str), rfl, def_mk X G rfl a l c k (fun _ _ _ _ _ _ us hl => match us, hl with | [_, _, _, _], _ => rfl) s__law_body rfl rfl m__law_body⟩
    | 30, _ => by
      obtain ⟨fa, oc, kV, dc, pm, cdv, ct, od, an, sl, a, l, c, k⟩ := h30
      exact ⟨i__law_program, _, _, st 48, n__law_program, (["deck", "limit"] : List PySem.Str), rfl, def_mk X G rfl a l c k (fun _ _ _ _ _ _ us hl => match us, hl with | [_, _], _ => rfl) s__law_program rfl rfl m__law_program⟩
    | 31, _ => by
      obtain ⟨fa, oc, kV, dc, pm, cdv, ct, od, an, sl, a, l, c, k⟩ := h31
      exact ⟨i__law_inner, _, _, st 49, n__law_inner, (["item"] : List PySem.Str), rfl, def_mk X G rfl a l c k (fun _ _ _ _ _ _ us hl => match us, hl with | [_], _ => rfl) s__law_inner rfl rfl m__law_inner⟩
    | 32, _ => by
      obtain ⟨fa, oc, kV, dc, pm, cdv, ct, od, an, sl, a, l, c, k⟩ := h32
      exact ⟨i__law_rows, _, _, st 50, n__law_rows, (["body", "at"] : List PySem.Str), rfl, def_mk X G rfl a l c k (fun _ _ _ _ _ _ us hl => match us, hl with | [_, _], _ => rfl) s__law_rows rfl rfl m__law_rows⟩
    | 33, _ => by
      obtain ⟨fa, oc, kV, dc, pm, cdv, ct, od, an, sl, a, l, c, k⟩ := h33
      exact ⟨i__law_steps, _, _, st 51, n__law_steps, (["rows"] : List PySem.Str), rfl, def_mk X G rfl a l c k (fun _ _ _ _ _ _ us hl => match us, hl with | [_], _ => rfl) s__law_steps rfl rfl m__law_steps⟩
    | 34, _ => by
      obtain ⟨fa, oc, kV, dc, pm, cdv, ct, od, an, sl, a, l, c, k⟩ := h34
      exact ⟨i__law_labels, _, _, st 52, n__law_labels, (["value", "least", "most"] : List PySem.Str), rfl, def_mk X G rfl a l c k (fun _ _ _ _ _ _ us hl => match us, hl with | [_, _, _], _ => rfl) s__law_labels rfl rfl m__law_labels⟩
    | 35, _ => by
      obtain ⟨fa, oc, kV, dc, pm, cdv, ct, od, an, sl, a, l, c, k⟩ := h35
      exact ⟨i__law_is_head, _, _, st 53, n__law_is_head, (["tables", "lists"] : List PySem.Str), rfl, def_mk X G rfl a l c k (fun _ _ _ _ _ _ us hl => match us, hl with | [_, _], _ => rfl) s__law_is_head rfl rfl m__law_is_head⟩
    | 36, _ => by
      obtain ⟨fa, oc, kV, dc, pm, cdv, ct, od, an, sl, a, l, c, k⟩ := h36
      exact ⟨i__law_is_simple, _, _, st 54, n__law_is_simple, (["head", "item"] : List PySem.Str), rfl, def_mk X G rfl a l c k (fun _ _ _ _ _ _ us hl => match us, hl with | [_, _], _ => rfl) s__law_is_simple rfl rfl m__law_is_simple⟩
    | 37, _ => by
      obtain ⟨fa, oc, kV, dc, pm, cdv, ct, od, an, sl, a, l, c, k⟩ := h37
      exact ⟨i__law_size, _, _, st 55, n__law_size, (["head", "body", "deep"] : List PySem.Str), rfl, def_mk X G rfl a l c k (fun _ _ _ _ _ _ us hl => match us, hl with | [_, _, _], _ => rfl) s__law_size rfl rfl m__law_size⟩
    | 38, _ => by
      obtain ⟨fa, oc, kV, dc, pm, cdv, ct, od, an, sl, a, l, c, k⟩ := h38
      exact ⟨i__law_is_program, _, _, st 56, n__law_is_program, (["value"] : List PySem.Str), rfl, def_mk X G rfl a l c k (fun _ _ _ _ _ _ us hl => match us, hl with | [_], _ => rfl) s__law_is_program rfl rfl m__law_is_program⟩
    | 39, _ => by
      obtain ⟨fa, oc, kV, dc, pm, cdv, ct, od, an, sl, a, l, c, k⟩ := h39
      exact ⟨i__law_odd, _, _, st 57, n__law_odd, (["deck"] : List PySem.Str), rfl, def_mk X G rfl a l c k (fun _ _ _ _ _ _ us hl => match us, hl with | [_], _ => rfl) s__law_odd rfl rfl m__law_odd⟩
    | 40, _ => by
      obtain ⟨fa, oc, kV, dc, pm, cdv, ct, od, an, sl, a, l, c, k⟩ := h40
      exact ⟨i__law_bent, _, _, st 58, n__law_bent, (["deck", "value"] : List PySem.Str), rfl, def_mk X G rfl a l c k (fun _ _ _ _ _ _ us hl => match us, hl with | [_, _], _ => rfl) s__law_bent rfl rfl m__law_bent⟩
    | 41, _ => by
      obtain ⟨fa, oc, kV, dc, pm, cdv, ct, od, an, sl, a, l, c, k⟩ := h41
      exact ⟨i__law_told, _, _, st 59, n__law_told, (["value"] : List PySem.Str), rfl, def_mk X G rfl a l c k (fun _ _ _ _ _ _ us hl => match us, hl with | [_], _ => rfl) s__law_told rfl rfl m__law_told⟩
    | 42, _ => by
      obtain ⟨fa, oc, kV, dc, pm, cdv, ct, od, an, sl, a, l, c, k⟩ := h42
      exact ⟨i_law, _, _, st 60, n_law, (["script"] : List PySem.Str), rfl, def_mk X G rfl a l c k (fun _ _ _ _ _ _ us hl => match us, hl with | [_], _ => rfl) s_law rfl rfl m_law⟩
    | n + 43, hf => by
      have : n + 43 < 43 := of_decide_eq_true hf
      omega
  glo := fun g hg => match g, hg with
    | 0, _ => by
      obtain ⟨u, a, v, r, dd⟩ := g0
      exact ⟨v, u, PySem.W.mg_of X G a, r, fun d e => by have e2 : some (glist.getD 0 .non) = some d := e; cases e2; exact dd⟩
    | 1, _ => by
      obtain ⟨u, a, v, r, dd⟩ := g1
      exact ⟨v, u, PySem.W.mg_of X G a, r, fun d e => by have e2 : some (glist.getD 1 .non) = some d := e; cases e2; exact dd⟩
    | 2, _ => by
      obtain ⟨u, a, v, r, dd⟩ := g2
      exact ⟨v, u, PySem.W.mg_of X G a, r, fun d e => by have e2 : some (glist.getD 2 .non) = some d := e; cases e2; exact dd⟩
    | 3, _ => by
      obtain ⟨u, a, v, r, dd⟩ := g3
      exact ⟨v, u, PySem.W.mg_of X G a, r, fun d e => by have e2 : some (glist.getD 3 .non) = some d := e; cases e2; exact dd⟩
    | 4, _ => by
      obtain ⟨u, a, v, r, dd⟩ := g4
      exact ⟨v, u, PySem.W.mg_of X G a, r, fun d e => by have e2 : some (glist.getD 4 .non) = some d := e; cases e2; exact dd⟩
    | 5, _ => by
      obtain ⟨u, a, v, r, dd⟩ := g5
      exact ⟨v, u, PySem.W.mg_of X G a, r, fun d e => by have e2 : some (glist.getD 5 .non) = some d := e; cases e2; exact dd⟩
    | 6, _ => by
      obtain ⟨u, a, v, r, dd⟩ := g6
      exact ⟨v, u, PySem.W.mg_of X G a, r, fun d e => by have e2 : some (glist.getD 6 .non) = some d := e; cases e2; exact dd⟩
    | 7, _ => by
      obtain ⟨u, a, v, r, dd⟩ := g7
      exact ⟨v, u, PySem.W.mg_of X G a, r, fun d e => by have e2 : some (glist.getD 7 .non) = some d := e; cases e2; exact dd⟩
    | 8, _ => by
      obtain ⟨u, a, v, r, dd⟩ := g8
      exact ⟨v, u, PySem.W.mg_of X G a, r, fun d e => by have e2 : some (glist.getD 8 .non) = some d := e; cases e2; exact dd⟩
    | 9, _ => by
      obtain ⟨u, a, v, r, dd⟩ := g9
      exact ⟨v, u, PySem.W.mg_of X G a, r, fun d e => by have e2 : some (glist.getD 9 .non) = some d := e; cases e2; exact dd⟩
    | 10, _ => by
      obtain ⟨u, a, v, r, dd⟩ := g10
      exact ⟨v, u, PySem.W.mg_of X G a, r, fun d e => by have e2 : some (glist.getD 10 .non) = some d := e; cases e2; exact dd⟩
    | 11, _ => by
      obtain ⟨u, a, v, r, dd⟩ := g11
      exact ⟨v, u, PySem.W.mg_of X G a, r, fun d e => by have e2 : some (glist.getD 11 .non) = some d := e; cases e2; exact dd⟩
    | 12, _ => by
      obtain ⟨u, a, v, r, dd⟩ := g12
      exact ⟨v, u, PySem.W.mg_of X G a, r, fun d e => by have e2 : some (glist.getD 12 .non) = some d := e; cases e2; exact dd⟩
    | n + 13, hg => by
      have : n + 13 < 13 := of_decide_eq_true hg
      omega
  blt := fun x hx => by
    simp only [bltNames, List.mem_cons, List.not_mem_nil, or_false] at hx
    rcases hx with rfl | rfl | rfl | rfl | rfl | rfl | rfl | rfl | rfl | rfl | rfl | rfl | rfl
    · exact PySem.W.mg_none_of X G z0
    · exact PySem.W.mg_none_of X G z1
    · exact PySem.W.mg_none_of X G z2
    · exact PySem.W.mg_none_of X G z3
    · exact PySem.W.mg_none_of X G z4
    · exact PySem.W.mg_none_of X G z5
    · exact PySem.W.mg_none_of X G z6
    · exact PySem.W.mg_none_of X G z7
    · exact PySem.W.mg_none_of X G z8
    · exact PySem.W.mg_none_of X G z9
    · exact PySem.W.mg_none_of X G z10
    · exact PySem.W.mg_none_of X G z11
    · exact PySem.W.mg_none_of X G z12
  ex := fun x hx => by
    obtain rfl : x = 1 := of_decide_eq_true hx
    exact ExF.ok X G e1
  sub := fun _ _ _ => ee
theorem all_mk {P : Program} {w : World} {K : PySem.W.Frag} {h : Heap} {mg : Str → Option Value} {fa : Addr} (X : K.In h) (G : h.Ns mainGlobals mg) (hfa : mg "law" = some (.ref fa)) {XA : Q.Exc → Addr} (T : Text P w ⟨K, w.params⟩ mg M XA Γ) (hl : FnF K "law" (st 60)) :
    ∃ fd : FuncData, (∀ (s : Shared) (u : Value), BindsTo s fd ⟨[u], []⟩ [("script", u)]) ∧ ∀ base : Heap, K.In base → base.Ns mainGlobals mg → FnOk P w K mg base (L2.CX P w) 60 fa fd ["script"] (spNo ⟨K, w.params⟩ (ev Γ 100 60 42)) := by
  obtain ⟨fb, oc, kV, dc, pm, cdv, ct, od, an, sl, a, l, c, k⟩ := hl
  have e := hfa.symm.trans (PySem.W.mg_of X G a)
  cases e
  refine ⟨PySem.W.fnOf "law" "law" (C8.fnArgs (st 60)) (C8.fnBody (st 60)) (C8.fnScope (st 60)) .none kV dc pm an cdv ct, fun s u => .of_eq rfl, fun base _ _ => ?_⟩
  exact (def_at (base := base) (wf := 100) T (def_ok T 59) (d := i_law) (N := n_law) (ps := ["script"]) (f := 42) rfl (def_mk X G rfl a l c k (fun _ _ _ _ _ _ us hl => match us, hl with | [_], _ => rfl) s_law rfl rfl m_law)).imp fun vs H Q E h => spNo_ev h
theorem fin_mk {P : Program} {w : World} {K : PySem.W.Frag} {h : Heap} {mg : Str → Option Value} {fa : Addr} (X : K.In h) (G : h.Ns mainGlobals mg) (hfa : mg "law" = some (.ref fa))
    (h0 : FnF K "is_whole" (st 17))
    (h1 : FnF K "is_label" (st 18))
    (h2 : FnF K "are_labels" (st 19))
    (h3 : FnF K "is_declared" (st 20))
    (h4 : FnF K "is_head" (st 21))
    (h5 : FnF K "told_of" (st 22))
    (h6 : FnF K "begun" (st 23))
    (h7 : FnF K "with_op" (st 24))
    (h8 : FnF K "shape_of" (st 25))
    (h9 : FnF K "is_view_step" (st 26))
    (h10 : FnF K "is_simple" (st 27))
    (h11 : FnF K "inner" (st 28))
    (h12 : FnF K "measured_item" (st 29))
    (h13 : FnF K "measured" (st 30))
    (h14 : FnF K "is_program" (st 31))
    (h15 : FnF K "need_program" (st 32))
    (h16 : FnF K "steps_in" (st 33))
    (h17 : FnF K "steps" (st 34))
    (h18 : FnF K "_law_deck" (st 36))
    (h19 : FnF K "_law_pick" (st 37))
    (h20 : FnF K "_law_one" (st 38))
    (h21 : FnF K "_law_head" (st 39))
    (h22 : FnF K "_law_list" (st 40))
    (h23 : FnF K "_law_source" (st 41))
    (h24 : FnF K "_law_with" (st 42))
    (h25 : FnF K "_law_is_label" (st 43))
    (h26 : FnF K "_law_shape" (st 44))
    (h27 : FnF K "_law_op" (st 45))
    (h28 : FnF K "_law_view" (st 46))
    (h29 : FnF K "_law_body" (st 47))
    (h30 : FnF K "_law_program" (st 48))
    (h31 : FnF K "_law_inner" (st 49))
    (h32 : FnF K "_law_rows" (st 50))
    (h33 : FnF K "_law_steps" (st 51))
    (h34 : FnF K "_law_labels" (st 52))
    (h35 : FnF K "_law_is_head" (st 53))
    (h36 : FnF K "_law_is_simple" (st 54))
    (h37 : FnF K "_law_size" (st 55))
    (h38 : FnF K "_law_is_program" (st 56))
    (h39 : FnF K "_law_odd" (st 57))
    (h40 : FnF K "_law_bent" (st 58))
    (h41 : FnF K "_law_told" (st 59))
    (h42 : FnF K "law" (st 60))
    (g0 : GlF K w.params "LETTERS" (glist.getD 0 .non))
    (g1 : GlF K w.params "KINDS" (glist.getD 1 .non))
    (g2 : GlF K w.params "HOWS" (glist.getD 2 .non))
    (g3 : GlF K w.params "CHANGES" (glist.getD 3 .non))
    (g4 : GlF K w.params "MOST_TABLES" (glist.getD 4 .non))
    (g5 : GlF K w.params "MOST_VIEWS" (glist.getD 5 .non))
    (g6 : GlF K w.params "MOST_STEPS" (glist.getD 6 .non))
    (g7 : GlF K w.params "MOST_ITEMS" (glist.getD 7 .non))
    (g8 : GlF K w.params "MOST_DEEP" (glist.getD 8 .non))
    (g9 : GlF K w.params "MOST_OPS" (glist.getD 9 .non))
    (g10 : GlF K w.params "MOST_SHORT" (glist.getD 10 .non))
    (g11 : GlF K w.params "PLAIN_OPS" (glist.getD 11 .non))
    (g12 : GlF K w.params "TEST_OPS" (glist.getD 12 .non))
    {C : Addr} (e1 : ExF K "InvalidProgram" C) (ee : PySem.W.exmOne K (.ref C) (.ref C) = some true)
    (z0 : PySem.W.nsIn K mainGlobals "len" = some none)
    (z1 : PySem.W.nsIn K mainGlobals "int" = some none)
    (z2 : PySem.W.nsIn K mainGlobals "all" = some none)
    (z3 : PySem.W.nsIn K mainGlobals "tuple" = some none)
    (z4 : PySem.W.nsIn K mainGlobals "list" = some none)
    (z5 : PySem.W.nsIn K mainGlobals "sorted" = some none)
    (z6 : PySem.W.nsIn K mainGlobals "min" = some none)
    (z7 : PySem.W.nsIn K mainGlobals "sum" = some none)
    (z8 : PySem.W.nsIn K mainGlobals "isinstance" = some none)
    (z9 : PySem.W.nsIn K mainGlobals "str" = some none)
    (z10 : PySem.W.nsIn K mainGlobals "bool" = some none)
    (z11 : PySem.W.nsIn K mainGlobals "zip" = some none)
    (z12 : PySem.W.nsIn K mainGlobals "range" = some none) :
    ∃ fd : FuncData, (∀ (s : Shared) (u : Value), BindsTo s fd ⟨[u], []⟩ [("script", u)]) ∧ ∀ base : Heap, K.In base → base.Ns mainGlobals mg → FnOk P w K mg base (L2.CX P w) 60 fa fd ["script"] (spNo ⟨K, w.params⟩ (ev Γ 100 60 42)) :=
  all_mk X G hfa (text_mk X G h0 h1 h2 h3 h4 h5 h6 h7 h8 h9 h10 h11 h12 h13 h14 h15 h16 h17 h18 h19 h20 h21 h22 h23 h24 h25 h26 h27 h28 h29 h30 h31 h32 h33 h34 h35 h36 h37 h38 h39 h40 h41 h42 g0 g1 g2 g3 g4 g5 g6 g7 g8 g9 g10 g11 g12 e1 ee z0 z1 z2 z3 z4 z5 z6 z7 z8 z9 z10 z11 z12) h42
end K01
end
section
set_option autoImplicit false
set_option maxRecDepth 100000
/-! # computing with the shallow side -/
namespace Sh
open PySem Q
theorem ofString_inj {a b : String} : Str.ofString a = Str.ofString b ↔ a = b := by
  constructor
  · intro h
    rw [Str.ofString_eq_toList, Str.ofString_eq_toList] at h
    injection h with h
    have h := congrArg Array.toList h
    simp only [] at h
    have inj : ∀ l m : List Char, l.map Char.toNat = m.map Char.toNat → l = m := by
      intro l
      induction l with
      | nil => intro m h; cases m with
        | nil => rfl
        | cons c r => cases h
      | cons c r ih => intro m h; cases m with
        | nil => cases h
        | cons d s =>
          injection h with h1 h2
          rw [ih s h2]
          have : c = d := by
            apply Char.ext
            apply UInt32.toNat_inj.mp
            exact h1
          rw [this]
    have := inj _ _ h
    exact String.toList_inj.mp this
  · intro h; rw [h]
@[simp] theorem ofString_eq (a b : String) : (Str.ofString a = Str.ofString b) = (a = b) := propext ofString_inj
@[simp] theorem ofString_beq (a b : String) : (Str.ofString a == Str.ofString b) = (a == b) := by
  rw [Bool.eq_iff_iff]
  simp
theorem canLay_lit (s : String) : (PyData.str (Str.ofString s)).canLay0 = true := by
  show (Str.ofString s).cps.all (· < 0x110000) = true
  rw [Str.ofString_eq_toList]
  simp only [List.all_toArray, List.all_map, List.all_eq_true]
  intro c _
  have : c.toNat < 0x110000 := by
    have := c.valid
    rcases this with h | h
    · show c.val.toNat < _
      have : c.val.toNat < 0xd800 := h
      omega
    · exact h.2
  simpa using this

/-! ### equality of data -/
def eqd (a b : D) : Bool := PyData.eqv a.dat b.dat
def eqds (a b : List D) : Bool := PyData.eqvAll (D.dats a) (D.dats b)
@[simp] theorem eqds_nil : eqds [] [] = true := Eq.trans rfl rfl
@[simp] theorem eqds_cons (a b : D) (r s : List D) : eqds (a :: r) (b :: s) = (eqd a b && eqds r s) := Eq.trans rfl rfl
@[simp] theorem eqds_nc (b : D) (s : List D) : eqds [] (b :: s) = false := Eq.trans rfl rfl
@[simp] theorem eqds_cn (b : D) (s : List D) : eqds (b :: s) [] = false := Eq.trans rfl rfl
@[simp] theorem eqd_non_non   : eqd .non .non = true := Eq.trans rfl rfl
@[simp] theorem eqd_non_bl  (c : Bool) : eqd .non (.bl c) = false := Eq.trans rfl rfl
@[simp] theorem eqd_non_int  (j : Int) : eqd .non (.int j) = false := Eq.trans rfl rfl
@[simp] theorem eqd_non_str  (y : PySem.Str) : eqd .non (.str y) = false := Eq.trans rfl rfl
@[simp] theorem eqd_non_tup  (ys : List D) : eqd .non (.tup ys) = false := Eq.trans rfl rfl
@[simp] theorem eqd_non_lst  (ys : List D) : eqd .non (.lst ys) = false := Eq.trans rfl rfl
@[simp] theorem eqd_bl_non (b : Bool)  : eqd (.bl b) .non = false := Eq.trans rfl rfl
@[simp] theorem eqd_bl_bl (b : Bool) (c : Bool) : eqd (.bl b) (.bl c) = (b == c) := Eq.trans rfl rfl
@[simp] theorem eqd_bl_int (b : Bool) (j : Int) : eqd (.bl b) (.int j) = ((if b then 1 else 0) == j) := Eq.trans rfl rfl
@[simp] theorem eqd_bl_str (b : Bool) (y : PySem.Str) : eqd (.bl b) (.str y) = false := Eq.trans rfl rfl
@[simp] theorem eqd_bl_tup (b : Bool) (ys : List D) : eqd (.bl b) (.tup ys) = false := Eq.trans rfl rfl
@[simp] theorem eqd_bl_lst (b : Bool) (ys : List D) : eqd (.bl b) (.lst ys) = false := Eq.trans rfl rfl
@[simp] theorem eqd_int_non (i : Int)  : eqd (.int i) .non = false := Eq.trans rfl rfl
@[simp] theorem eqd_int_bl (i : Int) (c : Bool) : eqd (.int i) (.bl c) = (i == (if c then 1 else 0)) := Eq.trans rfl rfl
@[simp] theorem eqd_int_int (i : Int) (j : Int) : eqd (.int i) (.int j) = (i == j) := Eq.trans rfl rfl
@[simp] theorem eqd_int_str (i : Int) (y : PySem.Str) : eqd (.int i) (.str y) = false := Eq.trans rfl rfl
@[simp] theorem eqd_int_tup (i : Int) (ys : List D) : eqd (.int i) (.tup ys) = false := Eq.trans rfl rfl
@[simp] theorem eqd_int_lst (i : Int) (ys : List D) : eqd (.int i) (.lst ys) = false := Eq.trans rfl rfl
@[simp] theorem eqd_str_non (x : PySem.Str)  : eqd (.str x) .non = false := Eq.trans rfl rfl
@[simp] theorem eqd_str_bl (x : PySem.Str) (c : Bool) : eqd (.str x) (.bl c) = false := Eq.trans rfl rfl
@[simp] theorem eqd_str_int (x : PySem.Str) (j : Int) : eqd (.str x) (.int j) = false := Eq.trans rfl rfl
@[simp] theorem eqd_str_str (x : PySem.Str) (y : PySem.Str) : eqd (.str x) (.str y) = (x == y) := Eq.trans rfl rfl
@[simp] theorem eqd_str_tup (x : PySem.Str) (ys : List D) : eqd (.str x) (.tup ys) = false := Eq.trans rfl rfl
@[simp] theorem eqd_str_lst (x : PySem.Str) (ys : List D) : eqd (.str x) (.lst ys) = false := Eq.trans rfl rfl
@[simp] theorem eqd_tup_non (xs : List D)  : eqd (.tup xs) .non = false := Eq.trans rfl rfl
@[simp] theorem eqd_tup_bl (xs : List D) (c : Bool) : eqd (.tup xs) (.bl c) = false := Eq.trans rfl rfl
@[simp] theorem eqd_tup_int (xs : List D) (j : Int) : eqd (.tup xs) (.int j) = false := Eq.trans rfl rfl
@[simp] theorem eqd_tup_str (xs : List D) (y : PySem.Str) : eqd (.tup xs) (.str y) = false := Eq.trans rfl rfl
@[simp] theorem eqd_tup_tup (xs : List D) (ys : List D) : eqd (.tup xs) (.tup ys) = eqds xs ys := Eq.trans rfl rfl
@[simp] theorem eqd_tup_lst (xs : List D) (ys : List D) : eqd (.tup xs) (.lst ys) = false := Eq.trans rfl rfl
@[simp] theorem eqd_lst_non (xs : List D)  : eqd (.lst xs) .non = false := Eq.trans rfl rfl
@[simp] theorem eqd_lst_bl (xs : List D) (c : Bool) : eqd (.lst xs) (.bl c) = false := Eq.trans rfl rfl
@[simp] theorem eqd_lst_int (xs : List D) (j : Int) : eqd (.lst xs) (.int j) = false := Eq.trans rfl rfl
@[simp] theorem eqd_lst_str (xs : List D) (y : PySem.Str) : eqd (.lst xs) (.str y) = false := Eq.trans rfl rfl
@[simp] theorem eqd_lst_tup (xs : List D) (ys : List D) : eqd (.lst xs) (.tup ys) = false := Eq.trans rfl rfl
@[simp] theorem eqd_lst_lst (xs : List D) (ys : List D) : eqd (.lst xs) (.lst ys) = eqds xs ys := Eq.trans rfl rfl
/-- == is defined -/
def shp (d : D) : Prop := SeqAt.shaped d.dat = true
@[simp] theorem shp_non : shp .non := Eq.trans rfl rfl
@[simp] theorem shp_bl (b : Bool) : shp (.bl b) := Eq.trans rfl rfl
@[simp] theorem shp_int (i : Int) : shp (.int i) := Eq.trans rfl rfl
@[simp] theorem shp_lit (s : String) : shp (.str (Str.ofString s)) := by
  unfold shp SeqAt.shaped
  rw [Bool.and_eq_true]
  exact ⟨canLay_lit s, rfl⟩
theorem eqD_shp {a b : D} (ha : shp a) (hb : shp b) : eqD a b = some (eqd a b) := if_pos ⟨ha, hb⟩
theorem cmp_eq {a b : D} (ha : shp a) (hb : shp b) : cmpD .eq a b = some (eqd a b) := eqD_shp ha hb
theorem cmp_ne {a b : D} (ha : shp a) (hb : shp b) : cmpD .ne a b = some (!eqd a b) := by
  show (eqD a b).map (!·) = _
  rw [eqD_shp ha hb]
  rfl
@[simp] theorem eq_int (i j : Int) : cmpD .eq (.int i) (.int j) = some (i == j) := cmp_eq rfl rfl
@[simp] theorem ne_int (i j : Int) : cmpD .ne (.int i) (.int j) = some (!(i == j)) := cmp_ne rfl rfl
@[simp] theorem le_int (i j : Int) : cmpD .le (.int i) (.int j) = some (decide (i ≤ j)) := Eq.trans rfl rfl
@[simp] theorem lt_int (i j : Int) : cmpD .lt (.int i) (.int j) = some (decide (i < j)) := Eq.trans rfl rfl
@[simp] theorem ge_int (i j : Int) : cmpD .ge (.int i) (.int j) = some (decide (j ≤ i)) := Eq.trans rfl rfl
@[simp] theorem gt_int (i j : Int) : cmpD .gt (.int i) (.int j) = some (decide (j < i)) := Eq.trans rfl rfl
@[simp] theorem is_non (a : D) : cmpD .isN a .non = some (isNon a) := Eq.trans rfl rfl
@[simp] theorem not_non (a : D) : cmpD .notN a .non = some (!isNon a) := Eq.trans rfl rfl
@[simp] theorem isNon_non : isNon .non = true := Eq.trans rfl rfl
@[simp] theorem isNon_tup (xs : List D) : isNon (.tup xs) = false := Eq.trans rfl rfl
@[simp] theorem isNon_lst (xs : List D) : isNon (.lst xs) = false := Eq.trans rfl rfl
@[simp] theorem isNon_bl (b : Bool) : isNon (.bl b) = false := Eq.trans rfl rfl
@[simp] theorem isNon_int (b : Int) : isNon (.int b) = false := Eq.trans rfl rfl
@[simp] theorem isNon_str (b : Str) : isNon (.str b) = false := Eq.trans rfl rfl
/-! ### tame values -/
mutual
/-- no dict, no long text, nothing longer than N -/
def okN (N : Nat) : D → Bool
  | .str x => decide (x.length ≤ 1000) && x.cps.all (· < 0x110000)
  | .tup ds => decide (ds.length ≤ N) && okNs N ds
  | .lst ds => decide (ds.length ≤ N) && okNs N ds
  | .dct _ _ => false
  | _ => true
def okNs (N : Nat) : List D → Bool
  | [] => true
  | d :: r => okN N d && okNs N r
end
abbrev okD := okN 5000
mutual
def dep : D → Nat
  | .tup ds => deps ds + 1
  | .lst ds => deps ds + 1
  | _ => 0
def deps : List D → Nat
  | [] => 0
  | d :: r => max (dep d) (deps r)
end
structure tmN (N k : Nat) (d : D) : Prop where
  ok : okN N d = true
  de : dep d ≤ k
abbrev tm (k : Nat) (d : D) : Prop := tmN 5000 k d
abbrev tq (k : Nat) (d : D) : Prop := tmN 100 k d
theorem okNs_mem {N : Nat} {ds : List D} (h : okNs N ds = true) : ∀ d ∈ ds, okN N d = true := by
  induction ds with
  | nil => intro d hd; cases hd
  | cons a r ih =>
    unfold okNs at h
    rw [Bool.and_eq_true] at h
    intro d hd
    cases hd with
    | head => exact h.1
    | tail _ hd => exact ih h.2 d hd
theorem okNs_of {N : Nat} {ds : List D} (h : ∀ d ∈ ds, okN N d = true) : okNs N ds = true := by
  induction ds with
  | nil => rfl
  | cons a r ih =>
    unfold okNs
    rw [h a (.head _), ih fun d hd => h d (.tail _ hd)]
    rfl
theorem deps_mem {ds : List D} : ∀ d ∈ ds, dep d ≤ deps ds := by
  induction ds with
  | nil => intro d hd; cases hd
  | cons a r ih =>
    intro d hd
    show _ ≤ max (dep a) (deps r)
    cases hd with
    | head => exact Nat.le_max_left _ _
    | tail _ hd => exact Nat.le_trans (ih d hd) (Nat.le_max_right _ _)
theorem deps_of {ds : List D} {k : Nat} (h : ∀ d ∈ ds, dep d ≤ k) : deps ds ≤ k := by
  induction ds with
  | nil => exact Nat.zero_le _
  | cons a r ih =>
    show max (dep a) (deps r) ≤ k
    exact Nat.max_le.mpr ⟨h a (.head _), ih fun d hd => h d (.tail _ hd)⟩
theorem tmN.tup {N k : Nat} {ds : List D} (h : tmN N k (.tup ds)) : ∀ d ∈ ds, tmN N (k - 1) d := fun d hd => by
  have h1 : (decide (ds.length ≤ N) && okNs N ds) = true := h.ok
  rw [Bool.and_eq_true] at h1
  have h2 : deps ds + 1 ≤ k := h.de
  exact ⟨okNs_mem h1.2 d hd, by have := deps_mem d hd; omega⟩
theorem tmN.lst {N k : Nat} {ds : List D} (h : tmN N k (.lst ds)) : ∀ d ∈ ds, tmN N (k - 1) d := fun d hd => tmN.tup (ds := ds) ⟨h.ok, h.de⟩ d hd
theorem tmN.len {N k : Nat} {ds : List D} (h : tmN N k (.tup ds)) : ds.length ≤ N := by
  have h1 : (decide (ds.length ≤ N) && okNs N ds) = true := h.ok
  rw [Bool.and_eq_true, decide_eq_true_eq] at h1
  exact h1.1
theorem tmN.lenL {N k : Nat} {ds : List D} (h : tmN N k (.lst ds)) : ds.length ≤ N := tmN.len (ds := ds) ⟨h.ok, h.de⟩
theorem tmN.strl {N k : Nat} {x : Str} (h : tmN N k (.str x)) : x.length ≤ 1000 := by
  have h1 : (decide (x.length ≤ 1000) && x.cps.all (· < 0x110000)) = true := h.ok
  rw [Bool.and_eq_true, decide_eq_true_eq] at h1
  exact h1.1
theorem tmN.mono {N k l : Nat} {d : D} (h : tmN N k d) (q : k ≤ l) : tmN N l d := ⟨h.ok, Nat.le_trans h.de q⟩
theorem tmN.nod {N k : Nat} {ks : List Str} {ds : List D} (h : tmN N k (.dct ks ds)) : False := by cases h.ok
theorem tmN.of_tup {N k : Nat} {ds : List D} (hl : ds.length ≤ N) (h : ∀ d ∈ ds, tmN N k d) : tmN N (k + 1) (.tup ds) := ⟨by
  show (decide (ds.length ≤ N) && okNs N ds) = true
  rw [Bool.and_eq_true, decide_eq_true_eq]
  exact ⟨hl, okNs_of fun d hd => (h d hd).ok⟩, Nat.succ_le_succ (deps_of fun d hd => (h d hd).de)⟩
theorem tmN.of_lst {N k : Nat} {ds : List D} (hl : ds.length ≤ N) (h : ∀ d ∈ ds, tmN N k d) : tmN N (k + 1) (.lst ds) := ⟨(tmN.of_tup hl h).ok, (tmN.of_tup hl h).de⟩
mutual
theorem ok_lay {N : Nat} : ∀ d : D, okN N d = true → d.dat.canLay0 = true ∧ d.dat.depth = dep d
  | .non, _ => ⟨rfl, rfl⟩
  | .bl _, _ => ⟨rfl, rfl⟩
  | .int _, _ => ⟨rfl, rfl⟩
  | .str x, h => by
    have h1 : (decide (x.length ≤ 1000) && x.cps.all (· < 0x110000)) = true := h
    rw [Bool.and_eq_true] at h1
    exact ⟨h1.2, rfl⟩
  | .tup ds, h => by
    have h1 : (decide (ds.length ≤ N) && okNs N ds) = true := h
    rw [Bool.and_eq_true] at h1
    obtain ⟨h2, h3⟩ := oks_lay ds h1.2
    exact ⟨h2, congrArg (· + 1) h3⟩
  | .lst ds, h => by
    have h1 : (decide (ds.length ≤ N) && okNs N ds) = true := h
    rw [Bool.and_eq_true] at h1
    obtain ⟨h2, h3⟩ := oks_lay ds h1.2
    exact ⟨h2, congrArg (· + 1) h3⟩
  | .dct _ _, h => by cases h
theorem oks_lay {N : Nat} : ∀ ds : List D, okNs N ds = true → PyData.canLayAll0 (D.dats ds) = true ∧ PyData.depthAll (D.dats ds) = deps ds
  | [], _ => ⟨rfl, rfl⟩
  | d :: r, h => by
    have h1 : (okN N d && okNs N r) = true := h
    rw [Bool.and_eq_true] at h1
    obtain ⟨h2, h3⟩ := ok_lay d h1.1
    obtain ⟨h4, h5⟩ := oks_lay r h1.2
    exact ⟨by show (d.dat.canLay0 && PyData.canLayAll0 (D.dats r)) = true; rw [h2, h4]; rfl, by show max d.dat.depth (PyData.depthAll (D.dats r)) = max (dep d) (deps r); rw [h3, h5]⟩
end
theorem tmN.shp {N k : Nat} {d : D} (h : tmN N k d) (hk : k ≤ 64) : shp d := by
  obtain ⟨h1, h2⟩ := ok_lay d h.ok
  show SeqAt.shaped d.dat = true
  unfold SeqAt.shaped
  rw [Bool.and_eq_true, decide_eq_true_eq]
  exact ⟨h1, by rw [h2]; exact Nat.le_trans h.de hk⟩
theorem tm_lit {N : Nat} (k : Nat) (s : String) (h : (Str.ofString s).length ≤ 1000) : tmN N k (.str (Str.ofString s)) := ⟨by
  show (decide _ && _) = true
  rw [Bool.and_eq_true, decide_eq_true_eq]
  exact ⟨h, canLay_lit s⟩, Nat.zero_le _⟩
theorem tm_non {N : Nat} (k : Nat) : tmN N k .non := ⟨rfl, Nat.zero_le _⟩
theorem tm_bl {N : Nat} (k : Nat) (b : Bool) : tmN N k (.bl b) := ⟨rfl, Nat.zero_le _⟩
theorem tm_int {N : Nat} (k : Nat) (i : Int) : tmN N k (.int i) := ⟨rfl, Nat.zero_le _⟩
theorem sz {n : Nat} (h : n ≤ 5000) : n ≤ sizeLine := Nat.le_trans h (by decide +kernel)
/-! ### the primitives -/
@[simp] theorem ty_int_non  : tyD .int .non = some false := Eq.trans rfl rfl
@[simp] theorem ty_int_bl (b : Bool) : tyD .int (.bl b) = some true := Eq.trans rfl rfl
@[simp] theorem ty_int_int (i : Int) : tyD .int (.int i) = some true := Eq.trans rfl rfl
@[simp] theorem ty_int_str (x : Str) : tyD .int (.str x) = some false := Eq.trans rfl rfl
@[simp] theorem ty_int_tup (xs : List D) : tyD .int (.tup xs) = some false := Eq.trans rfl rfl
@[simp] theorem ty_int_lst (xs : List D) : tyD .int (.lst xs) = some false := Eq.trans rfl rfl
@[simp] theorem ty_str_non  : tyD .str .non = some false := Eq.trans rfl rfl
@[simp] theorem ty_str_bl (b : Bool) : tyD .str (.bl b) = some false := Eq.trans rfl rfl
@[simp] theorem ty_str_int (i : Int) : tyD .str (.int i) = some false := Eq.trans rfl rfl
@[simp] theorem ty_str_str (x : Str) : tyD .str (.str x) = some true := Eq.trans rfl rfl
@[simp] theorem ty_str_tup (xs : List D) : tyD .str (.tup xs) = some false := Eq.trans rfl rfl
@[simp] theorem ty_str_lst (xs : List D) : tyD .str (.lst xs) = some false := Eq.trans rfl rfl
@[simp] theorem ty_bool_non  : tyD .bool .non = some false := Eq.trans rfl rfl
@[simp] theorem ty_bool_bl (b : Bool) : tyD .bool (.bl b) = some true := Eq.trans rfl rfl
@[simp] theorem ty_bool_int (i : Int) : tyD .bool (.int i) = some false := Eq.trans rfl rfl
@[simp] theorem ty_bool_str (x : Str) : tyD .bool (.str x) = some false := Eq.trans rfl rfl
@[simp] theorem ty_bool_tup (xs : List D) : tyD .bool (.tup xs) = some false := Eq.trans rfl rfl
@[simp] theorem ty_bool_lst (xs : List D) : tyD .bool (.lst xs) = some false := Eq.trans rfl rfl
@[simp] theorem ty_tuple_non  : tyD .tuple .non = some false := Eq.trans rfl rfl
@[simp] theorem ty_tuple_bl (b : Bool) : tyD .tuple (.bl b) = some false := Eq.trans rfl rfl
@[simp] theorem ty_tuple_int (i : Int) : tyD .tuple (.int i) = some false := Eq.trans rfl rfl
@[simp] theorem ty_tuple_str (x : Str) : tyD .tuple (.str x) = some false := Eq.trans rfl rfl
@[simp] theorem ty_tuple_tup (xs : List D) : tyD .tuple (.tup xs) = some true := Eq.trans rfl rfl
@[simp] theorem ty_tuple_lst (xs : List D) : tyD .tuple (.lst xs) = some false := Eq.trans rfl rfl
@[simp] theorem ty_list_non  : tyD .list .non = some false := Eq.trans rfl rfl
@[simp] theorem ty_list_bl (b : Bool) : tyD .list (.bl b) = some false := Eq.trans rfl rfl
@[simp] theorem ty_list_int (i : Int) : tyD .list (.int i) = some false := Eq.trans rfl rfl
@[simp] theorem ty_list_str (x : Str) : tyD .list (.str x) = some false := Eq.trans rfl rfl
@[simp] theorem ty_list_tup (xs : List D) : tyD .list (.tup xs) = some false := Eq.trans rfl rfl
@[simp] theorem ty_list_lst (xs : List D) : tyD .list (.lst xs) = some true := Eq.trans rfl rfl
@[simp] theorem pure_B (b : Bool) : M.pure b = pB b := Eq.trans rfl rfl
@[simp] theorem pure_V (d : D) : M.pure (W.v d) = pV d := Eq.trans rfl rfl
@[simp] theorem M_pure_pV (d : D) : M.bind (M.pure d) (fun d => pV d) = pV d := Eq.trans rfl rfl
@[simp] theorem ofO_sB (b : Bool) : M.ofO (some b) = pB b := Eq.trans rfl rfl
@[simp] theorem blt1 (f : Blt) (d : D) : bltM f [pV d] = M.bind (M.ofO (bltD f [d])) fun d => pV d := Eq.trans rfl rfl
@[simp] theorem blt2 (f : Blt) (d e : D) : bltM f [pV d, pV e] = M.bind (M.ofO (bltD f [d, e])) fun d => pV d := Eq.trans rfl rfl
@[simp] theorem len_tup (xs : List D) : bltD .len [.tup xs] = some (.int xs.length) := Eq.trans rfl rfl
@[simp] theorem len_lst (xs : List D) : bltD .len [.lst xs] = some (.int xs.length) := Eq.trans rfl rfl
theorem len_str {x : Str} (h : x.length ≤ 1000) : bltD .len [.str x] = some (.int x.length) := by
  have e : lenD (.str x) = some x.length := if_pos (sz (by omega))
  simp only [bltD, e]
  rfl
@[simp] theorem int_int (i : Int) : bltD .int [.int i] = some (.int i) := Eq.trans rfl rfl
@[simp] theorem int_bl (b : Bool) : bltD .int [.bl b] = some (.int (if b then 1 else 0)) := Eq.trans rfl rfl
@[simp] theorem tuple_lst (xs : List D) : bltD .tuple [.lst xs] = some (.tup xs) := Eq.trans rfl rfl
@[simp] theorem tuple_tup (xs : List D) : bltD .tuple [.tup xs] = some (.tup xs) := Eq.trans rfl rfl
@[simp] theorem list_tup (xs : List D) : bltD .list [.tup xs] = some (.lst xs) := Eq.trans rfl rfl
theorem allB_map {α : Type} (g : α → Bool) : ∀ l : List α, allB (l.map fun a => .bl (g a)) = some (l.all g)
  | [] => rfl
  | a :: r => by
    show (allB (r.map fun a => .bl (g a))).map (g a && ·) = _
    rw [allB_map g r]
    rfl
@[simp] theorem all_map {α : Type} (g : α → Bool) (l : List α) : bltD .all [.lst (l.map fun a => .bl (g a))] = some (.bl (l.all g)) := by
  show (allB _).map _ = _
  rw [allB_map]
  rfl
@[simp] theorem walk_tup (xs : List D) : walkD (.tup xs) = some xs := Eq.trans rfl rfl
@[simp] theorem walk_lst (xs : List D) : walkD (.lst xs) = some xs := Eq.trans rfl rfl
theorem walk_str {z : Str} (h : z.length ≤ 1000) : walkD (.str z) = some (z.cps.toList.map fun c => .str ⟨#[c]⟩) := if_pos (sz (by omega))
@[simp] theorem tst_ite {p : Prop} [Decidable p] (a b : M W) : tst (if p then a else b) = if p then tst a else tst b := by split <;> rfl
/-! indexing -/
theorem idx_at {xs : List D} {i : Nat} {d : D} (h : xs[i]? = some d) : idxD (.tup xs) (.int (i : Int)) = some d := by
  obtain ⟨h1, h2⟩ := List.getElem?_eq_some_iff.mp h
  show L2.atI xs i = _
  unfold L2.atI L2.ixN
  rw [if_pos (by omega), if_pos (by omega)]
  simpa using h
theorem idxL_at {xs : List D} {i : Nat} {d : D} (h : xs[i]? = some d) : idxD (.lst xs) (.int (i : Int)) = some d := idx_at h
@[simp] theorem idx_0 (a : D) (r : List D) : idxD (.tup (a :: r)) (.int 0) = some a := idx_at (i := 0) rfl
@[simp] theorem idx_1 (a b : D) (r : List D) : idxD (.tup (a :: b :: r)) (.int 1) = some b := idx_at (i := 1) rfl
@[simp] theorem idx_2 (a b c : D) (r : List D) : idxD (.tup (a :: b :: c :: r)) (.int 2) = some c := idx_at (i := 2) rfl
@[simp] theorem idx_3 (a b c d : D) (r : List D) : idxD (.tup (a :: b :: c :: d :: r)) (.int 3) = some d := idx_at (i := 3) rfl
@[simp] theorem idx_4 (a b c d e : D) (r : List D) : idxD (.tup (a :: b :: c :: d :: e :: r)) (.int 4) = some e := idx_at (i := 4) rfl
@[simp] theorem idxL_0 (a : D) (r : List D) : idxD (.lst (a :: r)) (.int 0) = some a := idxL_at (i := 0) rfl
@[simp] theorem oN_eq : oN = M.pure none := Eq.trans rfl rfl
@[simp] theorem slcM_v (a : D) (l h : Option Int) : slcM (pV a) (M.pure l) (M.pure h) = M.bind (M.ofO (slcD a l h)) fun d => pV d := Eq.trans rfl rfl
theorem cut_from (ds : List D) (k : Nat) : cutD ds (some (k : Int)) none = ds.drop k := by
  unfold cutD
  rw [HT.sIx_nat, HT.sIx_none]
  by_cases h : k ≤ ds.length
  · rw [Nat.min_eq_left h, List.take_of_length_le (by simp)]
  · rw [Nat.min_eq_right (by omega), List.drop_length, List.drop_of_length_le (by omega)]
    simp
theorem cut_to (ds : List D) (k : Nat) : cutD ds none (some (k : Int)) = ds.take k := by
  unfold cutD
  rw [HT.sIx_nat, HT.sIx_none]
  simp
theorem cut_mid (ds : List D) (k l : Nat) : cutD ds (some (k : Int)) (some (l : Int)) = (ds.drop k).take (l - k) := by
  unfold cutD
  rw [HT.sIx_nat, HT.sIx_nat]
  by_cases h : k ≤ ds.length
  · rw [Nat.min_eq_left h]
    by_cases h2 : l ≤ ds.length
    · rw [Nat.min_eq_left h2]
    · rw [Nat.min_eq_right (a := l) (by omega)]
      rw [List.take_of_length_le (by simp), List.take_of_length_le (by simp; omega)]
  · rw [Nat.min_eq_right (a := k) (by omega), List.drop_length, List.drop_of_length_le (by omega)]
    simp
@[simp] theorem slc_1 (ds : List D) : slcD (.tup ds) (some 1) none = some (.tup (ds.drop 1)) := congrArg (fun z => some (D.tup z)) (cut_from ds 1)
@[simp] theorem slc_2 (ds : List D) : slcD (.tup ds) (some 2) none = some (.tup (ds.drop 2)) := congrArg (fun z => some (D.tup z)) (cut_from ds 2)
@[simp] theorem slc_t2 (ds : List D) : slcD (.tup ds) none (some 2) = some (.tup (ds.take 2)) := congrArg (fun z => some (D.tup z)) (cut_to ds 2)
@[simp] theorem slc_13 (ds : List D) : slcD (.tup ds) (some 1) (some 3) = some (.tup ((ds.drop 1).take 2)) := congrArg (fun z => some (D.tup z)) (cut_mid ds 1 3)
/-! displays -/
theorem szM_ok {ds : List D} {m : M W} (h : ds.length ≤ 5000) : szM ds m = m := if_pos (sz h)
@[simp] theorem tupM_nil : tupM [] = pV (.tup []) := by
  unfold tupM
  rw [valsM_nil, M.pure_bind, szM_ok (by simp)]
@[simp] theorem lstM_nil : lstM [] = pV (.lst []) := by
  unfold lstM
  rw [valsM_nil, M.pure_bind, szM_ok (by simp)]
@[simp] theorem tupM1 (a : D) : tupM [pV a] = pV (.tup [a]) := by
  simp only [tupM, valsM_cons, valsM_nil, M.pure_bind]; exact szM_ok (by simp)
@[simp] theorem tupM2 (a b : D) : tupM [pV a, pV b] = pV (.tup [a, b]) := by
  simp only [tupM, valsM_cons, valsM_nil, M.pure_bind]; exact szM_ok (by simp)
@[simp] theorem tupM3 (a b c : D) : tupM [pV a, pV b, pV c] = pV (.tup [a, b, c]) := by
  simp only [tupM, valsM_cons, valsM_nil, M.pure_bind]; exact szM_ok (by simp)
@[simp] theorem tupM4 (a b c d : D) : tupM [pV a, pV b, pV c, pV d] = pV (.tup [a, b, c, d]) := by
  simp only [tupM, valsM_cons, valsM_nil, M.pure_bind]; exact szM_ok (by simp)
@[simp] theorem tupM5 (a b c d e : D) : tupM [pV a, pV b, pV c, pV d, pV e] = pV (.tup [a, b, c, d, e]) := by
  simp only [tupM, valsM_cons, valsM_nil, M.pure_bind]; exact szM_ok (by simp)
/-! comprehensions -/
theorem mapC_pure {f : D → M (List D)} {g : D → List D} : ∀ {ds : List D}, (∀ d ∈ ds, f d = M.pure (g d)) → mapC f ds = M.pure (ds.flatMap g)
  | [], _ => rfl
  | d :: r, h => by
    funext c
    show (noExc (f d c)).bind _ = _
    rw [h d (.head _)]
    show (mapC f r c).bind _ = _
    rw [mapC_pure (ds := r) fun d hd => h d (.tail _ hd)]
    rfl
theorem flatMap_one {α β : Type} (g : α → β) (l : List α) : l.flatMap (fun d => [g d]) = l.map g := by
  induction l with
  | nil => rfl
  | cons a r ih => rw [List.flatMap_cons, ih]; rfl
theorem lc_map {xs : List D} {it : M (List D)} {e : D → M W} {g : D → D} (hi : it = M.pure xs) (hl : xs.length ≤ 5000) (h : ∀ d ∈ xs, e d = pV (g d)) : lcM false it (fun _ => pB true) e = pV (.lst (xs.map g)) := by
  unfold lcM
  rw [hi, M.pure_bind, mapC_pure (g := fun d => [g d]) (fun d hd => by rw [h d hd]; rfl), M.pure_bind, flatMap_one]
  funext c
  exact if_pos (by rw [List.length_map]; exact sz hl)
theorem lc_filter {xs : List D} {it : M (List D)} {t : D → M Bool} {e : D → M W} {p : D → Bool} {g : D → D} (hi : it = M.pure xs) (hl : xs.length ≤ 5000) (ht : ∀ d ∈ xs, t d = pB (p d)) (h : ∀ d ∈ xs, p d = true → e d = pV (g d)) : lcM false it t e = pV (.lst ((xs.filter p).map g)) := by
  have fm : ∀ l : List D, l.flatMap (fun d => if p d = true then [g d] else []) = (l.filter p).map g := by
    intro l
    induction l with
    | nil => rfl
    | cons d r ih =>
      rw [List.flatMap_cons, ih, List.filter_cons]
      cases p d <;> rfl
  unfold lcM
  rw [hi, M.pure_bind, mapC_pure (g := fun d => if p d = true then [g d] else []) (fun d hd => by
    rw [ht d hd]
    cases q : p d with
    | false => rfl
    | true => rw [h d hd q]; rfl), M.pure_bind, fm]
  funext c
  exact if_pos (by rw [List.length_map]; exact Nat.le_trans (List.length_filter_le _ _) (sz hl))
theorem lc_zip {xs ys : List D} {it : M (List D)} {e : D → D → M W} {g : D → D → D} (hi : it = M.pure (zipD xs ys)) (hl : xs.length ≤ 5000) (h : ∀ p ∈ xs.zip ys, e p.1 p.2 = pV (g p.1 p.2)) : lcM false it (pair fun _ _ => pB true) (pair e) = pV (.lst ((xs.zip ys).map fun p => g p.1 p.2)) := by
  have fm : ∀ l : List (D × D), (l.map fun p => D.tup [p.1, p.2]).flatMap (fun d => match d with | .tup [x, y] => [g x y] | _ => []) = l.map fun p => g p.1 p.2 := by
    intro l
    induction l with
    | nil => rfl
    | cons p r ih => rw [List.map_cons, List.flatMap_cons, ih]; rfl
  unfold lcM
  rw [hi, M.pure_bind, mapC_pure (g := fun d => match d with | .tup [x, y] => [g x y] | _ => []) (fun d hd => by
    unfold zipD at hd
    rw [List.mem_map] at hd
    obtain ⟨p, hp, rfl⟩ := hd
    show one1 (pB true) (e p.1 p.2) = _
    rw [h p hp]
    rfl), M.pure_bind]
  unfold zipD
  rw [fm]
  funext c
  exact if_pos (by rw [List.length_map, List.length_zip]; exact Nat.le_trans (Nat.min_le_left _ _) (sz hl))
end Sh
/-! ### loops -/
namespace Sh
open PySem Q
def stMap {σ τ : Type} (enc : τ → σ) : St τ → St σ
  | .nxt t => .nxt (enc t)
  | .ret w => .ret w
/-- a loop without effects -/
def loopS {τ : Type} (step : τ → D → St τ) : List D → τ → St τ
  | [], t => .nxt t
  | d :: r, t => match step t d with
    | .nxt t => loopS step r t
    | .ret w => .ret w
theorem loop_pure {σ τ : Type} {f : σ → D → M (St σ)} (enc : τ → σ) (step : τ → D → St τ) (P : Nat → τ → Prop) (n : Nat) : ∀ (xs : List D) (i : Nat) (t : τ), i + xs.length ≤ n → P i t →
    (∀ i t d, i < n → P i t → d ∈ xs → f (enc t) d = M.pure (stMap enc (step t d)) ∧ ∀ t', step t d = .nxt t' → P (i + 1) t') → loopL f xs (enc t) = M.pure (stMap enc (loopS step xs t))
  | [], i, t, _, _, _ => rfl
  | d :: r, i, t, hn, p, h => by
    rw [List.length_cons] at hn
    obtain ⟨h1, h2⟩ := h i t d (by omega) p (.head _)
    unfold loopL loopS
    rw [h1]
    rw [M.pure_bind]
    cases e : step t d with
    | nxt t' =>
      simp only [stMap]
      exact loop_pure enc step P n r (i + 1) t' (by omega) (h2 t' e) fun i t d hi p hd => h i t d hi p (.tail _ hd)
    | ret w => rfl
theorem loop_inv {τ : Type} (step : τ → D → St τ) (P : Nat → τ → Prop) (n : Nat) : ∀ (xs : List D) (i : Nat) (t : τ), i + xs.length ≤ n → P i t →
    (∀ i t d, i < n → P i t → d ∈ xs → ∀ t', step t d = .nxt t' → P (i + 1) t') → ∀ t', loopS step xs t = .nxt t' → P (i + xs.length) t'
  | [], i, t, _, p, _, t', e => by cases e; exact p
  | d :: r, i, t, hn, p, h, t', e => by
    rw [List.length_cons] at hn ⊢
    unfold loopS at e
    cases q : step t d with
    | nxt t2 =>
      rw [q] at e
      have := loop_inv step P n r (i + 1) t2 (by omega) (h i t d (by omega) p (.head _) t2 q) (fun i t d hi p hd => h i t d hi p (.tail _ hd)) t' e
      have e2 : i + (r.length + 1) = i + 1 + r.length := by omega
      rw [e2]
      exact this
    | ret w => rw [q] at e; cases e
theorem forM_pure {σ τ β : Type} {rt : W → M β} {it : M (List D)} {s : σ} {f : σ → D → M (St σ)} {k : σ → M β} {xs : List D} (enc : τ → σ) (step : τ → D → St τ) (P : Nat → τ → Prop) (t : τ) (hi : it = M.pure xs) (hs : s = enc t) (p : P 0 t)
    (h : ∀ i t d, i < xs.length → P i t → d ∈ xs → f (enc t) d = M.pure (stMap enc (step t d)) ∧ ∀ t', step t d = .nxt t' → P (i + 1) t') : Q.forM rt it s f k = match loopS step xs t with
    | .nxt t => k (enc t)
    | .ret w => rt w := by
  unfold Q.forM
  rw [hi, M.pure_bind, hs, loop_pure enc step P xs.length xs 0 t (by omega) p h, M.pure_bind]
  cases loopS step xs t <;> rfl
theorem pN_def {σ : Type} (s : σ) : (pN s : M (St σ)) = M.pure (.nxt s) := rfl
theorem pR_def {σ : Type} (w : W) : (pR w : M (St σ)) = M.pure (.ret w) := rfl
def optD : Option D → D
  | some d => d
  | none => .non
@[simp] theorem optD_some (d : D) : optD (some d) = d := Eq.trans rfl rfl
@[simp] theorem optD_none : optD none = .non := Eq.trans rfl rfl
@[simp] theorem joinM_nxt {σ β : Type} (rt : W → M β) (s : σ) (k : σ → M β) : joinM rt (pN s) k = k s := Eq.trans rfl rfl
@[simp] theorem joinM_ret {σ β : Type} (rt : W → M β) (w : W) (k : σ → M β) : joinM rt (pR w) k = rt w := Eq.trans rfl rfl
@[simp] theorem joinM_ite {σ β : Type} {p : Prop} [Decidable p] (rt : W → M β) (a b : M (St σ)) (k : σ → M β) : joinM rt (if p then a else b) k = if p then joinM rt a k else joinM rt b k := by split <;> rfl
theorem eqds_stl : ∀ a b : List Str, eqds (a.map .str) (b.map .str) = (a == b)
  | [], [] => rfl
  | [], b :: s => rfl
  | a :: r, [] => rfl
  | a :: r, b :: s => by
    show (eqd (.str a) (.str b) && eqds (r.map .str) (s.map .str)) = _
    rw [eqds_stl r s]
    rfl
theorem ne_nilL {xs : List D} (h : shp (.lst xs)) : cmpD .ne (.lst xs) (.lst []) = some (!xs.isEmpty) := by
  rw [cmp_ne h (show shp (.lst []) by rfl)]
  cases xs <;> rfl
theorem eq_nilL {xs : List D} (h : shp (.lst xs)) : cmpD .eq (.lst xs) (.lst []) = some xs.isEmpty := by
  rw [cmp_eq h (show shp (.lst []) by rfl)]
  cases xs <;> rfl
theorem eq_nilT {xs : List D} (h : shp (.tup xs)) : cmpD .eq (.tup xs) (.tup []) = some xs.isEmpty := by
  rw [cmp_eq h (show shp (.tup []) by rfl)]
  cases xs <;> rfl
theorem ne_nilT {xs : List D} (h : shp (.tup xs)) : cmpD .ne (.tup xs) (.tup []) = some (!xs.isEmpty) := by
  rw [cmp_ne h (show shp (.tup []) by rfl)]
  cases xs <;> rfl
/-- sorted texts -/
def sortS (l : List Str) : List Str := l.mergeSort fun a b => PySem.W.dataLe false D.dat (.str a) (.str b)
theorem sorted_stl (l : List Str) (h : ∀ x ∈ l, shp (.str x)) (hl : l.length ≤ 5000) : bltD .sorted [.tup (l.map .str)] = some (.lst ((sortS l).map .str)) := by
  have ok : okSort (l.map .str) = true := by
    unfold okSort
    simp only [Bool.and_eq_true, decide_eq_true_eq, List.all_eq_true, List.mem_map, Bool.or_eq_true]
    refine ⟨⟨⟨?_, ?_⟩, ?_⟩, .inr ?_⟩
    · rintro _ ⟨x, hx, rfl⟩ _ ⟨y, hy, rfl⟩
      rfl
    · rw [List.length_map]; exact sz hl
    · rintro _ ⟨x, hx, rfl⟩
      exact h x hx
    · rintro _ ⟨x, hx, rfl⟩
      rfl
  show (sortD (l.map .str)).map D.lst = _
  unfold sortD
  rw [if_pos ok]
  unfold sortS
  rw [List.map_mergeSort (s := PySem.W.dataLe false D.dat) (fun a _ b _ => rfl)]
  rfl
theorem sortS_mem {l : List Str} {x : Str} : x ∈ sortS l ↔ x ∈ l := List.mem_mergeSort
theorem sortS_len (l : List Str) : (sortS l).length = l.length := List.length_mergeSort _
theorem add_tup {xs ys : List D} (h : xs.length + ys.length ≤ 20000) : opD .add (.tup xs) (.tup ys) = some (.tup (xs ++ ys)) := if_pos (Nat.le_trans h (by decide +kernel))
theorem add_lst {xs ys : List D} (h : xs.length + ys.length ≤ 20000) : opD .add (.lst xs) (.lst ys) = some (.lst (xs ++ ys)) := if_pos (Nat.le_trans h (by decide +kernel))
@[simp] theorem add_int (i j : Int) : opD .add (.int i) (.int j) = some (.int (i + j)) := Eq.trans rfl rfl
@[simp] theorem sub_int (i j : Int) : opD .sub (.int i) (.int j) = some (.int (i - j)) := Eq.trans rfl rfl
end Sh
namespace Sh
open PySem Q
theorem lc_filter0 {xs : List D} {it : M (List D)} {t : D → M Bool} {p : D → Bool} (hi : it = M.pure xs) (hl : xs.length ≤ 5000) (ht : ∀ d ∈ xs, t d = pB (p d)) : lcM false it t (fun d => pV d) = pV (.lst (xs.filter p)) := by
  have := lc_filter (e := fun d => pV d) (g := id) hi hl ht (fun d _ _ => rfl)
  rw [List.map_id] at this
  exact this
theorem tmN.shs {N k : Nat} {x : Str} (h : tmN N k (D.str x)) : Sh.shp (D.str x) := (show tmN N 0 (D.str x) from ⟨h.ok, Nat.zero_le _⟩).shp (by omega)
/-- a text is tame whatever else is -/
theorem tmN.str0 {N M k l : Nat} {x : Str} (h : tmN N k (D.str x)) : tmN M l (D.str x) := ⟨h.ok, Nat.zero_le _⟩
mutual
theorem ok_up {N M : Nat} (h : N ≤ M) : ∀ d : D, okN N d = true → okN M d = true
  | .non, _ => rfl
  | .bl _, _ => rfl
  | .int _, _ => rfl
  | .str _, k => k
  | .tup ds, k => by
    have k : (decide (ds.length ≤ N) && okNs N ds) = true := k
    rw [Bool.and_eq_true, decide_eq_true_eq] at k
    show (decide (ds.length ≤ M) && okNs M ds) = true
    rw [Bool.and_eq_true, decide_eq_true_eq]
    exact ⟨Nat.le_trans k.1 h, oks_up h ds k.2⟩
  | .lst ds, k => by
    have k : (decide (ds.length ≤ N) && okNs N ds) = true := k
    rw [Bool.and_eq_true, decide_eq_true_eq] at k
    show (decide (ds.length ≤ M) && okNs M ds) = true
    rw [Bool.and_eq_true, decide_eq_true_eq]
    exact ⟨Nat.le_trans k.1 h, oks_up h ds k.2⟩
  | .dct _ _, k => by cases k
theorem oks_up {N M : Nat} (h : N ≤ M) : ∀ ds : List D, okNs N ds = true → okNs M ds = true
  | [], _ => rfl
  | d :: r, k => by
    have k : (okN N d && okNs N r) = true := k
    rw [Bool.and_eq_true] at k
    show (okN M d && okNs M r) = true
    rw [Bool.and_eq_true]
    exact ⟨ok_up h d k.1, oks_up h r k.2⟩
end
theorem tmN.up {N M k : Nat} {d : D} (h : tmN N k d) (q : N ≤ M) : tmN M k d := ⟨ok_up q d h.ok, h.de⟩
theorem nb {a b : Str} (h : ¬ a = b) : (a == b) = false := beq_eq_false_iff_ne.mpr h
theorem nb' {a b : Str} (h : ¬ a = b) : (b == a) = false := beq_eq_false_iff_ne.mpr (Ne.symm h)
theorem seq_comm (a b : Str) : (a == b) = (b == a) := by
  by_cases h : a = b
  · rw [h]
  · rw [nb h, nb' h]
theorem in1 (w a : Str) : cmpD .in_ (.str w) (.tup [.str a]) = some (w == a) := by
  show some ((a == w) || false) = _
  rw [Bool.or_false, seq_comm]
theorem in2 (w a b : Str) : cmpD .in_ (.str w) (.tup [.str a, .str b]) = some (w == a || w == b) := by
  show some ((a == w) || ((b == w) || false)) = _
  rw [Bool.or_false, seq_comm a, seq_comm b]
theorem in3 (w a b c : Str) : cmpD .in_ (.str w) (.tup [.str a, .str b, .str c]) = some (w == a || (w == b || w == c)) := by
  show some ((a == w) || ((b == w) || ((c == w) || false))) = _
  rw [Bool.or_false, seq_comm a, seq_comm b, seq_comm c]
theorem in4 (w a b c d : Str) : cmpD .in_ (.str w) (.tup [.str a, .str b, .str c, .str d]) = some (w == a || (w == b || (w == c || w == d))) := by
  show some ((a == w) || ((b == w) || ((c == w) || ((d == w) || false)))) = _
  rw [Bool.or_false, seq_comm a, seq_comm b, seq_comm c, seq_comm d]
theorem notin_of {x y : D} {b : Bool} (h : cmpD .in_ x y = some b) : cmpD .notIn x y = some (!b) := by
  show (inD x y).map (!·) = _
  rw [show inD x y = some b from h]
  rfl
theorem nin1 (w a : Str) : cmpD .notIn (.str w) (.tup [.str a]) = some (!(w == a)) := notin_of (in1 w a)
theorem nin2 (w a b : Str) : cmpD .notIn (.str w) (.tup [.str a, .str b]) = some (!(w == a || w == b)) := notin_of (in2 w a b)
theorem nin3 (w a b c : Str) : cmpD .notIn (.str w) (.tup [.str a, .str b, .str c]) = some (!(w == a || (w == b || w == c))) := notin_of (in3 w a b c)
@[simp] theorem andT_pB2 (a b : Bool) : andT (pB a) (pB b) = pB (a && b) := by cases a <;> rfl
@[simp] theorem orT_pB2 (a b : Bool) : orT (pB a) (pB b) = pB (a || b) := by cases a <;> rfl
end Sh
end
section
set_option autoImplicit false
set_option maxRecDepth 100000
namespace Sh
open PySem Q
@[simp] theorem g_3 : g_MOST_TABLES = .int 3 := Eq.trans rfl rfl
@[simp] theorem g_5 : g_MOST_VIEWS = .int 5 := Eq.trans rfl rfl
@[simp] theorem g_40 : g_MOST_STEPS = .int 40 := Eq.trans rfl rfl
@[simp] theorem g_80 : g_MOST_ITEMS = .int 80 := Eq.trans rfl rfl
@[simp] theorem g_8 : g_MOST_DEEP = .int 8 := Eq.trans rfl rfl
@[simp] theorem g_6 : g_MOST_OPS = .int 6 := Eq.trans rfl rfl
@[simp] theorem g_9 : g_MOST_SHORT = .int 9 := Eq.trans rfl rfl
def isWhole (v : D) (lo hi : Int) : Bool := match v with
  | .int i => decide (lo ≤ i) && decide (i ≤ hi)
  | _ => false
theorem f_is_whole (v : D) (lo hi : Int) {k : Nat} (hv : tm k v) : F_is_whole (.v v) (.v (.int lo)) (.v (.int hi)) = pV (.bl (isWhole v lo hi)) := by
  unfold F_is_whole
  cases v with
  | dct ks ds => exact hv.nod.elim
  | int i => by_cases h : lo ≤ i <;> simp [isWhole, h]
  | _ => simp [isWhole]
/-- a letter -/
def isLet (k : Nat) : Bool := !(Builtin.Str.occurrences (Str.ofString "abcdefghijklmnopqrstuvwxyz") ⟨#[k]⟩ 0 (Str.ofString "abcdefghijklmnopqrstuvwxyz").length 1).isEmpty
def isLab : D → Bool
  | .str z => decide ((1 : Int) ≤ z.length) && decide ((z.length : Int) ≤ 8) && z.cps.toList.all isLet
  | _ => false
theorem len_cps (z : Str) : z.cps.toList.length = z.length := by simp [Str.length]
theorem f_is_label (v : D) {k : Nat} (hv : tm k v) : F_is_label (.v v) = pV (.bl (isLab v)) := by
  unfold F_is_label
  cases v with
  | dct ks ds => exact hv.nod.elim
  | str z =>
    have hl := hv.strl
    rw [lc_map (xs := z.cps.toList.map fun c => .str ⟨#[c]⟩) (g := fun d => match d with | .str y => .bl (!(Builtin.Str.occurrences (Str.ofString "abcdefghijklmnopqrstuvwxyz") y 0 (Str.ofString "abcdefghijklmnopqrstuvwxyz").length 1).isEmpty) | _ => .non)]
    case hi => simp [walk_str hl]
    case hl => rw [List.length_map, len_cps]; omega
    case h =>
      intro d hd
      simp only [List.mem_map] at hd
      obtain ⟨c, _, rfl⟩ := hd
      rfl
    rw [List.map_map, show ((fun d => match d with | .str y => D.bl (!(Builtin.Str.occurrences (Str.ofString "abcdefghijklmnopqrstuvwxyz") y 0 (Str.ofString "abcdefghijklmnopqrstuvwxyz").length 1).isEmpty) | _ => .non) ∘ fun c => D.str ⟨#[c]⟩) = fun c => D.bl (isLet c) from rfl]
    simp [len_str hl, isLab]
    by_cases a : (1 : Int) ≤ z.length
    · by_cases b : (z.length : Int) ≤ 8 <;> simp [a, b]
    · simp [a]
  | _ => simp [isLab]
def ltS : D → D → Bool
  | .str x, .str y => decide (x.cps.toList < y.cps.toList)
  | _, _ => false
def rising (ds : List D) : Bool := (ds.zip ds.tail).all fun p => ltS p.1 p.2
def isLabs (v : D) (lo hi : Int) : Bool := match v with
  | .tup ds => decide (lo ≤ ds.length) && decide ((ds.length : Int) ≤ hi) && ds.all isLab && rising ds
  | _ => false
theorem isLab_str {d : D} (h : isLab d = true) : ∃ x, d = .str x := by
  cases d <;> first | exact ⟨_, rfl⟩ | cases h
theorem f_are_labels (v : D) (lo hi : Int) {k : Nat} (hv : tm k v) : F_are_labels (.v v) (.v (.int lo)) (.v (.int hi)) = pV (.bl (isLabs v lo hi)) := by
  unfold F_are_labels
  cases v with
  | dct ks ds => exact hv.nod.elim
  | tup ds =>
    have hl := hv.len
    rw [lc_map (xs := ds) (g := fun d => .bl (isLab d)) (by rfl) hl (fun d hd => by simp [f_is_label d (hv.tup d hd)])]
    by_cases a : lo ≤ ds.length
    · by_cases b : (ds.length : Int) ≤ hi
      · cases q3 : ds.all isLab with
        | false => simp [a, b, q3, isLabs]
        | true =>
          rw [lc_zip (xs := ds) (ys := ds.tail) (g := fun x y => .bl (ltS x y)) (by simp) hl (fun p hp => by
            have m := List.of_mem_zip hp
            rw [List.all_eq_true] at q3
            obtain ⟨x, ex⟩ := isLab_str (q3 _ m.1)
            obtain ⟨y, ey⟩ := isLab_str (q3 _ (List.mem_of_mem_tail m.2))
            rw [ex, ey]
            rfl)]
          simp [a, b, q3, isLabs, rising]
      · simp [a, b, isLabs]
    · simp [a, isLabs]
  | _ => simp [isLabs]
end Sh
end
section
set_option autoImplicit false
set_option maxRecDepth 100000
namespace Sh
open PySem Q
/-- x is among texts -/
def mem (x : Str) (ds : List D) : Bool := ds.any fun y => eqF y (.str x)
def memD (d : D) (ds : List D) : Bool := match d with
  | .str x => mem x ds
  | _ => false
theorem isLab_flat {d : D} (h : isLab d = true) : flat d = true := by
  obtain ⟨x, rfl⟩ := isLab_str h
  rfl
theorem labs_flat {ds : List D} (h : ds.all isLab = true) : ds.all flat = true := by
  rw [List.all_eq_true] at h ⊢
  exact fun d hd => isLab_flat (h d hd)
theorem in_flat {d : D} {ds : List D} (hd : flat d = true) (h : ds.all flat = true) : cmpD .in_ d (.tup ds) = some (ds.any fun y => eqF y d) := by
  show inF d ds = _
  unfold inF
  rw [if_pos ⟨hd, h⟩]
theorem notin_flat {d : D} {ds : List D} (hd : flat d = true) (h : ds.all flat = true) : cmpD .notIn d (.tup ds) = some (!(ds.any fun y => eqF y d)) := by
  show (inF d ds).map (!·) = _
  unfold inF
  rw [if_pos ⟨hd, h⟩]
  rfl
theorem in_mem (x : Str) {ds : List D} (h : ds.all flat = true) : cmpD .in_ (.str x) (.tup ds) = some (mem x ds) := in_flat rfl h
theorem notin_mem (x : Str) {ds : List D} (h : ds.all flat = true) : cmpD .notIn (.str x) (.tup ds) = some (!mem x ds) := notin_flat rfl h
def isKind (x : Str) : Bool := x == "rows" || (x == "keys" || x == "values")
theorem beq_comm' (a b : Str) : (a == b) = (b == a) := by
  by_cases h : a = b
  · rw [h]
  · rw [beq_eq_false_iff_ne.mpr h, beq_eq_false_iff_ne.mpr (Ne.symm h)]
theorem notin_kinds (x : Str) : cmpD .notIn (.str x) g_KINDS = some (!isKind x) := by
  unfold g_KINDS
  rw [notin_mem x rfl]
  simp [mem, eqF, isKind, beq_comm' _ x]
theorem in_kinds (x : Str) : cmpD .in_ (.str x) g_KINDS = some (isKind x) := by
  unfold g_KINDS
  rw [in_mem x rfl]
  simp [mem, eqF, isKind, beq_comm' _ x]
/-- what is told of a list -/
def isDecl (ts : List D) : D → Bool
  | .tup [n, .str kd, nms, .bl lg] => isLab n && !memD n ts && isKind kd && isLabs nms 1 3 && (match nms with
    | .tup ns => ns.all fun d => memD d ts
    | _ => false)
  | _ => false
theorem ne_len {n k : Nat} (h : n ≠ k) : ((n : Int) == (k : Int)) = false := by
  rw [beq_eq_false_iff_ne]
  omega
theorem isDecl_len {ts ds : List D} (h : ds.length ≠ 4) : isDecl ts (.tup ds) = false := by
  unfold isDecl
  split
  · rename_i e
    cases e
    exact absurd rfl h
  · rfl
theorem f_is_declared (ts : List D) (v : D) {k : Nat} (hts : ts.all isLab = true) (hv : tm k v) : F_is_declared (.v (.tup ts)) (.v v) = pV (.bl (isDecl ts v)) := by
  unfold F_is_declared
  cases v with
  | dct ks ds => exact hv.nod.elim
  | tup ds =>
    have hf := labs_flat hts
    by_cases hl : ds.length = 4
    · match ds, hl with
      | [a, b, c, d], _ =>
        have ta := hv.tup a (by simp)
        have tc := hv.tup c (by simp)
        cases q : isLab a with
        | false =>
          have e : isDecl ts (.tup [a, b, c, d]) = false := by unfold isDecl; split <;> simp_all
          simp [f_is_label a ta, q, e]
        | true =>
          obtain ⟨x, rfl⟩ := isLab_str q
          cases b with
          | dct ks ds => exact (hv.tup (.dct ks ds) (by simp)).nod.elim
          | str kd => cases d with
            | dct ks ds => exact (hv.tup (.dct ks ds) (by simp)).nod.elim
            | bl lg =>
              cases c with
              | dct ks ds => exact tc.nod.elim
              | tup ns =>
                simp [f_is_label _ ta, q, in_mem x hf, notin_kinds, f_are_labels _ _ _ tc, isDecl, memD]
                cases q1 : mem x ts
                · cases q2 : isKind kd
                  · simp
                  · cases q3 : isLabs (.tup ns) 1 3
                    · simp
                    · have hn : ∀ d ∈ ns, ∃ y, d = .str y := fun d hd => by
                        unfold isLabs at q3
                        simp only [Bool.and_eq_true] at q3
                        exact isLab_str (List.all_eq_true.mp q3.1.2 d hd)
                      simp only [Bool.not_false, Bool.not_true, orT_f, ifM_f, andT_t]
                      rw [lc_map (xs := ns) (g := fun d => .bl (memD d ts)) (by rfl) tc.len (fun d hd => by
                        obtain ⟨y, rfl⟩ := hn d hd
                        simp [in_mem y hf, memD])]
                      simp
                      congr
                · simp
              | _ => simp [f_is_label _ ta, q, in_mem x hf, notin_kinds, f_are_labels _ _ _ tc, isDecl, memD, isLabs]; (try (cases mem x ts <;> cases isKind kd <;> simp))
            | _ => simp [f_is_label _ ta, q, in_mem x hf, notin_kinds, isDecl]; (try (cases mem x ts <;> cases isKind kd <;> simp))
          | _ => simp [f_is_label _ ta, q, in_mem x hf, isDecl]; (try (cases mem x ts <;> simp))
    · have h2 : ((ds.length : Int) == 4) = false := ne_len hl
      simp [h2, isDecl_len hl]
  | _ => simp [isDecl]
/-- names that rise -/
def fstLt (a b : D) : Bool := match a, b with
  | .tup (x :: _), .tup (y :: _) => ltS x y
  | _, _ => false
/-- tables and lists -/
def isHead (t l : D) : Bool := isLabs t 1 3 && match t, l with
  | .tup ts, .tup rs => decide ((1 : Int) ≤ rs.length) && decide ((rs.length : Int) ≤ 5) && rs.all (isDecl ts) && (rs.zip rs.tail).all fun p => fstLt p.1 p.2
  | _, _ => false
theorem isDecl_form {ts : List D} {v : D} (h : isDecl ts v = true) : ∃ n kd nms lg, v = .tup [.str n, .str kd, .tup nms, .bl lg] := by
  unfold isDecl at h
  split at h
  · rename_i n kd nms lg
    simp only [Bool.and_eq_true] at h
    obtain ⟨⟨⟨⟨h1, h2⟩, h3⟩, h4⟩, h5⟩ := h
    obtain ⟨x, rfl⟩ := isLab_str h1
    split at h5
    · exact ⟨x, kd, _, lg, rfl⟩
    · cases h5
  · cases h
theorem f_is_head (t l : D) {k : Nat} (ht : tm k t) (hl : tm k l) : F_is_head (.v t) (.v l) = pV (.bl (isHead t l)) := by
  unfold F_is_head
  cases q : isLabs t 1 3 with
  | false => simp [f_are_labels _ _ _ ht, q, isHead]
  | true => cases t with
    | tup ts =>
      have hts : ts.all isLab = true := by
        unfold isLabs at q
        simp only [Bool.and_eq_true] at q
        exact q.1.2
      cases l with
      | dct ks ds => exact hl.nod.elim
      | tup rs =>
        rw [lc_map (xs := rs) (g := fun d => .bl (isDecl ts d)) (by rfl) hl.len (fun d hd => by simp [f_is_declared ts d hts (hl.tup d hd)])]
        by_cases a : (1 : Int) ≤ rs.length
        · by_cases b : (rs.length : Int) ≤ 5
          · cases q3 : rs.all (isDecl ts) with
            | false => simp [f_are_labels _ _ _ ht, q, isHead, a, b, q3]
            | true =>
              rw [lc_zip (xs := rs) (ys := rs.tail) (g := fun x y => .bl (fstLt x y)) (by simp) hl.len (fun p hp => by
                have m := List.of_mem_zip hp
                rw [List.all_eq_true] at q3
                obtain ⟨n, kd, nms, lg, e1⟩ := isDecl_form (q3 _ m.1)
                obtain ⟨n', kd', nms', lg', e2⟩ := isDecl_form (q3 _ (List.mem_of_mem_tail m.2))
                rw [e1, e2]
                simp [fstLt, ltS, cmpD])]
              simp [f_are_labels _ _ _ ht, q, isHead, a, b, q3]
          · simp [f_are_labels _ _ _ ht, q, isHead, a, b]
        · simp [f_are_labels _ _ _ ht, q, isHead, a]
      | _ => simp [f_are_labels _ _ _ ht, q, isHead]
    | _ => cases q
/-- a list's row -/
structure Row where
  nm : Str
  kd : Str
  nms : List Str
  lg : Bool
  deriving DecidableEq
def stl (l : List Str) : D := .tup (l.map .str)
def Row.d (r : Row) : D := .tup [.str r.nm, .str r.kd, stl r.nms, .bl r.lg]
theorem labs_map : ∀ {ds : List D}, ds.all isLab = true → ∃ l : List Str, ds = l.map .str
  | [], _ => ⟨[], rfl⟩
  | d :: r, h => by
    rw [List.all_cons, Bool.and_eq_true] at h
    obtain ⟨x, rfl⟩ := isLab_str h.1
    obtain ⟨l, rfl⟩ := labs_map h.2
    exact ⟨x :: l, rfl⟩
/-- a head, read -/
structure Head where
  tb : List Str
  rows : List Row
def lab (x : Str) : Prop := isLab (.str x) = true
structure Head.Ok (h : Head) : Prop where
  tb : isLabs (stl h.tb) 1 3 = true
  rows : ∀ r ∈ h.rows, isDecl (h.tb.map .str) r.d = true
  few : h.rows.length ≤ 5
  one : 1 ≤ h.rows.length
theorem decls_map {ts : List D} : ∀ {rs : List D}, rs.all (isDecl ts) = true → ∃ l : List Row, rs = l.map Row.d
  | [], _ => ⟨[], rfl⟩
  | v :: r, h => by
    rw [List.all_cons, Bool.and_eq_true] at h
    obtain ⟨l, rfl⟩ := decls_map h.2
    obtain ⟨n, kd, nms, lg, rfl⟩ := isDecl_form h.1
    have h1 := h.1
    unfold isDecl at h1
    simp only [Bool.and_eq_true] at h1
    have h2 := h1.1.2
    unfold isLabs at h2
    simp only [Bool.and_eq_true] at h2
    obtain ⟨m, rfl⟩ := labs_map h2.1.2
    exact ⟨⟨n, kd, m, lg⟩ :: l, rfl⟩
theorem isHead_read {t l : D} (h : isHead t l = true) : ∃ H : Head, t = stl H.tb ∧ l = .tup (H.rows.map Row.d) ∧ H.Ok := by
  unfold isHead at h
  rw [Bool.and_eq_true] at h
  obtain ⟨h1, h2⟩ := h
  split at h2
  · rename_i ts rs
    have h1' := h1
    unfold isLabs at h1'
    simp only [Bool.and_eq_true, decide_eq_true_eq] at h1' h2
    obtain ⟨tb, rfl⟩ := labs_map h1'.1.2
    obtain ⟨rows, rfl⟩ := decls_map h2.1.2
    refine ⟨⟨tb, rows⟩, rfl, rfl, h1, ?_, ?_, ?_⟩
    · intro r hr
      exact List.all_eq_true.mp h2.1.2 _ (List.mem_map_of_mem hr)
    · have := h2.1.1.2
      rw [List.length_map] at this
      show rows.length ≤ 5
      omega
    · have := h2.1.1.1
      rw [List.length_map] at this
      show 1 ≤ rows.length
      omega
  · cases h2
end Sh
end
section
set_option autoImplicit false
set_option maxRecDepth 100000
set_option maxHeartbeats 2000000
namespace Sh
open PySem Q
abbrev tS (x : Str) : Prop := tm 0 (.str x)
structure Row.Ok (r : Row) : Prop where
  nm : tS r.nm
  kd : tS r.kd
  nms : ∀ x ∈ r.nms, tS x
  few : r.nms.length ≤ 3
  k3 : isKind r.kd = true
theorem tm_stl {l : List Str} (h : ∀ x ∈ l, tS x) (hl : l.length ≤ 5000) : tm 1 (stl l) := tmN.of_tup (by rw [List.length_map]; exact hl) fun d hd => by
  rw [List.mem_map] at hd
  obtain ⟨x, hx, rfl⟩ := hd
  exact h x hx
theorem Row.Ok.tm {r : Row} (h : r.Ok) : tm 2 r.d := tmN.of_tup (by simp) fun d hd => by
  simp only [List.mem_cons, List.not_mem_nil, or_false] at hd
  rcases hd with rfl | rfl | rfl | rfl
  · exact h.nm.mono (by omega)
  · exact h.kd.mono (by omega)
  · exact tm_stl h.nms (by have := h.few; omega)
  · exact tm_bl _ _
def told (rows : List Row) (name : D) : Option Row := match name with
  | .str x => rows.find? fun r => r.nm == x
  | _ => none
def rowsD (rows : List Row) : D := .tup (rows.map Row.d)
theorem tm_nod {k : Nat} {d : D} (h : tm k d) {ks : List Str} {ds : List D} (e : d = .dct ks ds) : False := by subst e; exact h.nod
def nmB (name d : D) : Bool := match name, d with
  | .str x, .tup (.str y :: _) => y == x
  | _, _ => false
theorem told_filter (rows : List Row) (name : D) : ((rows.map Row.d).filter (nmB name)) = (rows.filter fun r => nmB name r.d).map Row.d := by
  rw [List.filter_map]
  rfl
theorem told_head (rows : List Row) (name : D) : told rows name = (rows.filter fun r => nmB name r.d).head? := by
  rw [List.head?_filter]
  cases name with
  | str x => rfl
  | _ => show none = _; rw [List.find?_eq_none.mpr]; intro r _ z; cases z
theorem shp_rows {rows : List Row} (hr : ∀ r ∈ rows, r.Ok) (hl : rows.length ≤ 5000) : shp (.lst (rows.map Row.d)) := (tmN.of_lst (N := 5000) (k := 2) (by rw [List.length_map]; exact hl) fun d hd => by
  rw [List.mem_map] at hd
  obtain ⟨r, h, rfl⟩ := hd
  exact (hr r h).tm).shp (by omega)
theorem f_told_of {rows : List Row} {name : D} {k : Nat} (hr : ∀ r ∈ rows, r.Ok) (hl : rows.length ≤ 5000) (hn : tm k name) : F_told_of (.v (rowsD rows)) (.v name) = pV (optD ((told rows name).map Row.d)) := by
  unfold F_told_of
  rw [lc_filter0 (xs := rows.map Row.d) (p := nmB name) (by rfl) (by rw [List.length_map]; exact hl) (fun d hd => by
    rw [List.mem_map] at hd
    obtain ⟨r, h, rfl⟩ := hd
    have h1 := (hr r h).nm.shp (by omega)
    cases name with
    | dct ks ds => exact hn.nod.elim
    | str x =>
      have h2 : shp (.str x) := (show tS x from ⟨hn.ok, Nat.zero_le _⟩).shp (by omega)
      simp [Row.d, cmp_eq h1 h2, nmB]
    | _ => simp [nmB])]
  rw [told_filter, told_head]
  have hs := shp_rows (rows := rows.filter fun r => nmB name r.d) (fun r h => hr r (List.mem_filter.mp h).1) (Nat.le_trans (List.length_filter_le _ _) hl)
  simp [ne_nilL hs, -List.head?_filter]
  cases rows.filter fun r => nmB name r.d with
  | nil => simp
  | cons r q => simp
/-- what a view is told to be -/
structure St3 where
  kd : Str
  nms : List Str
  lg : Bool
  deriving DecidableEq
def St3.d (s : St3) : D := .tup [.str s.kd, stl s.nms, .bl s.lg]
def Row.st (r : Row) : St3 := ⟨r.kd, r.nms, r.lg⟩
structure St3.Ok (n : Nat) (s : St3) : Prop where
  kd : tS s.kd
  nms : ∀ x ∈ s.nms, tS x
  few : s.nms.length ≤ n
  k3 : isKind s.kd = true
theorem St3.Ok.tm {n : Nat} {s : St3} (h : s.Ok n) (hn : n ≤ 5000) : tm 2 s.d := tmN.of_tup (by simp) fun d hd => by
  simp only [List.mem_cons, List.not_mem_nil, or_false] at hd
  rcases hd with rfl | rfl | rfl
  · exact h.kd.mono (by omega)
  · exact tm_stl h.nms (by have := h.few; omega)
  · exact tm_bl _ _
def st3 (o : Option St3) : D := optD (o.map St3.d)
/-- what a source is -/
def begunS (tb : List Str) (rows : List Row) (src : D) : Option St3 := match src with
  | .tup [.str w, x] => if w = "table" then (match x with
      | .str y => if mem y (tb.map .str) = true then some ⟨"rows", [y], true⟩ else none
      | _ => none)
    else if w = "of" then (told rows x).map Row.st else none
  | _ => none
theorem flat_stl (l : List Str) : (l.map D.str).all flat = true := by
  rw [List.all_eq_true]
  intro d hd
  rw [List.mem_map] at hd
  obtain ⟨x, _, rfl⟩ := hd
  rfl
theorem row_cut (r : Row) : slcD r.d (some 1) none = some r.st.d := slc_1 _
theorem tm_str0 {k : Nat} {x : Str} (h : tm k (.str x)) : tS x := ⟨h.ok, Nat.zero_le _⟩
theorem begun_len {tb : List Str} {rows : List Row} {ds : List D} (h : ds.length ≠ 2) : begunS tb rows (.tup ds) = none := by
  unfold begunS
  split
  · rename_i e; cases e; exact absurd rfl h
  · rfl
theorem f_begun {tb : List Str} {rows : List Row} {src : D} {k : Nat} (hr : ∀ r ∈ rows, r.Ok) (hl : rows.length ≤ 5000) (hn : tm k src) : F_begun (.v (stl tb)) (.v (rowsD rows)) (.v src) = pV (st3 (begunS tb rows src)) := by
  unfold F_begun
  cases src with
  | dct ks ds => exact hn.nod.elim
  | tup ds =>
    by_cases h2 : ds.length = 2
    · match ds, h2 with
      | [a, x], _ =>
        cases a with
        | dct ks ds => exact (hn.tup _ (.head _)).nod.elim
        | str w =>
          have hw := (hn.tup _ (.head _)).shs
          have hx := hn.tup x (by simp)
          by_cases q : w = "table"
          · subst q
            cases x with
            | dct ks ds => exact hx.nod.elim
            | str y =>
              have hm := in_mem y (flat_stl tb)
              cases q2 : mem y (tb.map .str) <;> simp [cmp_eq, stl, hm, q2, begunS, st3, f_told_of hr hl hx, St3.d]
            | _ => simp [cmp_eq, begunS, st3]
          · by_cases q3 : w = "of"
            · subst q3
              simp [cmp_eq, begunS, st3, f_told_of hr hl hx]
              cases told rows x with
              | none => simp
              | some r => simp [row_cut, show isNon r.d = false from rfl]
            · simp [cmp_eq, hw, q, q3, nb q, nb q3, begunS, st3]
        | _ => simp [begunS, st3]
    · have h3 : ((ds.length : Int) == 2) = false := ne_len h2
      simp [h3, begun_len h2, st3]
  | _ => simp [begunS, st3]
/-- what comes of an operation -/
def withS (rows : List Row) (s : St3) : D → Option St3
  | .tup [.str w] => if w = "back" then some s else if w = "keys" ∨ w = "values" then (if s.kd = "rows" then some ⟨w, s.nms, s.lg⟩ else none)
    else if w = "bykey" then (if s.kd = "rows" ∨ s.kd = "keys" then some s else none) else if w = "byvalue" then (if s.kd = "rows" ∨ s.kd = "values" then some s else none) else none
  | .tup [.str w, x] => if w = "first" ∨ w = "last" then (if isWhole x 1 9 = true then some ⟨s.kd, s.nms, false⟩ else none)
    else if w = "keep" then (if isLab x = true ∧ (s.kd = "rows" ∨ s.kd = "keys") then some s else none) else if w = "pass" then (if isLab x = true ∧ (s.kd = "rows" ∨ s.kd = "values") then some s else none)
    else if w = "in" ∨ w = "out" then (if s.kd = "values" then none else match told rows x with
      | none => none
      | some r => if r.kd = "values" ∨ r.lg = false ∨ (r.nms.any fun n => s.nms.contains n) = true then none else some ⟨s.kd, sortS (s.nms ++ r.nms), s.lg⟩)
    else none
  | _ => none
def wordsP : List String := ["keys", "values", "bykey", "byvalue"]
theorem in_dct (w : Str) (ks : List Str) (ds : List D) : cmpD .in_ (.str w) (.dct ks ds) = some (getK ks ds w).isSome := rfl
theorem idx_dct (w : Str) (ks : List Str) (ds : List D) : idxD (.dct ks ds) (.str w) = getK ks ds w := rfl
theorem getK_cons (k w : Str) (ks : List Str) (d : D) (ds : List D) : getK (k :: ks) (d :: ds) w = if k = w then some d else getK ks ds w := by
  unfold getK
  rw [List.zip_cons_cons, List.find?_cons]
  by_cases h : k = w <;> simp [h]
@[simp] theorem getK_nil (w : Str) : getK [] [] w = none := rfl
end Sh
end
section
set_option autoImplicit false
set_option maxRecDepth 100000
set_option maxHeartbeats 2000000
namespace Sh
open PySem Q
theorem f_with_in {rows : List Row} {kd : Str} {nms : List Str} {lg : Bool} {x : D} {k n : Nat} {w : Str} (hr : ∀ r ∈ rows, r.Ok) (hl : rows.length ≤ 5000) (hs : St3.Ok n ⟨kd, nms, lg⟩) (hn : n ≤ 4000) (hx : tm k x) (hw : w = "in" ∨ w = "out") (hso : shp (.tup [.str w, x])) :
    F_with_op (.v (rowsD rows)) (.v (St3.d ⟨kd, nms, lg⟩)) (.v (.tup [.str w, x])) = pV (st3 (withS rows ⟨kd, nms, lg⟩ (.tup [.str w, x]))) := by
  unfold F_with_op
  have hkd := hs.kd.shs
  dsimp only at hkd
  have hnm := hs.nms
  have hfew := hs.few
  dsimp only at hnm hfew
  have ht := f_told_of hr hl hx
  have hin : (w == "in" || w == "out") = true := by rcases hw with rfl | rfl <;> simp
  have hsw : shp (.str w) := by rcases hw with rfl | rfl <;> simp
  have b0 : w ≠ "back" ∧ w ≠ "keys" ∧ w ≠ "values" ∧ w ≠ "bykey" ∧ w ≠ "byvalue" ∧ w ≠ "first" ∧ w ≠ "last" ∧ w ≠ "keep" ∧ w ≠ "pass" := by rcases hw with rfl | rfl <;> simp
  obtain ⟨b1, b2, b3, b4, b5, b6, b7, b8, b9⟩ := b0
  have hW : withS rows ⟨kd, nms, lg⟩ (.tup [.str w, x]) = if kd = "values" then none else match told rows x with
      | none => none
      | some r => if r.kd = "values" ∨ r.lg = false ∨ (r.nms.any fun n => nms.contains n) = true then none else some ⟨kd, sortS (nms ++ r.nms), lg⟩ := by
    simp only [withS, b6, b7, b8, b9, or_self, if_false]
    rw [if_pos hw]
    try rfl
  rw [hW]
  have hnin : cmpD .notIn (.str w) (.tup [.str (Str.ofString "in"), .str (Str.ofString "out")]) = some false := by rw [nin2, hin]; rfl
  by_cases q : kd = "values"
  · subst q
    simp [St3.d, un3, eq_nilT hso, st3, cmp_eq, hsw, hkd, g_PLAIN_OPS, g_TEST_OPS, in_dct, in2, hnin, nb b1, getK_cons, Ne.symm b1, Ne.symm b2, Ne.symm b3, Ne.symm b4, Ne.symm b5, Ne.symm b6, Ne.symm b7, Ne.symm b8, Ne.symm b9, nb b6, nb b7]
  · cases e : told rows x with
    | none => simp [St3.d, un3, eq_nilT hso, st3, cmp_eq, hsw, hkd, g_PLAIN_OPS, g_TEST_OPS, in_dct, in2, hnin, nb b1, getK_cons, Ne.symm b1, Ne.symm b2, Ne.symm b3, Ne.symm b4, Ne.symm b5, Ne.symm b6, Ne.symm b7, Ne.symm b8, Ne.symm b9, nb b6, nb b7, q, nb q, ht, e]
    | some r =>
      have hrm : r ∈ rows := by
        cases x with
        | str y => exact List.mem_of_find?_eq_some e
        | _ => cases e
      have hro := hr r hrm
      have hrk := hro.kd.shs
      by_cases z1 : r.kd = "values"
      · simp [St3.d, un3, eq_nilT hso, st3, cmp_eq, hsw, hkd, g_PLAIN_OPS, g_TEST_OPS, in_dct, in2, hnin, nb b1, getK_cons, Ne.symm b1, Ne.symm b2, Ne.symm b3, Ne.symm b4, Ne.symm b5, Ne.symm b6, Ne.symm b7, Ne.symm b8, Ne.symm b9, nb b6, nb b7, q, nb q, ht, e, Row.d, hrk, z1]
      · cases z2 : r.lg with
        | false => simp [St3.d, un3, eq_nilT hso, st3, cmp_eq, hsw, hkd, g_PLAIN_OPS, g_TEST_OPS, in_dct, in2, hnin, nb b1, getK_cons, Ne.symm b1, Ne.symm b2, Ne.symm b3, Ne.symm b4, Ne.symm b5, Ne.symm b6, Ne.symm b7, Ne.symm b8, Ne.symm b9, nb b6, nb b7, q, nb q, ht, e, Row.d, hrk, z1, z2, nb z1]
        | true =>
          have hlc : lcM false (M.pure (r.nms.map D.str)) (fun _ => pB true) (fun d1 => bV (M.ofO (cmpD .notIn d1 (stl nms)))) = pV (.lst ((r.nms.map D.str).map fun d => .bl (!memD d (nms.map .str)))) := lc_map (by rfl) (by rw [List.length_map]; have := hro.few; omega) fun d hd => by
            rw [List.mem_map] at hd
            obtain ⟨y, _, rfl⟩ := hd
            unfold stl
            rw [notin_mem y (flat_stl nms)]
            simp [memD]
          have hall : ((r.nms.map D.str).all fun d => !memD d (nms.map .str)) = !(r.nms.any fun n => nms.contains n) := by
            rw [List.all_map, List.not_any_eq_all_not]
            refine congrArg (fun f => List.all r.nms f) ?_
            funext y
            show (!mem y (nms.map .str)) = _
            congr 1
            unfold mem
            rw [List.any_map]
            rw [Bool.eq_iff_iff]
            simp [eqF, List.any_eq_true, Function.comp]
          have hadd := add_tup (xs := nms.map D.str) (ys := r.nms.map D.str) (by rw [List.length_map, List.length_map]; have := hro.few; omega)
          rw [← List.map_append] at hadd
          have hsrt := sorted_stl (nms ++ r.nms) (fun y hy => by
            rcases List.mem_append.mp hy with h | h
            · exact (hnm y h).shs
            · exact (hro.nms y h).shs) (by rw [List.length_append]; have := hro.few; omega)
          dsimp only
          generalize hb : (r.nms.any fun n => nms.contains n) = b at hall ⊢
          simp [St3.d, un3, eq_nilT hso, st3, cmp_eq, hsw, hkd, g_PLAIN_OPS, g_TEST_OPS, in_dct, in2, hnin, nb b1, getK_cons, Ne.symm b1, Ne.symm b2, Ne.symm b3, Ne.symm b4, Ne.symm b5, Ne.symm b6, Ne.symm b7, Ne.symm b8, Ne.symm b9, nb b6, nb b7, q, nb q, ht, e, Row.d, hrk, z1, z2, nb z1]
          rw [show (M.ofO (walkD (stl r.nms))) = M.pure (r.nms.map D.str) from rfl, hlc]
          simp only [blt1, all_map, hall, ofO_sB, M.ofO_some, M_pure_pV, tst_pV, notT_pB]
          cases b
          · simp only [Bool.not_false, Bool.not_true, ifM_f, Bool.false_eq_true, if_false]
            rw [show opD .add (stl nms) (stl r.nms) = _ from hadd]
            simp only [M.ofO_some, M_pure_pV, blt1, hsrt, tuple_lst, tupM3, cutM_v, optD_some, Option.map_some]
            rfl
          · simp
end Sh
end
section
set_option autoImplicit false
set_option maxRecDepth 100000
set_option maxHeartbeats 2000000
namespace Sh
open PySem Q
theorem f_with_op {rows : List Row} {s : St3} {op : D} {k n : Nat} (hr : ∀ r ∈ rows, r.Ok) (hl : rows.length ≤ 5000) (hs : s.Ok n) (hn : n ≤ 4000) (ho : tm k op) (hk : k ≤ 60) : F_with_op (.v (rowsD rows)) (.v s.d) (.v op) = pV (st3 (withS rows s op)) := by
  obtain ⟨kd, nms, lg⟩ := s
  have hkd := hs.kd.shs
  dsimp only at hkd
  cases op with
  | dct ks ds => exact ho.nod.elim
  | tup ds =>
    have hso : shp (.tup ds) := ho.shp (by omega)
    match ds, ho, hso with
    | [], ho, hso => unfold F_with_op; simp [St3.d, un3, eq_nilT hso, withS, st3]
    | [a], ho, hso =>
      cases a with
      | dct ks ds => exact (ho.tup _ (.head _)).nod.elim
      | str w =>
        have hw := (ho.tup _ (.head _)).shs
        unfold F_with_op
        by_cases q0 : w = "back"
        · subst q0
          simp [St3.d, un3, eq_nilT hso, withS, st3, cmp_eq, hw, hkd, g_PLAIN_OPS, g_TEST_OPS, in_dct, idx_dct, getK_cons, in_kinds, isKind, in1, in2, nin2]
        ·
          by_cases q1 : w = "keys"
          · subst q1
            by_cases r1 : kd = "rows"
            · subst r1; simp [St3.d, un3, eq_nilT hso, withS, st3, cmp_eq, hw, hkd, g_PLAIN_OPS, g_TEST_OPS, in_dct, idx_dct, getK_cons, in_kinds, isKind, in1, in2, nin2]
            · by_cases r2 : kd = "keys"
              · subst r2; simp [St3.d, un3, eq_nilT hso, withS, st3, cmp_eq, hw, hkd, g_PLAIN_OPS, g_TEST_OPS, in_dct, idx_dct, getK_cons, in_kinds, isKind, in1, in2, nin2]
              · by_cases r3 : kd = "values"
                · subst r3; simp [St3.d, un3, eq_nilT hso, withS, st3, cmp_eq, hw, hkd, g_PLAIN_OPS, g_TEST_OPS, in_dct, idx_dct, getK_cons, in_kinds, isKind, in1, in2, nin2]
                · simp [St3.d, un3, eq_nilT hso, withS, st3, cmp_eq, hw, hkd, g_PLAIN_OPS, g_TEST_OPS, in_dct, idx_dct, getK_cons, in_kinds, isKind, in1, in2, nin2, r1, r2, r3, nb r1, nb r2, nb r3]
          ·
            by_cases q2 : w = "values"
            · subst q2
              by_cases r1 : kd = "rows"
              · subst r1; simp [St3.d, un3, eq_nilT hso, withS, st3, cmp_eq, hw, hkd, g_PLAIN_OPS, g_TEST_OPS, in_dct, idx_dct, getK_cons, in_kinds, isKind, in1, in2, nin2]
              · by_cases r2 : kd = "keys"
                · subst r2; simp [St3.d, un3, eq_nilT hso, withS, st3, cmp_eq, hw, hkd, g_PLAIN_OPS, g_TEST_OPS, in_dct, idx_dct, getK_cons, in_kinds, isKind, in1, in2, nin2]
                · by_cases r3 : kd = "values"
                  · subst r3; simp [St3.d, un3, eq_nilT hso, withS, st3, cmp_eq, hw, hkd, g_PLAIN_OPS, g_TEST_OPS, in_dct, idx_dct, getK_cons, in_kinds, isKind, in1, in2, nin2]
                  · simp [St3.d, un3, eq_nilT hso, withS, st3, cmp_eq, hw, hkd, g_PLAIN_OPS, g_TEST_OPS, in_dct, idx_dct, getK_cons, in_kinds, isKind, in1, in2, nin2, r1, r2, r3, nb r1, nb r2, nb r3]
            ·
              by_cases q3 : w = "bykey"
              · subst q3
                by_cases r1 : kd = "rows"
                · subst r1; simp [St3.d, un3, eq_nilT hso, withS, st3, cmp_eq, hw, hkd, g_PLAIN_OPS, g_TEST_OPS, in_dct, idx_dct, getK_cons, in_kinds, isKind, in1, in2, nin2]
                · by_cases r2 : kd = "keys"
                  · subst r2; simp [St3.d, un3, eq_nilT hso, withS, st3, cmp_eq, hw, hkd, g_PLAIN_OPS, g_TEST_OPS, in_dct, idx_dct, getK_cons, in_kinds, isKind, in1, in2, nin2]
                  · by_cases r3 : kd = "values"
                    · subst r3; simp [St3.d, un3, eq_nilT hso, withS, st3, cmp_eq, hw, hkd, g_PLAIN_OPS, g_TEST_OPS, in_dct, idx_dct, getK_cons, in_kinds, isKind, in1, in2, nin2]
                    · simp [St3.d, un3, eq_nilT hso, withS, st3, cmp_eq, hw, hkd, g_PLAIN_OPS, g_TEST_OPS, in_dct, idx_dct, getK_cons, in_kinds, isKind, in1, in2, nin2, r1, r2, r3, nb r1, nb r2, nb r3]
              ·
                by_cases q4 : w = "byvalue"
                · subst q4
                  by_cases r1 : kd = "rows"
                  · subst r1; simp [St3.d, un3, eq_nilT hso, withS, st3, cmp_eq, hw, hkd, g_PLAIN_OPS, g_TEST_OPS, in_dct, idx_dct, getK_cons, in_kinds, isKind, in1, in2, nin2]
                  · by_cases r2 : kd = "keys"
                    · subst r2; simp [St3.d, un3, eq_nilT hso, withS, st3, cmp_eq, hw, hkd, g_PLAIN_OPS, g_TEST_OPS, in_dct, idx_dct, getK_cons, in_kinds, isKind, in1, in2, nin2]
                    · by_cases r3 : kd = "values"
                      · subst r3; simp [St3.d, un3, eq_nilT hso, withS, st3, cmp_eq, hw, hkd, g_PLAIN_OPS, g_TEST_OPS, in_dct, idx_dct, getK_cons, in_kinds, isKind, in1, in2, nin2]
                      · simp [St3.d, un3, eq_nilT hso, withS, st3, cmp_eq, hw, hkd, g_PLAIN_OPS, g_TEST_OPS, in_dct, idx_dct, getK_cons, in_kinds, isKind, in1, in2, nin2, r1, r2, r3, nb r1, nb r2, nb r3]
                ·
                  simp [St3.d, un3, eq_nilT hso, withS, st3, cmp_eq, hw, hkd, g_PLAIN_OPS, g_TEST_OPS, in_dct, idx_dct, getK_cons, in_kinds, isKind, in1, in2, nin2, q0, nb q0, nb' q0, Ne.symm q0, q1, nb q1, nb' q1, Ne.symm q1, q2, nb q2, nb' q2, Ne.symm q2, q3, nb q3, nb' q3, Ne.symm q3, q4, nb q4, nb' q4, Ne.symm q4]
      | _ => unfold F_with_op; simp [St3.d, un3, eq_nilT hso, withS, st3]
    | [a, x], ho, hso =>
      have hx := ho.tup x (by simp)
      cases a with
      | dct ks ds => exact (ho.tup _ (.head _)).nod.elim
      | str w =>
        have hw := (ho.tup _ (.head _)).shs
        by_cases qi : w = "in" ∨ w = "out"
        · exact f_with_in hr hl hs hn hx qi hso
        unfold F_with_op
        by_cases q0 : w = "first"
        · subst q0
          cases z : isWhole x 1 9 <;> simp [St3.d, un3, eq_nilT hso, withS, st3, cmp_eq, hw, hkd, g_PLAIN_OPS, g_TEST_OPS, in_dct, idx_dct, getK_cons, in_kinds, isKind, in1, in2, nin2, f_is_whole x 1 9 hx, z]
        ·
          by_cases q1 : w = "last"
          · subst q1
            cases z : isWhole x 1 9 <;> simp [St3.d, un3, eq_nilT hso, withS, st3, cmp_eq, hw, hkd, g_PLAIN_OPS, g_TEST_OPS, in_dct, idx_dct, getK_cons, in_kinds, isKind, in1, in2, nin2, f_is_whole x 1 9 hx, z]
          ·
            by_cases q2 : w = "keep"
            · subst q2
              cases z : isLab x
              · simp [St3.d, un3, eq_nilT hso, withS, st3, cmp_eq, hw, hkd, g_PLAIN_OPS, g_TEST_OPS, in_dct, idx_dct, getK_cons, in_kinds, isKind, in1, in2, nin2, f_is_label x hx, z]
              · by_cases r1 : kd = "rows"
                · subst r1; simp [St3.d, un3, eq_nilT hso, withS, st3, cmp_eq, hw, hkd, g_PLAIN_OPS, g_TEST_OPS, in_dct, idx_dct, getK_cons, in_kinds, isKind, in1, in2, nin2, f_is_label x hx, z]
                · by_cases r2 : kd = "keys"
                  · subst r2; simp [St3.d, un3, eq_nilT hso, withS, st3, cmp_eq, hw, hkd, g_PLAIN_OPS, g_TEST_OPS, in_dct, idx_dct, getK_cons, in_kinds, isKind, in1, in2, nin2, f_is_label x hx, z]
                  · by_cases r3 : kd = "values"
                    · subst r3; simp [St3.d, un3, eq_nilT hso, withS, st3, cmp_eq, hw, hkd, g_PLAIN_OPS, g_TEST_OPS, in_dct, idx_dct, getK_cons, in_kinds, isKind, in1, in2, nin2, f_is_label x hx, z]
                    · simp [St3.d, un3, eq_nilT hso, withS, st3, cmp_eq, hw, hkd, g_PLAIN_OPS, g_TEST_OPS, in_dct, idx_dct, getK_cons, in_kinds, isKind, in1, in2, nin2, r1, r2, r3, nb r1, nb r2, nb r3, f_is_label x hx, z]
            ·
              by_cases q3 : w = "pass"
              · subst q3
                cases z : isLab x
                · simp [St3.d, un3, eq_nilT hso, withS, st3, cmp_eq, hw, hkd, g_PLAIN_OPS, g_TEST_OPS, in_dct, idx_dct, getK_cons, in_kinds, isKind, in1, in2, nin2, f_is_label x hx, z]
                · by_cases r1 : kd = "rows"
                  · subst r1; simp [St3.d, un3, eq_nilT hso, withS, st3, cmp_eq, hw, hkd, g_PLAIN_OPS, g_TEST_OPS, in_dct, idx_dct, getK_cons, in_kinds, isKind, in1, in2, nin2, f_is_label x hx, z]
                  · by_cases r2 : kd = "keys"
                    · subst r2; simp [St3.d, un3, eq_nilT hso, withS, st3, cmp_eq, hw, hkd, g_PLAIN_OPS, g_TEST_OPS, in_dct, idx_dct, getK_cons, in_kinds, isKind, in1, in2, nin2, f_is_label x hx, z]
                    · by_cases r3 : kd = "values"
                      · subst r3; simp [St3.d, un3, eq_nilT hso, withS, st3, cmp_eq, hw, hkd, g_PLAIN_OPS, g_TEST_OPS, in_dct, idx_dct, getK_cons, in_kinds, isKind, in1, in2, nin2, f_is_label x hx, z]
                      · simp [St3.d, un3, eq_nilT hso, withS, st3, cmp_eq, hw, hkd, g_PLAIN_OPS, g_TEST_OPS, in_dct, idx_dct, getK_cons, in_kinds, isKind, in1, in2, nin2, r1, r2, r3, nb r1, nb r2, nb r3, f_is_label x hx, z]
              ·
                by_cases q4 : w = "in"
                · subst q4
                  simp at qi
                ·
                  by_cases q5 : w = "out"
                  · subst q5
                    simp at qi
                  ·
                    simp [St3.d, un3, eq_nilT hso, withS, st3, cmp_eq, hw, hkd, g_PLAIN_OPS, g_TEST_OPS, in_dct, idx_dct, getK_cons, in_kinds, isKind, in1, in2, nin2, q0, nb q0, nb' q0, Ne.symm q0, q1, nb q1, nb' q1, Ne.symm q1, q2, nb q2, nb' q2, Ne.symm q2, q3, nb q3, nb' q3, Ne.symm q3, q4, nb q4, nb' q4, Ne.symm q4, q5, nb q5, nb' q5, Ne.symm q5]
      | _ => unfold F_with_op; simp [St3.d, un3, eq_nilT hso, withS, st3]
    | a :: b :: c :: r, ho, hso =>
      cases a with
      | dct ks ds => exact (ho.tup _ (.head _)).nod.elim
      | str w =>
        have hw := (ho.tup _ (.head _)).shs
        unfold F_with_op
        have h1 : bltM .len [pV (.tup (.str w :: b :: c :: r))] = pV (.int ((r.length + 3 : Nat) : Int)) := rfl
        have e1 : (((r.length + 3 : Nat) : Int) == 1) = false := ne_len (n := r.length + 3) (k := 1) (by omega)
        have e2 : (((r.length + 3 : Nat) : Int) == 2) = false := ne_len (n := r.length + 3) (k := 2) (by omega)
        simp only [pW_v, h1, cmpT_v, eq_int, ne_int, e1, e2, ofO_sB]
        simp [St3.d, un3, eq_nilT hso, withS, st3, cmp_eq, hw, hkd, g_PLAIN_OPS, g_TEST_OPS, in_dct, in2, nin2]
      | _ => unfold F_with_op; simp [St3.d, un3, eq_nilT hso, withS, st3]
  | _ => unfold F_with_op; simp [St3.d, un3, withS, st3]
end Sh
end
section
set_option autoImplicit false
set_option maxRecDepth 100000
set_option maxHeartbeats 2000000
namespace Sh
open PySem Q
theorem told_mem {rows : List Row} {x : D} {r : Row} (h : told rows x = some r) : r ∈ rows := by
  cases x with
  | str y => exact List.mem_of_find?_eq_some h
  | _ => cases h
theorem isKind_of {x : Str} (h : x = "rows" ∨ x = "keys" ∨ x = "values") : isKind x = true := by
  rcases h with rfl | rfl | rfl <;> simp [isKind]
theorem isKind_or {x : Str} (h : isKind x = true) : x = "rows" ∨ x = "keys" ∨ x = "values" := by
  unfold isKind at h
  simp only [Bool.or_eq_true, beq_iff_eq] at h
  exact h
theorem tS_lit (s : String) (h : (Str.ofString s).length ≤ 1000) : tS (Str.ofString s) := tm_lit 0 s h
theorem tS_rows : tS "rows" := tS_lit _ (by decide +kernel)
theorem tS_kind {x : Str} (h : isKind x = true) : tS x := by
  rcases isKind_or h with rfl | rfl | rfl
  · exact tS_rows
  · exact tS_lit _ (by decide +kernel)
  · exact tS_lit _ (by decide +kernel)
theorem begun_ok {tb : List Str} {rows : List Row} {src : D} {k : Nat} {s : St3} (hr : ∀ r ∈ rows, r.Ok) (hn : tm k src) (h : begunS tb rows src = some s) : s.Ok 3 := by
  unfold begunS at h
  split at h
  · rename_i w x
    split at h
    · split at h
      · rename_i y
        split at h
        · cases h
          refine ⟨tS_rows, fun x hx => ?_, by simp, by simp [isKind]⟩
          simp only [List.mem_cons, List.not_mem_nil, or_false] at hx
          subst hx
          exact tm_str0 (hn.tup (.str x) (by simp))
        · cases h
      · cases h
    · split at h
      · cases e : told rows x with
        | none => rw [e] at h; cases h
        | some r =>
          rw [e] at h
          cases h
          have := hr r (told_mem e)
          exact ⟨this.kd, this.nms, this.few, this.k3⟩
      · cases h
  · cases h
theorem with_ok {rows : List Row} {s t : St3} {op : D} {n : Nat} (hr : ∀ r ∈ rows, r.Ok) (hs : s.Ok n) (h : withS rows s op = some t) : t.Ok (n + 3) := by
  have hs' : s.Ok (n + 3) := ⟨hs.kd, hs.nms, by have := hs.few; omega, hs.k3⟩
  unfold withS at h
  split at h
  · rename_i w
    split at h
    · cases h; exact hs'
    · split at h
      · rename_i hw
        split at h
        · cases h
          have hk : isKind w = true := isKind_of (by rcases hw with h | h <;> simp [h])
          exact ⟨tS_kind hk, hs'.nms, hs'.few, hk⟩
        · cases h
      · split at h
        · split at h
          · cases h; exact hs'
          · cases h
        · split at h
          · split at h
            · cases h; exact hs'
            · cases h
          · cases h
  · rename_i w x
    split at h
    · split at h
      · cases h; exact ⟨hs'.kd, hs'.nms, hs'.few, hs'.k3⟩
      · cases h
    · split at h
      · split at h
        · cases h; exact hs'
        · cases h
      · split at h
        · split at h
          · cases h; exact hs'
          · cases h
        · split at h
          · split at h
            · cases h
            · split at h
              · cases h
              · rename_i r e
                split at h
                · cases h
                · cases h
                  have hro := hr r (told_mem e)
                  refine ⟨hs'.kd, fun x hx => ?_, ?_, hs'.k3⟩
                  · rw [sortS_mem, List.mem_append] at hx
                    rcases hx with hx | hx
                    · exact hs.nms x hx
                    · exact hro.nms x hx
                  · show (sortS (s.nms ++ r.nms)).length ≤ n + 3
                    rw [sortS_len, List.length_append]
                    have := hs.few
                    have := hro.few
                    omega
          · cases h
  · cases h
/-- what comes of operations -/
def opsS (rows : List Row) : List D → Option St3 → Option St3
  | [], o => o
  | op :: r, o => opsS rows r (o.bind fun s => withS rows s op)
def shapeS (tb : List Str) (rows : List Row) (src ops : D) : Option St3 := match ops with
  | .tup os => if os.length ≤ 6 then opsS rows os (begunS tb rows src) else none
  | _ => none
def stepO (rows : List Row) (o : Option St3) (op : D) : St (Option St3) := .nxt (o.bind fun s => withS rows s op)
theorem loop_ops (rows : List Row) : ∀ (os : List D) (o : Option St3), loopS (stepO rows) os o = .nxt (opsS rows os o)
  | [], o => rfl
  | op :: r, o => loop_ops rows r _
theorem notN_st3 (o : Option St3) : cmpD .notN (st3 o) .non = some o.isSome := by cases o <;> rfl
theorem isN_st3 (o : Option St3) : cmpD .isN (st3 o) .non = some o.isNone := by cases o <;> rfl
theorem f_shape_of {tb : List Str} {rows : List Row} {src ops : D} {k l : Nat} (hr : ∀ r ∈ rows, r.Ok) (hl : rows.length ≤ 5000) (hs : tm k src) (ho : tm l ops) (hk : l ≤ 60) : F_shape_of (.v (stl tb)) (.v (rowsD rows)) (.v src) (.v ops) = pV (st3 (shapeS tb rows src ops)) := by
  unfold F_shape_of
  cases ops with
  | dct ks ds => exact ho.nod.elim
  | tup os =>
    by_cases h6 : os.length ≤ 6
    · have h6' : ¬ (6 : Int) < os.length := by omega
      simp only [pW_v, call3_v, f_begun hr hl hs, pV_bind]
      rw [forM_pure (xs := os) (fun o => W.v (st3 o)) (stepO rows) (fun i o => ∀ s, o = some s → s.Ok (3 + 3 * i)) (begunS tb rows src) (by rfl) (by rfl) (fun s e => begun_ok hr hs e) (fun i o op hi p hm => ?_), loop_ops]
      · simp [h6', shapeS, h6]
      · have hop := ho.tup op hm
        cases o with
        | none => exact ⟨by simp [stepO, stMap, st3, pN], fun t e => by cases e; intro s z; cases z⟩
        | some s =>
          have hso := p s rfl
          refine ⟨?_, fun t e => ?_⟩
          · have q := f_with_op hr hl hso (by omega) hop (by omega)
            simp only [pW_v, cmpT_v, notN_st3, ofO_sB, Option.isSome_some, ifM_t]
            rw [show st3 (some s) = s.d from rfl]
            simp only [call3_v, q, pV_bind]
            rfl
          · cases e
            intro t z
            have := with_ok hr hso z
            rw [show 3 + 3 * (i + 1) = 3 + 3 * i + 3 by omega]
            exact this
    · have h6' : (6 : Int) < os.length := by omega
      simp [h6', shapeS, h6, f_begun hr hl hs, st3]
  | _ => simp [shapeS, st3, f_begun hr hl hs]
theorem ops_ok {rows : List Row} (hr : ∀ r ∈ rows, r.Ok) : ∀ (os : List D) (o : Option St3) (n : Nat) (s : St3), (∀ s, o = some s → s.Ok n) → opsS rows os o = some s → s.Ok (n + 3 * os.length)
  | [], o, n, s, h, e => h s e
  | op :: r, o, n, s, h, e => by
    have := ops_ok hr r (o.bind fun s => withS rows s op) (n + 3) s (fun t z => by
      cases o with
      | none => cases z
      | some u => exact with_ok hr (h u rfl) z) e
    rw [show n + 3 * (op :: r).length = n + 3 + 3 * r.length by rw [List.length_cons]; omega]
    exact this
theorem shape_ok {tb : List Str} {rows : List Row} {src ops : D} {k : Nat} {s : St3} (hr : ∀ r ∈ rows, r.Ok) (hs : tm k src) (h : shapeS tb rows src ops = some s) : s.Ok 21 := by
  unfold shapeS at h
  split at h
  · split at h
    · rename_i os h6
      have := ops_ok hr os _ 3 s (fun s e => begun_ok hr hs e) h
      exact ⟨this.kd, this.nms, by have := this.few; omega, this.k3⟩
    · cases h
  · cases h
/-- a step that makes a view -/
def viewS (tb : List Str) (rows : List Row) : List D → Bool
  | [_, name, .str how, src, ops] => (how == "live" || how == "once") && (match told rows name, shapeS tb rows src ops with
    | some r, some s => r.kd == s.kd && r.nms == s.nms && (s.lg || !r.lg)
    | _, _ => false)
  | _ => false
theorem view_len {tb : List Str} {rows : List Row} {ds : List D} (h : ds.length ≠ 5) : viewS tb rows ds = false := by
  unfold viewS
  split
  · exact absurd rfl h
  · rfl
theorem row_cut2 (r : Row) : slcD r.d (some 1) (some 3) = some (.tup [.str r.kd, stl r.nms]) := slc_13 _
theorem st_cut2 (s : St3) : slcD s.d none (some 2) = some (.tup [.str s.kd, stl s.nms]) := slc_t2 _
theorem shp_2 {kd : Str} {nms : List Str} (h1 : tS kd) (h2 : ∀ x ∈ nms, tS x) (h3 : nms.length ≤ 5000) : shp (.tup [.str kd, stl nms]) := (tmN.of_tup (N := 5000) (k := 1) (ds := [.str kd, stl nms]) (by simp) (fun d hd => by
  simp only [List.mem_cons, List.not_mem_nil, or_false] at hd
  rcases hd with rfl | rfl
  · exact h1.mono (by omega)
  · exact tm_stl h2 h3)).shp (by omega)
theorem eqd_2 (kd kd' : Str) (nms nms' : List Str) : eqd (.tup [.str kd, stl nms]) (.tup [.str kd', stl nms']) = (kd == kd' && nms == nms') := by
  show eqds [.str kd, stl nms] [.str kd', stl nms'] = _
  rw [eqds_cons, eqds_cons, eqds_nil, Bool.and_true]
  show ((kd == kd') && eqds (nms.map .str) (nms'.map .str)) = _
  rw [eqds_stl]
theorem f_is_view_step {tb : List Str} {rows : List Row} {ds : List D} {k : Nat} (hr : ∀ r ∈ rows, r.Ok) (hl : rows.length ≤ 5000) (ho : tm k (.tup ds)) (hk : k ≤ 60) : F_is_view_step (.v (stl tb)) (.v (rowsD rows)) (.v (.tup ds)) = pV (.bl (viewS tb rows ds)) := by
  unfold F_is_view_step
  by_cases h5 : ds.length = 5
  · match ds, h5 with
    | [a, name, how, src, ops], _ =>
      have h1 := ho.tup name (by simp)
      have h2 := ho.tup src (by simp)
      have h3 := ho.tup ops (by simp)
      cases how with
      | dct ks ds => exact (ho.tup (.dct ks ds) (by simp)).nod.elim
      | str w =>
        cases q : (w == "live" || w == "once") with
        | false => simp [g_HOWS, nin2, q, viewS]
        | true =>
          have e1 := f_told_of hr hl h1
          have e2 := f_shape_of (tb := tb) hr hl h2 h3 (by omega)
          cases z1 : told rows name with
          | none => simp [g_HOWS, nin2, q, viewS, e1, e2, z1]
          | some r => cases z2 : shapeS tb rows src ops with
            | none => simp [g_HOWS, nin2, q, viewS, e1, e2, z1, z2, st3, show isNon r.d = false from rfl]
            | some s =>
              have hro := hr r (told_mem z1)
              have hso := shape_ok hr h2 z2
              have c1 := cmp_eq (shp_2 hro.kd hro.nms (by have := hro.few; omega)) (shp_2 hso.kd hso.nms (by have := hso.few; omega))
              rw [eqd_2] at c1
              have i1 : idxD s.d (.int 2) = some (.bl s.lg) := idx_2 _ _ _ _
              have i2 : idxD r.d (.int 3) = some (.bl r.lg) := idx_3 _ _ _ _ _
              simp [g_HOWS, nin2, q, viewS, e1, e2, z1, z2, st3, show isNon r.d = false from rfl, show isNon s.d = false from rfl, row_cut2, st_cut2, c1, i1, i2]
      | _ => simp [viewS]
  · have h3 : ((ds.length : Int) == 5) = false := ne_len h5
    simp [h3, view_len h5]
end Sh
end
section
set_option autoImplicit false
set_option maxRecDepth 100000
set_option maxHeartbeats 2000000
namespace Sh
open PySem Q
def isChange (w : Str) : Bool := w == "add" || (w == "drop" || (w == "set" || w == "move"))
/-- a step without a body: its word, the rest -/
def simpleS (tb : List Str) (rows : List Row) (w : Str) (r : List D) : Bool :=
  if w = "view" then viewS tb rows (.str w :: r) else match r with
    | [.str x] => if isChange w = true then mem x (tb.map .str) else w == "tell" && (told rows (.str x)).isSome
    | _ => false
theorem simple_len {tb : List Str} {rows : List Row} {w : Str} {r : List D} (hw : ¬ w = "view") (h : r.length ≠ 1) : simpleS tb rows w r = false := by
  unfold simpleS
  rw [if_neg hw]
  split
  · exact absurd rfl h
  · rfl
@[simp] theorem isNon_row (o : Option Row) : isNon (optD (o.map Row.d)) = o.isNone := by cases o <;> rfl
@[simp] theorem isNon_st3 (o : Option St3) : isNon (st3 o) = o.isNone := by cases o <;> rfl
theorem notN_row (o : Option Row) : cmpD .notN (optD (o.map Row.d)) .non = some o.isSome := by cases o <;> rfl
theorem isN_row (o : Option Row) : cmpD .isN (optD (o.map Row.d)) .non = some o.isNone := by cases o <;> rfl
theorem f_is_simple {tb : List Str} {rows : List Row} {w : Str} {r : List D} {k : Nat} (hr : ∀ r ∈ rows, r.Ok) (hl : rows.length ≤ 5000) (ho : tm k (.tup (.str w :: r))) (hk : k ≤ 60) : F_is_simple (.v (stl tb)) (.v (rowsD rows)) (.v (.tup (.str w :: r))) = pV (.bl (simpleS tb rows w r)) := by
  unfold F_is_simple
  have hw := (ho.tup _ (.head _)).shs
  by_cases q : w = "view"
  · subst q
    simp [cmp_eq, f_is_view_step hr hl ho hk, simpleS]
  · by_cases h1 : r.length = 1
    · match r, h1 with
      | [x], _ =>
        cases x with
        | dct ks ds => exact (ho.tup (.dct ks ds) (by simp)).nod.elim
        | str x =>
          have hx := ho.tup (.str x) (by simp)
          have hm := in_mem x (flat_stl tb)
          have e1 := f_told_of hr hl hx
          cases z : isChange w with
          | true =>
            have z' := z
            unfold isChange at z'
            simp [cmp_eq, hw, nb q, q, g_CHANGES, in4, z', simpleS, z, stl, hm]
          | false =>
            have z' := z
            unfold isChange at z'
            simp [cmp_eq, hw, nb q, q, g_CHANGES, in4, z', simpleS, z, e1, notN_row]
        | _ => simp [cmp_eq, hw, nb q, q, simpleS]
    · have h3 : (((r.length + 1 : Nat) : Int) == 2) = false := ne_len (k := 2) (by omega)
      have h4 : bltM .len [pV (.tup (.str w :: r))] = pV (.int ((r.length + 1 : Nat) : Int)) := rfl
      simp only [pW_v, h4, cmpT_v, ne_int, h3]
      simp [cmp_eq, hw, nb q, simple_len q h1]
def isS (w : Str) (s : String) : Bool := w == Str.ofString s
/-- the bodies within an item -/
def innerS (w : Str) (r : List D) : List D := if w = "either" ∨ w = "loop" then r else if w = "walk" then r.drop 1 else []
theorem f_inner {w : Str} {r : List D} (hw : shp (.str w)) : F_inner (.v (.tup (.str w :: r))) = pV (.tup (innerS w r)) := by
  unfold F_inner
  by_cases q : w = "either" ∨ w = "loop"
  · have q' : (w == "either" || w == "loop") = true := by rcases q with rfl | rfl <;> simp
    simp [in2, q', innerS, q]
  · have q' : (w == "either" || w == "loop") = false := by
      rw [not_or] at q
      rw [nb q.1, nb q.2]
      rfl
    by_cases z : w = "walk"
    · subst z
      simp [in2, innerS, cmp_eq]
    · simp [in2, q', innerS, q, z, nb z, cmp_eq, hw]
/-- counts: steps and items -/
def cntD (p : Int × Int) : D := .tup [.int p.1, .int p.2]
def cntO (o : Option (Int × Int)) : D := optD (o.map cntD)
def addC2 (p q : Int × Int) : Int × Int := (p.1 + q.1, p.2 + q.2)
def sumS (f : D → Option (Int × Int)) : List D → Int × Int → Option (Int × Int)
  | [], p => some p
  | d :: r, p => match f d with
    | some q => sumS f r (addC2 p q)
    | none => none
def stepC (f : D → Option (Int × Int)) (p : Int × Int) (d : D) : St (Int × Int) := match f d with
  | some q => .nxt (addC2 p q)
  | none => .ret (.v .non)
theorem loop_cnt (f : D → Option (Int × Int)) : ∀ (ds : List D) (p : Int × Int), loopS (stepC f) ds p = match sumS f ds p with
    | some q => .nxt q
    | none => .ret (.v .non)
  | [], p => rfl
  | d :: r, p => by
    unfold loopS stepC sumS
    cases f d with
    | none => rfl
    | some q => exact loop_cnt f r (addC2 p q)
/-- an item: its counts, where those of the bodies in it are known -/
def itemS (rec : D → Option (Int × Int)) (tb : List Str) (rows : List Row) : D → Option (Int × Int)
  | .tup (.str w :: r) =>
    if w = "either" then (if 2 ≤ r.length ∧ r.length ≤ 4 then sumS rec r (0, 1) else none)
    else if w = "loop" then (if r.length = 1 then sumS rec r (0, 1) else none)
    else if w = "walk" then (match r with
      | [x, b] => match told rows x with
        | some row => if row.lg = true then sumS rec [b] (1, 1) else none
        | none => none
      | _ => none)
    else if simpleS tb rows w r = true then some (1, 1) else none
  | _ => none
/-- a body, that lies so many deep at most under the bound -/
def bodyS (tb : List Str) (rows : List Row) : Nat → D → Option (Int × Int)
  | k + 1, .tup items => sumS (itemS (bodyS tb rows k) tb rows) items (0, 0)
  | _, _ => none
@[simp] theorem isNon_cnt (o : Option (Int × Int)) : isNon (cntO o) = o.isNone := by cases o <;> rfl
theorem isN_cnt (o : Option (Int × Int)) : cmpD .isN (cntO o) .non = some o.isNone := by cases o <;> rfl
theorem notN_cnt (o : Option (Int × Int)) : cmpD .notN (cntO o) .non = some o.isSome := by cases o <;> rfl
theorem f_item {tb : List Str} {rows : List Row} {rec : D → Option (Int × Int)} {m k : Nat} {deep : Int} {d : D} (hr : ∀ r ∈ rows, r.Ok) (hl : rows.length ≤ 5000) (hd : tm k d) (hk : k ≤ 60)
    (hrec : ∀ b, tm k b → F_measured m (.v (stl tb)) (.v (rowsD rows)) (.v b) (.v (.int (deep + 1))) = pV (cntO (rec b))) : F_measured_item (m + 1) (.v (stl tb)) (.v (rowsD rows)) (.v d) (.v (.int deep)) = pV (cntO (itemS rec tb rows d)) := by
  rw [F_measured_item]
  cases d with
  | dct ks ds => exact hd.nod.elim
  | tup ds =>
    have hso : shp (.tup ds) := hd.shp (by omega)
    match ds, hd, hso with
    | [], hd, hso => simp [eq_nilT hso, itemS, cntO]
    | a :: r, hd, hso =>
      cases a with
      | dct ks ds => exact (hd.tup _ (.head _)).nod.elim
      | str w =>
        have hw := (hd.tup _ (.head _)).shs
        have hln : bltM .len [pV (.tup (.str w :: r))] = pV (.int ((r.length + 1 : Nat) : Int)) := rfl
        have hin := f_inner (r := r) hw
        have loop : ∀ (ds : List D) (p : Int × Int), (∀ b ∈ ds, tm k b) → Q.forM pW (M.pure ds) (W.v (cntD p)) (fun (s2 : W) d1 => M.bind (F_measured m (.v (stl tb)) (.v (rowsD rows)) (.v d1) (.v (.int (deep + 1)))) fun v_more =>
            ifM (cmpT .isN (pW v_more) (pV .non)) (pR (.v .non))
            (M.bind (tupM [binM .add (idxM (pW s2) (pV (.int 0))) (idxM (pW v_more) (pV (.int 0))), binM .add (idxM (pW s2) (pV (.int 1))) (idxM (pW v_more) (pV (.int 1)))]) fun v_found_2 =>
            pN v_found_2)) (fun s2 => pW s2) = pV (cntO (sumS rec ds p)) := by
          intro ds p hds
          rw [forM_pure (xs := ds) (fun p => W.v (cntD p)) (stepC rec) (fun _ _ => True) p rfl rfl trivial (fun i p d hi _ hm => ?_), loop_cnt]
          · cases sumS rec ds p <;> rfl
          · refine ⟨?_, fun _ _ => trivial⟩
            simp only [pW_v, hrec d (hds d hm), pV_bind, cmpT_v, is_non, isNon_cnt, ofO_sB]
            unfold stepC
            cases rec d with
            | none => simp [stMap, pR]
            | some q => simp [stMap, cntO, cntD, pN, addC2]
        have hsub : ∀ b ∈ r, tm k b := fun b hb => (hd.tup b (.tail _ hb)).mono (by omega)
        by_cases q1 : w = "either"
        · subst q1
          by_cases z : 2 ≤ r.length ∧ r.length ≤ 4
          · have z1 : (3 : Int) ≤ (r.length : Int) + 1 := by omega
            have z2 : (r.length : Int) + 1 ≤ 5 := by omega
            simp [eq_nilT hso, nin3, cmp_eq, z1, z2, z, hin, innerS, itemS]
            rw [show W.v (D.tup [D.int 0, D.int 1]) = W.v (cntD (0, 1)) from rfl, loop r (0, 1) hsub, cutM_v]
          · have z1 : ((3 : Int) ≤ (r.length : Int) + 1 → ¬ (r.length : Int) + 1 ≤ 5) := by omega
            by_cases y : (3 : Int) ≤ (r.length : Int) + 1
            · simp [eq_nilT hso, nin3, cmp_eq, y, z1 y, z, itemS, cntO]
            · simp [eq_nilT hso, nin3, cmp_eq, y, z, itemS, cntO]
        · by_cases q2 : w = "loop"
          · subst q2
            by_cases z : r.length = 1
            · have z1 : ((r.length : Int) + 1 == 2) = true := by rw [z]; rfl
              simp [eq_nilT hso, nin3, cmp_eq, z1, z, hin, innerS, itemS]
              rw [show W.v (D.tup [D.int 0, D.int 1]) = W.v (cntD (0, 1)) from rfl, loop r (0, 1) hsub, cutM_v]
            · have z1 : ((r.length : Int) + 1 == 2) = false := by rw [beq_eq_false_iff_ne]; omega
              simp [eq_nilT hso, nin3, cmp_eq, z1, z, itemS, cntO]
          · by_cases q3 : w = "walk"
            · subst q3
              by_cases z : r.length = 2
              · match r, z, hd, hso, hin, hsub with
                | [x, b], _, hd, hso, hin, hsub =>
                  have e1 := f_told_of hr hl (hd.tup x (by simp))
                  cases z2 : told rows x with
                  | none => simp [eq_nilT hso, nin3, cmp_eq, e1, z2, itemS, cntO]
                  | some row =>
                    have i2 : idxD row.d (.int 3) = some (.bl row.lg) := idx_3 _ _ _ _ _
                    cases z3 : row.lg with
                    | false => simp [eq_nilT hso, nin3, cmp_eq, e1, z2, itemS, cntO, show isNon row.d = false from rfl, i2, z3]
                    | true =>
                      simp [eq_nilT hso, nin3, cmp_eq, e1, z2, itemS, show isNon row.d = false from rfl, i2, z3, hin, innerS]
                      rw [show W.v (D.tup [D.int 1, D.int 1]) = W.v (cntD (1, 1)) from rfl, loop [b] (1, 1) (fun c hc => hsub c (.tail _ hc)), cutM_v]
              · have z1 : ((r.length : Int) + 1 == 3) = false := by rw [beq_eq_false_iff_ne]; omega
                have e2 : itemS rec tb rows (.tup (.str "walk" :: r)) = none := by
                  simp [itemS]
                  split
                  · exact absurd rfl z
                  · rfl
                simp [eq_nilT hso, nin3, cmp_eq, z1, e2, cntO]
            · have e1 := f_is_simple (tb := tb) hr hl hd hk
              cases z : simpleS tb rows w r <;> simp [eq_nilT hso, nin3, cmp_eq, hw, nb q1, nb q2, nb q3, q1, q2, q3, e1, z, itemS, cntO, cntD]
      | _ => simp [eq_nilT hso, itemS, cntO]
  | _ => simp [itemS, cntO]
/-- both counts' bodies: how deep is told by how much is left -/
theorem f_measured {tb : List Str} {rows : List Row} (hr : ∀ r ∈ rows, r.Ok) (hl : rows.length ≤ 5000) : ∀ (j m : Nat) (b : D) (k : Nat), tm k b → k ≤ 60 → j ≤ 9 → 2 * j + 1 ≤ m → F_measured m (.v (stl tb)) (.v (rowsD rows)) (.v b) (.v (.int (9 - j))) = pV (cntO (bodyS tb rows j b)) := by
  intro j
  induction j with
  | zero =>
    intro m b k hb hk hj hm
    obtain ⟨m, rfl⟩ : ∃ n, m = n + 1 := ⟨m - 1, by omega⟩
    rw [F_measured]
    cases b with
    | dct ks ds => exact hb.nod.elim
    | tup ds => simp [bodyS, cntO]
    | _ => simp [bodyS, cntO]
  | succ j ih =>
    intro m b k hb hk hj hm
    obtain ⟨m, rfl⟩ : ∃ n, m = n + 2 := ⟨m - 2, by omega⟩
    rw [F_measured]
    cases b with
    | dct ks ds => exact hb.nod.elim
    | tup items =>
      have hd : ¬ (8 : Int) < 9 - ((j : Int) + 1) := by omega
      simp only [pW_v, tupM2, pV_bind]
      rw [forM_pure (xs := items) (fun p => W.v (cntD p)) (stepC (itemS (bodyS tb rows j) tb rows)) (fun _ _ => True) (0, 0) (by rfl) (by rfl) trivial (fun i p d hi _ hm => ?_), loop_cnt]
      · simp [hd, bodyS]
        cases sumS (itemS (bodyS tb rows j) tb rows) items (0, 0) <;> simp [cntO]
      · refine ⟨?_, fun _ _ => trivial⟩
        have hit := hb.tup d hm
        have key : F_measured_item (m + 1) (.v (stl tb)) (.v (rowsD rows)) (.v d) (.v (.int (9 - ((j + 1 : Nat) : Int)))) = pV (cntO (itemS (bodyS tb rows j) tb rows d)) := by
          refine f_item hr hl hit (by omega) fun b hb => ?_
          have := ih m b (k - 1) hb (by omega) (by omega) (by omega)
          rw [show (9 : Int) - ((j + 1 : Nat) : Int) + 1 = 9 - j by omega]
          exact this
        simp only [call4_v, key, pV_bind, pW_v, cmpT_v, is_non, isNon_cnt, ofO_sB]
        unfold stepC
        cases itemS (bodyS tb rows j) tb rows d with
        | none => simp [stMap, pR]
        | some q => simp [stMap, cntO, cntD, pN, addC2]
    | _ => simp [bodyS, cntO]
end Sh
end
section
set_option autoImplicit false
set_option maxRecDepth 100000
set_option maxHeartbeats 2000000
namespace Sh
open PySem Q
theorem none_all {α : Type} (p : α → Bool) (l : List α) : (l.filter fun a => !p a).isEmpty = l.all p := by
  induction l with
  | nil => rfl
  | cons a r ih =>
    rw [List.filter_cons, List.all_cons]
    cases h : p a <;> simp [ih]
theorem chr_ok {z : Str} {k : Nat} (h : tm k (.str z)) : ∀ c ∈ z.cps.toList, tS ⟨#[c]⟩ := fun c hc => by
  have h1 : (decide (z.length ≤ 1000) && z.cps.all (· < 0x110000)) = true := h.ok
  rw [Bool.and_eq_true] at h1
  have h2 := h1.2
  rw [Array.all_eq_true_iff_forall_mem] at h2
  have := h2 c (by simpa using hc)
  refine ⟨?_, Nat.zero_le _⟩
  show (decide ((⟨#[c]⟩ : Str).length ≤ 1000) && (#[c] : Array Nat).all (· < 0x110000)) = true
  rw [Bool.and_eq_true, decide_eq_true_eq]
  refine ⟨by show (#[c] : Array Nat).size ≤ 1000; simp, ?_⟩
  simpa using this
theorem f_law_is_label (v : D) {k : Nat} (hv : tm k v) : F__law_is_label (.v v) = pV (.bl (isLab v)) := by
  unfold F__law_is_label
  cases v with
  | dct ks ds => exact hv.nod.elim
  | str z =>
    have hl := hv.strl
    rw [lc_filter0 (xs := z.cps.toList.map fun c => .str ⟨#[c]⟩) (p := fun d => match d with | .str y => !(!(Builtin.Str.occurrences (Str.ofString "abcdefghijklmnopqrstuvwxyz") y 0 (Str.ofString "abcdefghijklmnopqrstuvwxyz").length 1).isEmpty) | _ => true)]
    case hi => simp [walk_str hl]
    case hl => rw [List.length_map, len_cps]; omega
    case ht =>
      intro d hd
      simp only [List.mem_map] at hd
      obtain ⟨c, _, rfl⟩ := hd
      rfl
    rw [List.filter_map, show ((fun d => match d with | .str y => !(!(Builtin.Str.occurrences (Str.ofString "abcdefghijklmnopqrstuvwxyz") y 0 (Str.ofString "abcdefghijklmnopqrstuvwxyz").length 1).isEmpty) | _ => true) ∘ fun c => D.str ⟨#[c]⟩) = fun c => !isLet c from rfl]
    have hs : shp (.lst ((z.cps.toList.filter fun c => !isLet c).map fun c => D.str ⟨#[c]⟩)) := (tmN.of_lst (N := 5000) (k := 0) (by rw [List.length_map]; have := List.length_filter_le (fun c => !isLet c) z.cps.toList; rw [len_cps] at this; omega) fun d hd => by
      rw [List.mem_map] at hd
      obtain ⟨c, hc, rfl⟩ := hd
      exact chr_ok hv c (List.mem_filter.mp hc).1).shp (by omega)
    have he := eq_nilL hs
    rw [List.isEmpty_map, none_all] at he
    simp only [pW_v, isT_v, ty_str_str, ofO_sB, notT_pB, blt1, len_str hl, M.ofO_some, M_pure_pV, chnT_v, le_int, pB_bind, lstM_nil, cmpT_v, he, isLab, Bool.not_true, orT_f]
    by_cases a : (1 : Int) ≤ z.length
    · by_cases b : (z.length : Int) ≤ 8 <;> simp [a, b]
    · simp [a]
  | _ => simp [isLab]
theorem lt_ge {d e : D} (h1 : isLab d = true) (h2 : isLab e = true) : cmpD .ge d e = some (!ltS d e) := by
  obtain ⟨x, rfl⟩ := isLab_str h1
  obtain ⟨y, rfl⟩ := isLab_str h2
  rfl
/-- consecutive items, by their places -/
theorem rise_ix (f : D → D → Bool) : ∀ (ds : List D), ((ds.zip ds.tail).all fun p => f p.1 p.2) = (List.range (ds.length - 1)).all fun i => match ds[i]?, ds[i + 1]? with
    | some d, some e => f d e
    | _, _ => true
  | [] => rfl
  | [_] => rfl
  | a :: b :: r => by
    have ih := rise_ix f (b :: r)
    have e1 : (a :: b :: r).length - 1 = ((b :: r).length - 1) + 1 := rfl
    rw [e1, List.range_succ_eq_map, List.all_cons, List.all_map]
    show (f a b && ((b :: r).zip r).all fun p => f p.1 p.2) = _
    have e2 : ((b :: r).zip r).all (fun p => f p.1 p.2) = ((b :: r).zip (b :: r).tail).all fun p => f p.1 p.2 := rfl
    rw [e2, ih]
    rfl
theorem okI {i : Int} (h1 : -1000000 ≤ i) (h2 : i ≤ 1000000) : okInt i = true := by
  unfold okInt
  rw [decide_eq_true_eq]
  have : (2 : Int) ^ 62 = 4611686018427387904 := by decide
  omega
theorem rng2M_v (a b : D) : rng2M (pV a) (pV b) = rng2W (.v a) (.v b) := rfl
theorem rng2_ok {i j : Int} (h1 : okInt i = true) (h2 : okInt j = true) : rng2W (.v (.int i)) (.v (.int j)) = M.pure (rngD i (j - i).toNat) := if_pos ⟨h1, h2⟩
theorem rng2_len {n : Nat} (h : n ≤ 5000) : rng2M (pV (.int 1)) (pV (.int (n : Int))) = M.pure ((List.range (n - 1)).map fun i : Nat => D.int ((i : Int) + 1)) := by
  have e : rngD 1 ((n : Int) - 1).toNat = (List.range (n - 1)).map fun i : Nat => D.int ((i : Int) + 1) := by
    unfold rngD
    have : ((n : Int) - 1).toNat = n - 1 := by omega
    rw [this]
    exact List.map_congr_left fun i _ => by rw [Int.add_comm]
  rw [rng2M_v, rng2_ok (okI (by omega) (by omega)) (okI (by omega) (by omega)), e]
theorem tm_ints (l : List Nat) (f : Nat → Int) (h : l.length ≤ 5000) : shp (.lst (l.map fun i => D.int (f i))) := (tmN.of_lst (N := 5000) (k := 0) (by rw [List.length_map]; exact h) fun d hd => by
  rw [List.mem_map] at hd
  obtain ⟨i, _, rfl⟩ := hd
  exact tm_int _ _).shp (by omega)
/-- [at for at in range(1, len(ds)) if ds[at - 1] >= ds[at]] == [] -/
theorem lc_rise {ds : List D} {f : D → D → Bool} {t : D → M Bool} {n : Nat} (hn : ds.length = n) (h : n ≤ 5000) (ht : ∀ (i : Nat) d e, ds[i]? = some d → ds[i + 1]? = some e → t (.int ((i : Int) + 1)) = pB (!f d e)) :
    cmpT .eq (lcM false (rng2M (pV (.int 1)) (pV (.int (n : Int)))) t (fun d => pV d)) (lstM []) = pB ((ds.zip ds.tail).all fun p => f p.1 p.2) := by
  subst hn
  rw [rng2_len h, lc_filter0 (p := fun d => match d with
    | .int j => !(match ds[(j - 1).toNat]?, ds[(j - 1).toNat + 1]? with
      | some d, some e => f d e
      | _, _ => true)
    | _ => true) rfl (by rw [List.length_map, List.length_range]; omega) (fun d hd => by
      rw [List.mem_map] at hd
      obtain ⟨i, hj, rfl⟩ := hd
      rw [List.mem_range] at hj
      obtain ⟨d, e1⟩ : ∃ d, ds[i]? = some d := ⟨_, List.getElem?_eq_getElem (by omega)⟩
      obtain ⟨e, e2⟩ : ∃ e, ds[i + 1]? = some e := ⟨_, List.getElem?_eq_getElem (by omega)⟩
      have hq : ((i : Int) + 1 - 1).toNat = i := by omega
      rw [ht i d e e1 e2]
      dsimp only
      rw [hq, e1, e2])]
  have hf : ((List.range (ds.length - 1)).map fun i : Nat => D.int ((i : Int) + 1)).filter (fun d => match d with
    | .int j => !(match ds[(j - 1).toNat]?, ds[(j - 1).toNat + 1]? with
      | some d, some e => f d e
      | _, _ => true)
    | _ => true) = ((List.range (ds.length - 1)).filter fun i => !(match ds[i]?, ds[i + 1]? with
      | some d, some e => f d e
      | _, _ => true)).map fun i : Nat => D.int ((i : Int) + 1) := by
    rw [List.filter_map]
    refine congrArg (List.map _) (List.filter_congr fun i _ => ?_)
    have hq : ((i : Int) + 1 - 1).toNat = i := by omega
    show (!(match ds[((i : Int) + 1 - 1).toNat]?, ds[((i : Int) + 1 - 1).toNat + 1]? with
        | some d, some e => f d e
        | _, _ => true)) = _
    rw [hq]
  rw [hf]
  have hs := tm_ints ((List.range (ds.length - 1)).filter fun i => !(match ds[i]?, ds[i + 1]? with
      | some d, some e => f d e
      | _, _ => true)) (fun i => (i : Int) + 1) (by
    have := List.length_filter_le (fun i => !(match ds[i]?, ds[i + 1]? with
      | some d, some e => f d e
      | _, _ => true)) (List.range (ds.length - 1))
    rw [List.length_range] at this
    omega)
  have he := eq_nilL hs
  rw [List.isEmpty_map, none_all, ← rise_ix f ds] at he
  rw [lstM_nil, cmpT_v, he, ofO_sB]
theorem idx_i {ds : List D} {i : Nat} {d : D} (h : ds[i]? = some d) : idxD (.tup ds) (.int (i : Int)) = some d := idx_at h
theorem idx_i1 {ds : List D} {i : Nat} {d : D} (h : ds[i + 1]? = some d) : idxD (.tup ds) (.int ((i : Int) + 1)) = some d := idx_at (i := i + 1) h
theorem f_law_labels (v : D) (lo hi : Int) {k : Nat} (hv : tm k v) (hk : k ≤ 60) : F__law_labels (.v v) (.v (.int lo)) (.v (.int hi)) = pV (.bl (isLabs v lo hi)) := by
  unfold F__law_labels
  cases v with
  | dct ks ds => exact hv.nod.elim
  | tup ds =>
    have hl := hv.len
    rw [lc_filter0 (xs := ds) (p := fun d => !isLab d) (by rfl) hl (fun d hd => by simp [f_law_is_label d (hv.tup d hd)])]
    have hs : shp (.lst (ds.filter fun d => !isLab d)) := (tmN.of_lst (N := 5000) (k := k - 1) (Nat.le_trans (List.length_filter_le _ _) hl) fun d hd => hv.tup d (List.mem_filter.mp hd).1).shp (by omega)
    have he := ne_nilL hs
    rw [none_all] at he
    by_cases a : lo ≤ ds.length
    · by_cases b : (ds.length : Int) ≤ hi
      · cases q3 : ds.all isLab with
        | false => rw [q3] at he; simp [a, b, q3, isLabs, he]
        | true =>
          rw [q3] at he
          have hr := lc_rise (ds := ds) (f := ltS) (t := fun d2 => cmpT .ge (idxM (pW (.v (.tup ds))) (binM .sub (pV d2) (pV (.int 1)))) (idxM (pW (.v (.tup ds))) (pV d2))) rfl hl (fun i d e h1 h2 => by
            have hq : (i : Int) + 1 - 1 = i := by omega
            rw [List.all_eq_true] at q3
            simp [hq, idx_i h1, idx_i1 h2, lt_ge (q3 _ (List.mem_of_getElem? h1)) (q3 _ (List.mem_of_getElem? h2))])
          have e1 : bltM .len [pW (.v (.tup ds))] = pV (.int (ds.length : Int)) := rfl
          rw [e1, hr]
          simp [a, b, q3, isLabs, he, rising]
      · simp [a, b, isLabs]
    · simp [a, isLabs]
  | _ => simp [isLabs]
def headD (tb : List Str) (rows : List Row) : D := .tup [stl tb, rowsD rows]
theorem f_law_list {tb : D} {rows : List Row} {name : D} {k : Nat} (hr : ∀ r ∈ rows, r.Ok) (hl : rows.length ≤ 5000) (hn : tm k name) : F__law_list (.v (.tup [tb, rowsD rows])) (.v name) = pV (optD ((told rows name).map Row.d)) := by
  have h := f_told_of hr hl hn
  unfold F_told_of at h
  unfold F__law_list
  exact h
theorem begun_nostr {tb : List Str} {rows : List Row} {a x : D} (h : ∀ y, x ≠ .str y) : begunS tb rows (.tup [a, x]) = none := by
  unfold begunS
  split
  · rename_i e
    cases e
    have ht : told rows x = none := by
      cases x with
      | str y => exact absurd rfl (h y)
      | _ => rfl
    split
    · split
      · exact absurd rfl (h _)
      · rfl
    · rw [ht]; split <;> rfl
  · rfl
theorem f_law_source {tb : List Str} {rows : List Row} {src : D} {k : Nat} (hr : ∀ r ∈ rows, r.Ok) (hl : rows.length ≤ 5000) (hn : tm k src) (hk : k ≤ 60) : F__law_source (.v (headD tb rows)) (.v src) = pV (st3 (begunS tb rows src)) := by
  unfold F__law_source headD
  cases src with
  | dct ks ds => exact hn.nod.elim
  | tup ds =>
    by_cases h2 : ds.length = 2
    · match ds, h2 with
      | [a, x], _ =>
        have ha := (hn.tup a (by simp)).shp (by omega)
        have hx := hn.tup x (by simp)
        cases x with
        | dct ks ds => exact hx.nod.elim
        | str y =>
          have hm := in_mem y (flat_stl tb)
          have e1 := f_law_list (tb := stl tb) hr hl hx
          cases a with
          | dct ks ds => exact (hn.tup _ (.head _)).nod.elim
          | str w =>
            by_cases q : w = "table"
            · subst q
              cases q2 : mem y (tb.map .str) <;> simp [cmp_eq, stl, hm, q2, begunS, st3, St3.d]
            · by_cases q3 : w = "of"
              · subst q3
                simp [cmp_eq, begunS, st3, e1]
                cases told rows (.str y) with
                | none => simp
                | some r => simp [row_cut, show isNon r.d = false from rfl]
              · simp [cmp_eq, ha, nb q, nb q3, begunS, st3, e1, q, q3]
          | _ => simp [cmp_eq, ha, begunS, st3, e1]
        | _ =>
          rw [begun_nostr (fun y z => by cases z)]
          simp [st3]
    · have h3 : ((ds.length : Int) == 2) = false := ne_len h2
      simp [h3, begun_len h2, st3]
  | _ => simp [begunS, st3]
end Sh
end
section
set_option autoImplicit false
set_option maxRecDepth 100000
set_option maxHeartbeats 2000000
namespace Sh
open PySem Q
theorem dic3 : dicM ["bykey", "byvalue", "back"] [pV (.str "values"), pV (.str "keys"), pV (.str "")] = pV (.dct ["bykey", "byvalue", "back"] [.str "values", .str "keys", .str ""]) := by
  simp only [dicM, valsM_cons, valsM_nil, M.pure_bind]
  exact if_pos (by decide +kernel)
theorem fine_whole {x : D} {k : Nat} (hx : tm k x) : andT (M.ofO (tyD .int x)) (andT (notT (M.ofO (tyD .bool x))) (M.bind (M.ofO (cmpD .le (.int 1) x)) fun k => if k = true then M.ofO (cmpD .le x (.int 9)) else pB false)) = pB (isWhole x 1 9) := by
  cases x with
  | dct ks ds => exact hx.nod.elim
  | int i => by_cases h : (1 : Int) ≤ i <;> simp [isWhole, h]
  | _ => simp [isWhole]
theorem any_filter {α : Type} (p : α → Bool) (l : List α) : (l.filter p).isEmpty = !l.any p := by
  induction l with
  | nil => rfl
  | cons a r ih =>
    rw [List.filter_cons, List.any_cons]
    cases h : p a <;> simp [ih]
theorem f_law_with_in {tb : D} {rows : List Row} {kd : Str} {nms : List Str} {lg : Bool} {x : D} {k n : Nat} {w : Str} (hr : ∀ r ∈ rows, r.Ok) (hl : rows.length ≤ 5000) (hs : St3.Ok n ⟨kd, nms, lg⟩) (hn : n ≤ 4000) (hx : tm k x) (hw : w = "in" ∨ w = "out") (hk : k ≤ 60) :
    F__law_with (.v (.tup [tb, rowsD rows])) (.v (St3.d ⟨kd, nms, lg⟩)) (.v (.tup [.str w, x])) = pV (st3 (withS rows ⟨kd, nms, lg⟩ (.tup [.str w, x]))) := by
  have hk3 := hs.k3
  have hkd := hs.kd.shs
  have hnm := hs.nms
  have hfew := hs.few
  dsimp only at hk3 hnm hfew hkd
  have ht := f_law_list (tb := tb) hr hl hx
  have hin : (w == "in" || w == "out") = true := by rcases hw with rfl | rfl <;> simp
  have hsw : shp (.str w) := by rcases hw with rfl | rfl <;> simp
  have b0 : w ≠ "back" ∧ w ≠ "keys" ∧ w ≠ "values" ∧ w ≠ "bykey" ∧ w ≠ "byvalue" ∧ w ≠ "first" ∧ w ≠ "last" ∧ w ≠ "keep" ∧ w ≠ "pass" := by rcases hw with rfl | rfl <;> simp
  obtain ⟨b1, b2, b3, b4, b5, b6, b7, b8, b9⟩ := b0
  have hW : withS rows ⟨kd, nms, lg⟩ (.tup [.str w, x]) = if kd = "values" then none else match told rows x with
      | none => none
      | some r => if r.kd = "values" ∨ r.lg = false ∨ (r.nms.any fun n => nms.contains n) = true then none else some ⟨kd, sortS (nms ++ r.nms), lg⟩ := by
    simp only [withS, b6, b7, b8, b9, or_self, if_false]
    rw [if_pos hw]
    try rfl
  rw [hW]
  have hnin : cmpD .notIn (.str w) (.tup [.str (Str.ofString "in"), .str (Str.ofString "out")]) = some false := by rw [nin2, hin]; rfl
  unfold F__law_with
  by_cases q : kd = "values"
  · subst q
    simp [St3.d, un3, st3, cmp_eq, cmp_ne, hsw, in2, hnin, nb b6, nb b7, nb b8, nb b9, ht]
  · cases e : told rows x with
    | none => simp [St3.d, un3, st3, cmp_eq, cmp_ne, hsw, hkd, in2, hnin, nb b6, nb b7, nb b8, nb b9, ht, e, q, nb q]
    | some r =>
      have hrm : r ∈ rows := told_mem e
      have hro := hr r hrm
      have hrk := hro.kd.shs
      have i3 : idxD r.d (.int 3) = some (.bl r.lg) := idx_3 _ _ _ _ _
      have i1 : idxD r.d (.int 1) = some (.str r.kd) := idx_1 _ _ _
      have i2 : idxD r.d (.int 2) = some (stl r.nms) := idx_2 _ _ _ _
      have hnn : isNon r.d = false := rfl
      by_cases z1 : r.kd = "values"
      · have c1 : cmpD .eq (.str r.kd) (.str "values") = some true := by rw [cmp_eq hrk (by simp), z1]; simp
        simp [St3.d, un3, st3, cmp_eq, cmp_ne, hsw, hkd, in2, hnin, nb b6, nb b7, nb b8, nb b9, ht, e, q, nb q, i1, i2, i3, hnn, c1, z1]
      · have c1 : cmpD .eq (.str r.kd) (.str "values") = some false := by rw [cmp_eq hrk (by simp)]; simp [nb z1]
        cases z2 : r.lg with
        | false => simp [St3.d, un3, st3, cmp_eq, cmp_ne, hsw, hkd, in2, hnin, nb b6, nb b7, nb b8, nb b9, ht, e, q, nb q, i1, i2, i3, hnn, c1, z1, z2, nb z1, hrk]
        | true =>
          have hlc : lcM false (M.pure (r.nms.map D.str)) (fun d1 => M.ofO (cmpD .in_ d1 (stl nms))) (fun d1 => pV d1) = pV (.lst ((r.nms.map D.str).filter fun d => memD d (nms.map .str))) := lc_filter0 (by rfl) (by rw [List.length_map]; have := hro.few; omega) fun d hd => by
            rw [List.mem_map] at hd
            obtain ⟨y, _, rfl⟩ := hd
            unfold stl
            rw [in_mem y (flat_stl nms)]
            simp [memD]
          have hne : cmpD .ne (.lst ((r.nms.map D.str).filter fun d => memD d (nms.map .str))) (.lst []) = some (r.nms.any fun n => nms.contains n) := by
            rw [ne_nilL ((tmN.of_lst (N := 5000) (k := 0) (by have := List.length_filter_le (fun d => memD d (nms.map .str)) (r.nms.map D.str); rw [List.length_map] at this; have := hro.few; omega) fun d hd => by
              have := (List.mem_filter.mp hd).1
              rw [List.mem_map] at this
              obtain ⟨y, hy, rfl⟩ := this
              exact hro.nms y hy).shp (by omega)), any_filter, Bool.not_not, List.any_map]
            congr 2
            funext y
            show mem y (nms.map .str) = _
            unfold mem
            rw [List.any_map]
            rw [Bool.eq_iff_iff]
            simp [eqF, List.any_eq_true, Function.comp]
          have hadd := add_tup (xs := nms.map D.str) (ys := r.nms.map D.str) (by rw [List.length_map, List.length_map]; have := hro.few; omega)
          rw [← List.map_append] at hadd
          have hsrt := sorted_stl (nms ++ r.nms) (fun y hy => by
            rcases List.mem_append.mp hy with h | h
            · exact (hnm y h).shs
            · exact (hro.nms y h).shs) (by rw [List.length_append]; have := hro.few; omega)
          dsimp only
          generalize hb : (r.nms.any fun n => nms.contains n) = b at hne ⊢
          simp [St3.d, un3, st3, cmp_eq, cmp_ne, hsw, hkd, in2, hnin, nb b6, nb b7, nb b8, nb b9, ht, e, q, nb q, i1, i2, i3, hnn, c1, z1, z2, nb z1, hrk]
          rw [show (M.ofO (walkD (stl r.nms))) = M.pure (r.nms.map D.str) from rfl, hlc]
          simp only [cmpT_v, hne, ofO_sB]
          cases b
          · simp only [ifM_f, Bool.false_eq_true, if_false]
            rw [show opD .add (stl nms) (stl r.nms) = _ from hadd]
            simp only [M.ofO_some, M_pure_pV, blt1, hsrt, tuple_lst, tupM3, cutM_v, optD_some, Option.map_some]
            rfl
          · simp
theorem f_law_with {tb : D} {rows : List Row} {s : St3} {op : D} {k n : Nat} (hr : ∀ r ∈ rows, r.Ok) (hl : rows.length ≤ 5000) (hs : s.Ok n) (hn : n ≤ 4000) (ho : tm k op) (hk : k ≤ 60) : F__law_with (.v (.tup [tb, rowsD rows])) (.v s.d) (.v op) = pV (st3 (withS rows s op)) := by
  obtain ⟨kd, nms, lg⟩ := s
  have hk3 := hs.k3
  dsimp only at hk3
  cases op with
  | dct ks ds => exact ho.nod.elim
  | tup ds =>
    match ds, ho with
    | [], ho => simp [F__law_with, St3.d, un3, withS, st3]
    | [a], ho =>
      cases a with
      | dct ks ds => exact (ho.tup _ (.head _)).nod.elim
      | str w =>
        have hw := (ho.tup _ (.head _)).shs
        by_cases q0 : w = "back"
        · subst q0
          rcases isKind_or hk3 with r1 | r1 | r1 <;> subst r1 <;> simp [F__law_with, St3.d, un3, withS, st3, cmp_eq, cmp_ne, hw, in_dct, idx_dct, getK_cons, in2, nin2, dic3]
        ·
          by_cases q1 : w = "keys"
          · subst q1
            rcases isKind_or hk3 with r1 | r1 | r1 <;> subst r1 <;> simp [F__law_with, St3.d, un3, withS, st3, cmp_eq, cmp_ne, hw, in_dct, idx_dct, getK_cons, in2, nin2, dic3]
          ·
            by_cases q2 : w = "values"
            · subst q2
              rcases isKind_or hk3 with r1 | r1 | r1 <;> subst r1 <;> simp [F__law_with, St3.d, un3, withS, st3, cmp_eq, cmp_ne, hw, in_dct, idx_dct, getK_cons, in2, nin2, dic3]
            ·
              by_cases q3 : w = "bykey"
              · subst q3
                rcases isKind_or hk3 with r1 | r1 | r1 <;> subst r1 <;> simp [F__law_with, St3.d, un3, withS, st3, cmp_eq, cmp_ne, hw, in_dct, idx_dct, getK_cons, in2, nin2, dic3]
              ·
                by_cases q4 : w = "byvalue"
                · subst q4
                  rcases isKind_or hk3 with r1 | r1 | r1 <;> subst r1 <;> simp [F__law_with, St3.d, un3, withS, st3, cmp_eq, cmp_ne, hw, in_dct, idx_dct, getK_cons, in2, nin2, dic3]
                ·
                  simp [F__law_with, St3.d, un3, withS, st3, cmp_eq, cmp_ne, hw, in_dct, idx_dct, getK_cons, in2, nin2, dic3, q0, nb q0, nb' q0, Ne.symm q0, q1, nb q1, nb' q1, Ne.symm q1, q2, nb q2, nb' q2, Ne.symm q2, q3, nb q3, nb' q3, Ne.symm q3, q4, nb q4, nb' q4, Ne.symm q4]
      | _ => simp [F__law_with, St3.d, un3, withS, st3]
    | [a, x], ho =>
      have hx := ho.tup x (by simp)
      cases a with
      | dct ks ds => exact (ho.tup _ (.head _)).nod.elim
      | str w =>
        have hw := (ho.tup _ (.head _)).shs
        have e1 := f_law_list (tb := tb) hr hl hx
        have hk' : k - 1 ≤ 60 := by omega
        by_cases q0 : w = "first"
        · subst q0
          cases z : isWhole x 1 9
          · have fin := fine_whole hx; rw [z] at fin; simp [F__law_with, St3.d, un3, withS, st3, cmp_eq, cmp_ne, hw, in_dct, idx_dct, getK_cons, in2, nin2, dic3, fin, z]
          · have fin := fine_whole hx; rw [z] at fin; simp [F__law_with, St3.d, un3, withS, st3, cmp_eq, cmp_ne, hw, in_dct, idx_dct, getK_cons, in2, nin2, dic3, fin, z]
        ·
          by_cases q1 : w = "last"
          · subst q1
            cases z : isWhole x 1 9
            · have fin := fine_whole hx; rw [z] at fin; simp [F__law_with, St3.d, un3, withS, st3, cmp_eq, cmp_ne, hw, in_dct, idx_dct, getK_cons, in2, nin2, dic3, fin, z]
            · have fin := fine_whole hx; rw [z] at fin; simp [F__law_with, St3.d, un3, withS, st3, cmp_eq, cmp_ne, hw, in_dct, idx_dct, getK_cons, in2, nin2, dic3, fin, z]
          ·
            by_cases q2 : w = "keep"
            · subst q2
              cases z : isLab x
              · rcases isKind_or hk3 with r1 | r1 | r1 <;> subst r1 <;> simp [F__law_with, St3.d, un3, withS, st3, cmp_eq, cmp_ne, hw, in_dct, idx_dct, getK_cons, in2, nin2, dic3, f_law_is_label x hx, z, e1]
              · rcases isKind_or hk3 with r1 | r1 | r1 <;> subst r1 <;> simp [F__law_with, St3.d, un3, withS, st3, cmp_eq, cmp_ne, hw, in_dct, idx_dct, getK_cons, in2, nin2, dic3, f_law_is_label x hx, z, e1]
            ·
              by_cases q3 : w = "pass"
              · subst q3
                cases z : isLab x
                · rcases isKind_or hk3 with r1 | r1 | r1 <;> subst r1 <;> simp [F__law_with, St3.d, un3, withS, st3, cmp_eq, cmp_ne, hw, in_dct, idx_dct, getK_cons, in2, nin2, dic3, f_law_is_label x hx, z, e1]
                · rcases isKind_or hk3 with r1 | r1 | r1 <;> subst r1 <;> simp [F__law_with, St3.d, un3, withS, st3, cmp_eq, cmp_ne, hw, in_dct, idx_dct, getK_cons, in2, nin2, dic3, f_law_is_label x hx, z, e1]
              ·
                by_cases qi : w = "in" ∨ w = "out"
                · exact f_law_with_in hr hl hs hn hx qi hk'
                · have hni : (w == "in" || w == "out") = false := by
                    rw [not_or] at qi
                    rw [nb qi.1, nb qi.2]; rfl
                  rw [not_or] at qi
                  rcases isKind_or hk3 with r1 | r1 | r1 <;> subst r1 <;> simp [F__law_with, St3.d, un3, withS, st3, cmp_eq, cmp_ne, hw, in_dct, idx_dct, getK_cons, in2, nin2, dic3, q0, nb q0, nb' q0, Ne.symm q0, q1, nb q1, nb' q1, Ne.symm q1, q2, nb q2, nb' q2, Ne.symm q2, q3, nb q3, nb' q3, Ne.symm q3, e1, hni, qi.1, qi.2, nb qi.1, nb qi.2]
      | _ => simp [F__law_with, St3.d, un3, withS, st3]
    | a :: b :: c :: r, ho =>
      have e1 : ¬ ((r.length : Int) + 1 + 1 + 1 ≤ 2) := by omega
      have e2 : withS rows ⟨kd, nms, lg⟩ (.tup (a :: b :: c :: r)) = none := by
        unfold withS
        split
        · rename_i e; cases e
        · rename_i e; cases e
        · rfl
      rw [e2]
      by_cases z : (1 : Int) ≤ (r.length : Int) + 1 + 1 + 1 <;> simp [F__law_with, St3.d, un3, st3, e1, z]
  | _ => simp [F__law_with, St3.d, un3, withS, st3]
end Sh
end
section
set_option autoImplicit false
set_option maxRecDepth 100000
set_option maxHeartbeats 2000000
namespace Sh
open PySem Q
theorem f_law_shape {tb : List Str} {rows : List Row} {src : D} {os : List D} {k l : Nat} (hr : ∀ r ∈ rows, r.Ok) (hl : rows.length ≤ 5000) (hs : tm k src) (hk : k ≤ 60) (ho : tm l (.tup os)) (hl6 : os.length ≤ 6) (hl2 : l ≤ 60) : F__law_shape (.v (headD tb rows)) (.v src) (.v (.tup os)) = pV (st3 (shapeS tb rows src (.tup os))) := by
  unfold F__law_shape
  simp only [pW_v, call2_v, f_law_source hr hl hs hk, pV_bind]
  rw [forM_pure (xs := os) (fun o => W.v (st3 o)) (stepO rows) (fun i o => ∀ s, o = some s → s.Ok (3 + 3 * i)) (begunS tb rows src) (by rfl) (by rfl) (fun s e => begun_ok hr hs e) (fun i o op hi p hm => ?_), loop_ops]
  · simp [shapeS, hl6]
  · have hop := ho.tup op hm
    cases o with
    | none => exact ⟨by simp [stepO, stMap, st3, pN], fun t e => by cases e; intro s z; cases z⟩
    | some s =>
      have hso := p s rfl
      refine ⟨?_, fun t e => ?_⟩
      · have q := f_law_with (tb := stl tb) hr hl hso (by omega) hop (by omega)
        simp only [pW_v, cmpT_v, notN_st3, ofO_sB, Option.isSome_some, ifM_t]
        rw [show st3 (some s) = s.d from rfl]
        unfold headD
        simp only [call3_v, q, pV_bind]
        rfl
      · cases e
        intro t z
        have := with_ok hr hso z
        rw [show 3 + 3 * (i + 1) = 3 + 3 * i + 3 by omega]
        exact this
theorem shape_notup {tb : List Str} {rows : List Row} {src ops : D} (h : ∀ os, ops ≠ .tup os) : shapeS tb rows src ops = none := by
  unfold shapeS
  split
  · exact absurd rfl (h _)
  · rfl
theorem shape_long {tb : List Str} {rows : List Row} {src : D} {os : List D} (h : ¬ os.length ≤ 6) : shapeS tb rows src (.tup os) = none := if_neg h
theorem view_nostr {tb : List Str} {rows : List Row} {a name how src ops : D} (h : ∀ y, how ≠ .str y) : viewS tb rows [a, name, how, src, ops] = false := by
  unfold viewS
  split
  · rename_i e; cases e; exact absurd rfl (h _)
  · rfl
theorem view_none {tb : List Str} {rows : List Row} {a name how src ops : D} (h : shapeS tb rows src ops = none) : viewS tb rows [a, name, how, src, ops] = false := by
  unfold viewS
  split
  · rename_i e; cases e; rw [h]; cases told rows _ <;> simp
  · rfl
theorem f_law_is_simple {tb : List Str} {rows : List Row} {w : Str} {r : List D} {k : Nat} (hr : ∀ r ∈ rows, r.Ok) (hl : rows.length ≤ 5000) (ho : tm k (.tup (.str w :: r))) (hk : k ≤ 60) : F__law_is_simple (.v (headD tb rows)) (.v (.tup (.str w :: r))) = pV (.bl (simpleS tb rows w r)) := by
  unfold F__law_is_simple
  have hw := (ho.tup _ (.head _)).shs
  by_cases q : w = "view"
  · subst q
    have hS : simpleS tb rows "view" r = viewS tb rows (.str "view" :: r) := if_pos rfl
    rw [hS]
    by_cases h5 : r.length = 4
    · match r, h5 with
      | [name, how, src, ops], _ =>
        have h1 := ho.tup name (by simp)
        have h2 := ho.tup src (by simp)
        have h3 := ho.tup ops (by simp)
        cases how with
        | dct ks ds => exact (ho.tup (.dct ks ds) (by simp)).nod.elim
        | str w =>
          cases q : (w == "live" || w == "once") with
          | false => simp [nin2, q, viewS, cmp_eq]
          | true =>
            have e1 := f_law_list (tb := stl tb) hr hl h1
            cases z1 : told rows name with
            | none => simp [nin2, q, viewS, e1, z1, cmp_eq, headD]
            | some r =>
              have hrn : isNon r.d = false := rfl
              cases ops with
              | dct ks ds => exact h3.nod.elim
              | tup os =>
                by_cases h6 : os.length ≤ 6
                · have h6' : ¬ (6 : Int) < os.length := by omega
                  have e2 := f_law_shape (tb := tb) hr hl h2 (by omega) h3 h6 (by omega)
                  unfold headD at e2
                  cases z2 : shapeS tb rows src (.tup os) with
                  | none => simp [nin2, q, viewS, e1, e2, z1, z2, st3, hrn, cmp_eq, headD, h6']
                  | some s =>
                    have hro := hr r (told_mem z1)
                    have hso := shape_ok hr h2 z2
                    have c1 := cmp_eq (shp_2 hso.kd hso.nms (by have := hso.few; omega)) (shp_2 hro.kd hro.nms (by have := hro.few; omega))
                    rw [eqd_2] at c1
                    have i1 : idxD s.d (.int 2) = some (.bl s.lg) := idx_2 _ _ _ _
                    have i2 : idxD r.d (.int 3) = some (.bl r.lg) := idx_3 _ _ _ _ _
                    have c2 : (s.kd == r.kd && s.nms == r.nms) = (r.kd == s.kd && r.nms == s.nms) := by rw [seq_comm s.kd]; congr 1; rw [Bool.eq_iff_iff, beq_iff_eq, beq_iff_eq]; exact eq_comm
                    rw [c2] at c1
                    simp [nin2, q, viewS, e1, e2, z1, z2, st3, hrn, show isNon s.d = false from rfl, row_cut2, st_cut2, c1, i1, i2, cmp_eq, headD, h6']
                · have h6' : (6 : Int) < os.length := by omega
                  rw [view_none (shape_long h6)]
                  simp [nin2, q, e1, z1, hrn, cmp_eq, headD, h6']
              | _ =>
                rw [view_none (shape_notup (fun _ z => by cases z))]
                simp [nin2, q, e1, z1, hrn, cmp_eq, headD]
        | _ =>
          rw [view_nostr (fun _ z => by cases z)]
          simp [cmp_eq]
    · have h3 : ((r.length : Int) + 1 == 5) = false := by rw [beq_eq_false_iff_ne]; omega
      rw [view_len (by rw [List.length_cons]; omega)]
      simp [h3, cmp_eq]
  · by_cases h1 : r.length = 1
    · match r, h1 with
      | [x], _ =>
        cases x with
        | dct ks ds => exact (ho.tup (.dct ks ds) (by simp)).nod.elim
        | str x =>
          have hx := ho.tup (.str x) (by simp)
          have hm := in_mem x (flat_stl tb)
          have e1 := f_law_list (tb := stl tb) hr hl hx
          cases z : isChange w with
          | true =>
            have z' := z
            unfold isChange at z'
            simp [cmp_eq, hw, nb q, q, in4, z', simpleS, z, stl, hm, headD]
          | false =>
            have z' := z
            unfold isChange at z'
            simp [cmp_eq, hw, nb q, q, in4, z', simpleS, z, e1, headD]
        | _ => simp [cmp_eq, hw, nb q, q, simpleS]
    · have h3 : ((r.length : Int) + 1 == 2) = false := by rw [beq_eq_false_iff_ne]; omega
      simp [cmp_eq, hw, nb q, simple_len q h1, h3]
/-- two counts, as the law carries them -/
def cntW (p : Int × Int) : W × W := (.v (.int p.1), .v (.int p.2))
end Sh
end
section
set_option autoImplicit false
set_option maxRecDepth 100000
set_option maxHeartbeats 2000000
namespace Sh
open PySem Q
theorem sum_shift (f : D → Option (Int × Int)) (p : Int × Int) : ∀ (ds : List D) (q : Int × Int), sumS f ds (addC2 p q) = (sumS f ds q).map (addC2 p)
  | [], q => rfl
  | d :: r, q => by
    unfold sumS
    cases f d with
    | none => rfl
    | some u =>
      have e : addC2 (addC2 p q) u = addC2 p (addC2 q u) := by unfold addC2; simp [Int.add_assoc]
      simp only [e]
      exact sum_shift f p r (addC2 q u)
@[simp] theorem eq_bl (a b : Bool) : cmpD .eq (.bl a) (.bl b) = some (a == b) := cmp_eq rfl rfl
@[simp] theorem ne_bl (a b : Bool) : cmpD .ne (.bl a) (.bl b) = some (!(a == b)) := cmp_ne rfl rfl
@[simp] theorem pure_ret {σ : Type} (w : W) : (M.pure (St.ret w) : M (St σ)) = pR w := Eq.trans rfl rfl
@[simp] theorem pW_pR {σ : Type} (w : W) : M.bind (pW w) (pR : W → M (St σ)) = pR w := Eq.trans rfl rfl
theorem f_law_size {tb : List Str} {rows : List Row} (hr : ∀ r ∈ rows, r.Ok) (hl : rows.length ≤ 5000) : ∀ (j m : Nat) (b : D) (k : Nat), tm k b → k ≤ 60 → j ≤ 9 → j + 1 ≤ m → F__law_size m (.v (headD tb rows)) (.v b) (.v (.int (9 - j))) = pV (cntO (bodyS tb rows j b)) := by
  intro j
  induction j with
  | zero =>
    intro m b k hb hk hj hm
    obtain ⟨m, rfl⟩ : ∃ n, m = n + 1 := ⟨m - 1, by omega⟩
    rw [F__law_size]
    cases b with
    | dct ks ds => exact hb.nod.elim
    | tup ds => simp [bodyS, cntO]
    | _ => simp [bodyS, cntO]
  | succ j ih =>
    intro m b k hb hk hj hm
    obtain ⟨m, rfl⟩ : ∃ n, m = n + 1 := ⟨m - 1, by omega⟩
    rw [F__law_size]
    cases b with
    | dct ks ds => exact hb.nod.elim
    | tup items =>
      have hd : ¬ (8 : Int) < 9 - ((j : Int) + 1) := by omega
      simp only [pW_v, pV_bind, vW_v]
      rw [forM_pure (xs := items) cntW (stepC (itemS (bodyS tb rows j) tb rows)) (fun _ _ => True) (0, 0) (by rfl) (by rfl) trivial (fun i p d hi _ hm => ?_), loop_cnt]
      · simp [hd, bodyS]
        cases sumS (itemS (bodyS tb rows j) tb rows) items (0, 0) <;> simp [cntO, cntW, cntD]
      · refine ⟨?_, fun _ _ => trivial⟩
        have hit := hb.tup d hm
        have hrec : ∀ b, tm k b → F__law_size m (.v (headD tb rows)) (.v b) (.v (.int (9 - ((j : Int) + 1) + 1))) = pV (cntO (bodyS tb rows j b)) := fun b hb => by
          have := ih m b k hb hk (by omega) (by omega)
          rw [show (9 : Int) - ((j : Int) + 1) + 1 = 9 - j by omega]
          exact this
        generalize bodyS tb rows j = rec at hrec ⊢
        have loop : ∀ (ds : List D) (q : Int × Int), (∀ b ∈ ds, tm k b) → Q.forM pR (M.pure ds) (W.v (.int q.1), W.v (.int q.2)) (fun (s3 : W × W) d2 =>
            M.bind (F__law_size m (.v (headD tb rows)) (.v d2) (.v (.int (9 - ((j : Int) + 1) + 1)))) fun v_within =>
            ifM (cmpT .isN (pW v_within) (pV .non)) (pR (.v .non))
            (M.bind (binM .add (pW s3.1) (idxM (pW v_within) (pV (.int 0)))) fun v_many_3 =>
            M.bind (binM .add (pW s3.2) (idxM (pW v_within) (pV (.int 1)))) fun v_items_3 =>
            pN (v_many_3, v_items_3))) (fun s3 => pN (s3.1, s3.2)) = M.pure (stMap cntW (match sumS rec ds q with
              | some q => .nxt q
              | none => .ret (.v .non))) := by
          intro ds q hds
          rw [forM_pure (xs := ds) cntW (stepC rec) (fun _ _ => True) q rfl (by rfl) trivial (fun i p d hi _ hm => ?_), loop_cnt]
          · cases sumS rec ds q <;> rfl
          · refine ⟨?_, fun _ _ => trivial⟩
            simp only [pW_v, hrec d (hds d hm), pV_bind, cmpT_v, is_non, isNon_cnt, ofO_sB]
            unfold stepC
            cases rec d with
            | none => simp [stMap]
            | some q => simp [stMap, cntO, cntD, pN, addC2, cntW]
        cases d with
        | dct ks ds => exact hit.nod.elim
        | tup ds =>
          have hso : shp (.tup ds) := hit.shp (by omega)
          match ds, hit, hso with
          | [], hit, hso => simp [eq_nilT hso, itemS, stepC, stMap]
          | a :: r, hit, hso =>
            cases a with
            | dct ks ds => exact (hit.tup _ (.head _)).nod.elim
            | str w =>
              have hw := (hit.tup _ (.head _)).shs
              have hsub : ∀ b ∈ r, tm k b := fun b hb => (hit.tup b (.tail _ hb)).mono (by omega)
              by_cases q1 : w = "either"
              · subst q1
                by_cases z : 2 ≤ r.length ∧ r.length ≤ 4
                · have z1 : ¬ (r.length : Int) < 1 := by omega
                  have z2 : ¬ (4 : Int) < r.length := by omega
                  have z3 : (1 : Int) < r.length := by omega
                  have hS : stepC (itemS rec tb rows) p (.tup (.str "either" :: r)) = (match sumS rec r (addC2 p (0, 1)) with
                    | some q => .nxt q
                    | none => .ret (.v .non)) := by
                    rw [sum_shift]
                    simp [stepC, itemS, z]
                    cases sumS rec r (0, 1) <;> rfl
                  rw [hS, ← loop r _ hsub]
                  simp [eq_nilT hso, in3, nin2, cmp_eq, z1, z2, z3, cntW, addC2]
                · have hS : stepC (itemS rec tb rows) p (.tup (.str "either" :: r)) = .ret (.v .non) := by simp [stepC, itemS, z]
                  rw [hS]
                  by_cases z1 : (r.length : Int) < 1
                  · simp [eq_nilT hso, in3, nin2, cmp_eq, z1, stMap]
                  · by_cases z2 : (4 : Int) < r.length
                    · simp [eq_nilT hso, in3, nin2, cmp_eq, z1, z2, stMap]
                    · have z3 : ¬ (1 : Int) < r.length := by omega
                      simp [eq_nilT hso, in3, nin2, cmp_eq, z1, z2, z3, stMap]
              · by_cases q2 : w = "loop"
                · subst q2
                  by_cases z : r.length = 1
                  · have z1 : ¬ (r.length : Int) < 1 := by omega
                    have z2 : ¬ (4 : Int) < r.length := by omega
                    have z3 : ¬ (1 : Int) < r.length := by omega
                    have hS : stepC (itemS rec tb rows) p (.tup (.str "loop" :: r)) = (match sumS rec r (addC2 p (0, 1)) with
                      | some q => .nxt q
                      | none => .ret (.v .non)) := by
                      rw [sum_shift]
                      simp [stepC, itemS, z]
                      cases sumS rec r (0, 1) <;> rfl
                    rw [hS, ← loop r _ hsub]
                    simp [eq_nilT hso, in3, nin2, cmp_eq, z1, z2, z3, cntW, addC2]
                  · have hS : stepC (itemS rec tb rows) p (.tup (.str "loop" :: r)) = .ret (.v .non) := by simp [stepC, itemS, z]
                    rw [hS]
                    by_cases z1 : (r.length : Int) < 1
                    · simp [eq_nilT hso, in3, nin2, cmp_eq, z1, stMap]
                    · by_cases z2 : (4 : Int) < r.length
                      · simp [eq_nilT hso, in3, nin2, cmp_eq, z1, z2, stMap]
                      · have z3 : (1 : Int) < r.length := by omega
                        simp [eq_nilT hso, in3, nin2, cmp_eq, z1, z2, z3, stMap]
                · by_cases q3 : w = "walk"
                  · subst q3
                    match r, hit, hso, hsub with
                    | [], hit, hso, hsub => simp [eq_nilT hso, in3, nin2, cmp_eq, stepC, itemS, stMap]
                    | x :: bs, hit, hso, hsub =>
                      have y0 : (1 : Int) < (bs.length : Int) + 1 + 1 := by omega
                      have e1 := f_law_list (tb := stl tb) hr hl (hit.tup x (by simp))
                      cases z2 : told rows x with
                      | none =>
                        have hS : stepC (itemS rec tb rows) p (.tup (.str "walk" :: x :: bs)) = .ret (.v .non) := by
                          simp [stepC, itemS]
                          split
                          · rename_i h; revert h; split
                            · rename_i e; cases e; simp [z2]
                            · simp
                          · rfl
                        rw [hS]
                        simp [eq_nilT hso, in3, nin2, cmp_eq, e1, z2, y0, headD, stMap]
                      | some row =>
                        have i2 : idxD row.d (.int 3) = some (.bl row.lg) := idx_3 _ _ _ _ _
                        have hrn : isNon row.d = false := rfl
                        cases z3 : row.lg with
                        | false =>
                          have hS : stepC (itemS rec tb rows) p (.tup (.str "walk" :: x :: bs)) = .ret (.v .non) := by
                            simp [stepC, itemS]
                            split
                            · rename_i h; revert h; split
                              · rename_i e; cases e; simp [z2, z3]
                              · simp
                            · rfl
                          rw [hS]
                          simp [eq_nilT hso, in3, nin2, cmp_eq, e1, z2, y0, headD, stMap, i2, hrn, z3]
                        | true =>
                          by_cases z : bs.length = 1
                          · match bs, z, hit, hso, hsub with
                            | [b], _, hit, hso, hsub =>
                              have hS : stepC (itemS rec tb rows) p (.tup [.str "walk", x, b]) = (match sumS rec [b] (addC2 p (1, 1)) with
                                | some q => .nxt q
                                | none => .ret (.v .non)) := by
                                rw [sum_shift]
                                simp [stepC, itemS, z2, z3]
                                cases sumS rec [b] (1, 1) <;> rfl
                              rw [hS, ← loop [b] _ (fun c hc => hsub c (.tail _ hc))]
                              simp [eq_nilT hso, in3, nin2, cmp_eq, cntW, addC2, e1, z2, headD, i2, hrn, z3]
                          · have hS : stepC (itemS rec tb rows) p (.tup (.str "walk" :: x :: bs)) = .ret (.v .non) := by
                              simp [stepC, itemS]
                              split
                              · rename_i h; revert h; split
                                · rename_i e; cases e; exact absurd rfl z
                                · simp
                              · rfl
                            rw [hS]
                            by_cases z1 : (bs.length : Int) < 1
                            · simp [eq_nilT hso, in3, nin2, cmp_eq, z1, e1, z2, y0, headD, stMap, i2, hrn, z3]
                            · by_cases z4 : (4 : Int) < bs.length
                              · simp [eq_nilT hso, in3, nin2, cmp_eq, z1, z4, e1, z2, y0, headD, stMap, i2, hrn, z3]
                              · have z5 : (1 : Int) < bs.length := by omega
                                simp [eq_nilT hso, in3, nin2, cmp_eq, z1, z4, z5, e1, z2, y0, headD, stMap, i2, hrn, z3]
                  · have e1 := f_law_is_simple (tb := tb) hr hl hit (by omega)
                    have hq : ¬ (w = "either" ∨ w = "loop") := by simp [q1, q2]
                    have lp := loop [] (addC2 p (1, 1)) (fun b hb => by cases hb)
                    cases z : simpleS tb rows w r with
                    | false => simp [eq_nilT hso, in3, nin2, cmp_eq, hw, nb q1, nb q2, nb q3, q1, q2, q3, e1, z, itemS, stepC, stMap]
                    | true =>
                      have hS : stepC (itemS rec tb rows) p (.tup (.str w :: r)) = .nxt (addC2 p (1, 1)) := by simp [stepC, itemS, q1, q2, q3, z]
                      rw [hS]
                      simp only [sumS] at lp
                      rw [← lp]
                      simp [eq_nilT hso, in3, nin2, cmp_eq, hw, nb q1, nb q2, nb q3, e1, z, addC2, cntW]
            | _ => simp [eq_nilT hso, itemS, stepC, stMap]
        | _ => simp [itemS, stepC, stMap]
    | _ => simp [bodyS, cntO]
end Sh
end
section
set_option autoImplicit false
set_option maxRecDepth 100000
set_option maxHeartbeats 2000000
namespace Sh
open PySem Q
/-! the law's heads -/
def stepH (ts : List D) (_ : Unit) (d : D) : St Unit := if isDecl ts d = true then .nxt () else .ret (.v (.bl false))
theorem loop_head (ts : List D) : ∀ ds : List D, loopS (stepH ts) ds () = if ds.all (isDecl ts) = true then .nxt () else .ret (.v (.bl false))
  | [] => rfl
  | d :: r => by
    unfold loopS stepH
    rw [List.all_cons]
    cases isDecl ts d with
    | false => rfl
    | true => exact loop_head ts r
theorem f_law_is_head (t l : D) {k : Nat} (ht : tm k t) (hl : tm k l) (hk : k ≤ 60) : F__law_is_head (.v t) (.v l) = pV (.bl (isHead t l)) := by
  unfold F__law_is_head
  cases q : isLabs t 1 3 with
  | false => simp [f_law_labels _ _ _ ht, hk, q, isHead]
  | true => cases t with
    | tup ts =>
      have hts : ts.all isLab = true := by
        unfold isLabs at q
        simp only [Bool.and_eq_true] at q
        exact q.1.2
      have hf := labs_flat hts
      cases l with
      | dct ks ds => exact hl.nod.elim
      | tup rs =>
        have key : ∀ d ∈ rs, ifM (orT (notT (isT .tuple (pV d))) (orT (cmpT .ne (bltM .len [(pV d)]) (pV (.int 4))) (orT (notT (tst (call1 F__law_is_label (idxM (pV d) (pV (.int 0)))))) (cmpT .in_ (idxM (pV d) (pV (.int 0))) (pW (.v (.tup ts))))))) (M.bind (pV (.bl false)) pR) (ifM (orT (notT (isT .str (idxM (pV d) (pV (.int 1))))) (orT (cmpT .notIn (idxM (pV d) (pV (.int 1))) (tupM [(pV (.str "rows")), (pV (.str "keys")), (pV (.str "values"))])) (notT (isT .bool (idxM (pV d) (pV (.int 3))))))) (M.bind (pV (.bl false)) pR) (ifM (orT (notT (tst (call3 F__law_labels (idxM (pV d) (pV (.int 2))) (pV (.int 1)) (pV (.int 3))))) (cmpT .ne (lcM false (walkM (idxM (pV d) (pV (.int 2)))) (fun d2 => (cmpT .notIn (pV d2) (pW (.v (.tup ts))))) (fun d2 => (pV d2))) (lstM []))) (M.bind (pV (.bl false)) pR) (pN ()))) = M.pure (stMap id (stepH ts () d)) := by
          intro d hd
          have hv := hl.tup d hd
          cases d with
          | dct ks ds => exact hv.nod.elim
          | tup ds =>
            by_cases hl4 : ds.length = 4
            · match ds, hl4 with
              | [a, b, c, d], _ =>
                have ta := hv.tup a (by simp)
                have tc := hv.tup c (by simp)
                cases q : isLab a with
                | false =>
                  have e : isDecl ts (.tup [a, b, c, d]) = false := by unfold isDecl; split <;> simp_all
                  simp [f_law_is_label a ta, q, e, stepH, stMap]
                | true =>
                  obtain ⟨x, rfl⟩ := isLab_str q
                  cases b with
                  | dct ks ds => exact (hv.tup (.dct ks ds) (by simp)).nod.elim
                  | str kd => cases d with
                    | dct ks ds => exact (hv.tup (.dct ks ds) (by simp)).nod.elim
                    | bl lg =>
                      cases c with
                      | dct ks ds => exact tc.nod.elim
                      | tup ns =>
                        have hkd : (kd == "rows" || (kd == "keys" || kd == "values")) = isKind kd := rfl
                        cases q1 : mem x ts
                        · cases q2 : isKind kd
                          · rw [q2] at hkd
                            simp [f_law_is_label _ ta, q, in_mem x hf, nin3, hkd, isDecl, memD, q1, q2, stepH, stMap]
                          · rw [q2] at hkd
                            cases q3 : isLabs (.tup ns) 1 3
                            · simp [f_law_is_label _ ta, q, in_mem x hf, nin3, hkd, isDecl, memD, q1, q2, q3, f_law_labels _ _ _ tc, show k - 1 - 1 ≤ 60 by omega, stepH, stMap]
                            · have hn : ∀ d ∈ ns, ∃ y, d = .str y := fun d hd => by
                                unfold isLabs at q3
                                simp only [Bool.and_eq_true] at q3
                                exact isLab_str (List.all_eq_true.mp q3.1.2 d hd)
                              have hlc : lcM false (M.pure ns) (fun d2 => M.ofO (cmpD .notIn d2 (.tup ts))) (fun d2 => pV d2) = pV (.lst (ns.filter fun d => !memD d ts)) := lc_filter0 (by rfl) tc.len fun d hd => by
                                obtain ⟨y, rfl⟩ := hn d hd
                                simp [notin_mem y hf, memD]
                              have hne : cmpD .ne (.lst (ns.filter fun d => !memD d ts)) (.lst []) = some (!ns.all fun d => memD d ts) := by
                                rw [ne_nilL ((tmN.of_lst (N := 5000) (k := k - 1 - 1 - 1) (Nat.le_trans (List.length_filter_le _ _) tc.len) fun d hd => tc.tup d (List.mem_filter.mp hd).1).shp (by omega)), none_all]
                              generalize hb : (ns.all fun d => memD d ts) = b at hne
                              simp [f_law_is_label _ ta, q, in_mem x hf, nin3, hkd, f_law_labels _ _ _ tc, show k - 1 - 1 ≤ 60 by omega, q1, q3, hlc, hne]
                              unfold stepH isDecl
                              have hm : memD (.str x) ts = false := q1
                              simp only [q, hm, q2, q3, hb]
                              cases b <;> rfl
                        · simp [f_law_is_label _ ta, q, in_mem x hf, isDecl, memD, q1, stepH, stMap]
                      | _ => (have hkd : (kd == "rows" || (kd == "keys" || kd == "values")) = isKind kd := rfl); simp [f_law_is_label _ ta, q, in_mem x hf, nin3, hkd, f_law_labels _ _ _ tc, show k - 1 - 1 ≤ 60 by omega, isDecl, memD, isLabs, stepH, stMap]; (try (cases mem x ts <;> cases isKind kd <;> simp))
                    | _ => (have hkd : (kd == "rows" || (kd == "keys" || kd == "values")) = isKind kd := rfl); simp [f_law_is_label _ ta, q, in_mem x hf, nin3, hkd, isDecl, stepH, stMap]; (try (cases mem x ts <;> cases isKind kd <;> simp))
                  | _ => simp [f_law_is_label _ ta, q, in_mem x hf, isDecl, stepH, stMap]; (try (cases mem x ts <;> simp))
            · have h2 : ((ds.length : Int) == 4) = false := ne_len hl4
              simp [h2, isDecl_len hl4, stepH, stMap]
          | _ => simp [isDecl, stepH, stMap]
        rw [forM_pure (xs := rs) id (stepH ts) (fun _ _ => True) () (by rfl) (by rfl) trivial (fun i t d hi _ hm => ⟨key d hm, fun _ _ => trivial⟩), loop_head]
        have e1 : bltM .len [pW (.v (.tup rs))] = pV (.int (rs.length : Int)) := rfl
        cases q3 : rs.all (isDecl ts) with
        | false =>
          by_cases a : (1 : Int) ≤ rs.length
          · by_cases b : (rs.length : Int) ≤ 5 <;> simp [f_law_labels _ _ _ ht, hk, q, isHead, a, b, q3]
          · simp [f_law_labels _ _ _ ht, hk, q, isHead, a]
        | true =>
          have hr := lc_rise (ds := rs) (f := fstLt) (t := fun d3 => cmpT .ge (idxM (idxM (pW (.v (.tup rs))) (binM .sub (pV d3) (pV (.int 1)))) (pV (.int 0))) (idxM (idxM (pW (.v (.tup rs))) (pV d3)) (pV (.int 0)))) rfl hl.len (fun i d e h1 h2 => by
            have hq : (i : Int) + 1 - 1 = i := by omega
            rw [List.all_eq_true] at q3
            obtain ⟨n, kd, nms, lg, e1⟩ := isDecl_form (q3 _ (List.mem_of_getElem? h1))
            obtain ⟨n', kd', nms', lg', e2⟩ := isDecl_form (q3 _ (List.mem_of_getElem? h2))
            subst e1 e2
            simp [hq, idx_i h1, idx_i1 h2, fstLt, ltS, cmpD])
          simp only [if_true]
          rw [e1, hr]
          by_cases a : (1 : Int) ≤ rs.length
          · by_cases b : (rs.length : Int) ≤ 5 <;> simp [f_law_labels _ _ _ ht, hk, q, isHead, a, b, q3]
          · simp [f_law_labels _ _ _ ht, hk, q, isHead, a]
      | _ => simp [f_law_labels _ _ _ ht, hk, q, isHead]
    | _ => cases q
/-! reading -/
def strOf : D → Str
  | .str x => x
  | _ => ⟨#[]⟩
def namesOf : D → List Str
  | .tup ds => ds.map strOf
  | _ => []
def rowOf : D → Row
  | .tup [.str n, .str kd, nms, .bl lg] => ⟨n, kd, namesOf nms, lg⟩
  | _ => ⟨⟨#[]⟩, ⟨#[]⟩, [], false⟩
def rowsOf : D → List Row
  | .tup ds => ds.map rowOf
  | _ => []
@[simp] theorem namesOf_stl (l : List Str) : namesOf (stl l) = l := by
  show (l.map D.str).map strOf = l
  rw [List.map_map]
  exact List.map_id _
theorem rowOf_d (r : Row) : rowOf r.d = r := by
  show (⟨r.nm, r.kd, namesOf (stl r.nms), r.lg⟩ : Row) = r
  rw [namesOf_stl]
@[simp] theorem rowsOf_rowsD (l : List Row) : rowsOf (rowsD l) = l := by
  show (l.map Row.d).map rowOf = l
  rw [List.map_map]
  have : rowOf ∘ Row.d = id := by funext r; exact rowOf_d r
  rw [this]
  exact List.map_id _
/-- a program -/
def isProg : D → Bool
  | .tup [t, l, b] => isHead t l && (match bodyS (namesOf t) (rowsOf l) 8 b with
    | some p => decide (p.1 ≤ 40) && decide (p.2 ≤ 80)
    | none => false)
  | _ => false
theorem prog_len {ds : List D} (h : ds.length ≠ 3) : isProg (.tup ds) = false := by
  unfold isProg
  split
  · rename_i e; cases e; exact absurd rfl h
  · rfl
theorem decl_ok {ts : List D} {r : Row} {k : Nat} (h : isDecl ts r.d = true) (ht : tm k r.d) : r.Ok := by
  have h1 : isDecl ts (.tup [.str r.nm, .str r.kd, stl r.nms, .bl r.lg]) = true := h
  unfold isDecl at h1
  simp only [Bool.and_eq_true] at h1
  obtain ⟨⟨⟨⟨_, _⟩, h3⟩, h4⟩, _⟩ := h1
  have h5 : isLabs (.tup (r.nms.map .str)) 1 3 = true := h4
  unfold isLabs at h5
  simp only [Bool.and_eq_true, decide_eq_true_eq, List.length_map] at h5
  have hn := ht.tup (stl r.nms) (by simp)
  refine ⟨tm_str0 (ht.tup (.str r.nm) (by simp)), tm_str0 (ht.tup (.str r.kd) (by simp)), fun x hx => tm_str0 (hn.tup (.str x) (List.mem_map_of_mem hx)), by have := h5.1.1.2; omega, h3⟩
/-- a head of a tame program, read -/
theorem head_ok {t l : D} {k : Nat} (h : isHead t l = true) (hl : tm k l) : ∃ H : Head, t = stl H.tb ∧ l = rowsD H.rows ∧ H.Ok ∧ ∀ r ∈ H.rows, r.Ok := by
  obtain ⟨H, rfl, rfl, ok⟩ := isHead_read h
  exact ⟨H, rfl, rfl, ok, fun r hr => decl_ok (ok.rows r hr) (hl.tup _ (List.mem_map_of_mem hr))⟩
theorem f_is_program {v : D} {k : Nat} (hv : tm k v) (hk : k ≤ 60) : F_is_program (.v v) = pV (.bl (isProg v)) := by
  unfold F_is_program
  cases v with
  | dct ks ds => exact hv.nod.elim
  | tup ds =>
    by_cases h3 : ds.length = 3
    · match ds, h3 with
      | [t, l, b], _ =>
        have ht := hv.tup t (by simp)
        have hl := hv.tup l (by simp)
        have hb := hv.tup b (by simp)
        cases q : isHead t l with
        | false => simp [f_is_head t l ht hl, q, isProg]
        | true =>
          have e0 := f_is_head t l ht hl
          obtain ⟨H, rfl, rfl, ok, hr⟩ := head_ok q hl
          have e1 := f_measured (tb := H.tb) hr (by have := ok.few; omega) 8 40 b (k - 1) hb (by omega) (by omega) (by omega)
          rw [show (9 : Int) - ((8 : Nat) : Int) = 1 from rfl] at e1
          cases z : bodyS H.tb H.rows 8 b with
          | none =>
            rw [z] at e1
            simp [e0, q, e1, isProg, z]
          | some p =>
            rw [z] at e1
            have i0 : idxD (cntO (some p)) (.int 0) = some (.int p.1) := idx_0 _ _
            have i1 : idxD (cntO (some p)) (.int 1) = some (.int p.2) := idx_1 _ _ _
            simp [e0, q, e1, isProg, z, i0, i1]
    · have e : ((ds.length : Int) == 3) = false := ne_len h3
      simp [e, prog_len h3]
  | _ => simp [isProg]
theorem f_law_is_program {v : D} {k : Nat} (hv : tm k v) (hk : k ≤ 60) : F__law_is_program (.v v) = pV (.bl (isProg v)) := by
  unfold F__law_is_program
  cases v with
  | dct ks ds => exact hv.nod.elim
  | tup ds =>
    by_cases h3 : ds.length = 3
    · match ds, h3 with
      | [t, l, b], _ =>
        have ht := hv.tup t (by simp)
        have hl := hv.tup l (by simp)
        have hb := hv.tup b (by simp)
        cases q : isHead t l with
        | false => simp [f_law_is_head t l ht hl, show k - 1 ≤ 60 by omega, q, isProg]
        | true =>
          have e0 := f_law_is_head t l ht hl (by omega)
          obtain ⟨H, rfl, rfl, ok, hr⟩ := head_ok q hl
          have e1 := f_law_size (tb := H.tb) hr (by have := ok.few; omega) 8 40 b (k - 1) hb (by omega) (by omega) (by omega)
          rw [show (9 : Int) - ((8 : Nat) : Int) = 1 from rfl] at e1
          unfold headD at e1
          cases z : bodyS H.tb H.rows 8 b with
          | none =>
            rw [z] at e1
            simp [e0, q, e1, isProg, z]
          | some p =>
            rw [z] at e1
            have i0 : idxD (cntO (some p)) (.int 0) = some (.int p.1) := idx_0 _ _
            have i1 : idxD (cntO (some p)) (.int 1) = some (.int p.2) := idx_1 _ _ _
            simp [e0, q, e1, isProg, z, i0, i1]
    · have e : ((ds.length : Int) == 3) = false := ne_len h3
      simp [e, prog_len h3]
  | _ => simp [isProg]
theorem f_law_told {v : D} {k : Nat} (hv : tm k v) (hk : k ≤ 60) : F__law_told (.v v) = pV (.bl true) := by
  unfold F__law_told
  simp [f_is_program hv hk, f_law_is_program hv hk]
end Sh
end
section
set_option autoImplicit false
set_option maxRecDepth 100000
/-! # the shallow side with cells: what surely follows; draws from a deck -/
namespace Sh
open PySem Q
section
variable {α β : Type}
/-- ends without an error, and so -/
def wp (m : M α) (c : Cells) (Q : α → Cells → Prop) : Prop := match m c with
  | .ok a c' => Q a c'
  | _ => False
theorem wp_bind {m : M α} {f : α → M β} {c : Cells} {Q : β → Cells → Prop} (h : wp m c fun a c' => wp (f a) c' Q) : wp (M.bind m f) c Q := by
  unfold wp M.bind at *
  cases e : m c with
  | ok a c' => rw [e] at h; exact h
  | exc x c' => rw [e] at h; exact h
  | bad => rw [e] at h; exact h
theorem wp_pure {a : α} {c : Cells} {Q : α → Cells → Prop} (h : Q a c) : wp (M.pure a) c Q := h
theorem wp_pV {d : D} {c : Cells} {Q : W → Cells → Prop} (h : Q (.v d) c) : wp (pV d) c Q := h
theorem wp_pW {w : W} {c : Cells} {Q : W → Cells → Prop} (h : Q w c) : wp (pW w) c Q := h
theorem wp_imp {m : M α} {c : Cells} {Q R : α → Cells → Prop} (h : wp m c Q) (k : ∀ a c', Q a c' → R a c') : wp m c R := by
  unfold wp at *
  cases e : m c with
  | ok a c' => rw [e] at h; exact k a c' h
  | exc x c' => rw [e] at h; exact h
  | bad => rw [e] at h; exact h
theorem wp_eq {m n : M α} {c : Cells} {Q : α → Cells → Prop} (e : m = n) (h : wp n c Q) : wp m c Q := e ▸ h
theorem wp_ok {m : M α} {c : Cells} {Q : α → Cells → Prop} (h : wp m c Q) : ∃ a c', m c = .ok a c' ∧ Q a c' := by
  unfold wp at h
  cases e : m c with
  | ok a c' => rw [e] at h; exact ⟨a, c', rfl, h⟩
  | exc x c' => rw [e] at h; exact h.elim
  | bad => rw [e] at h; exact h.elim
theorem wp_ifM {t : M Bool} {a b : M α} {c : Cells} {Q : α → Cells → Prop} (h : wp t c fun k c' => wp (if k = true then a else b) c' Q) : wp (ifM t a b) c Q := wp_bind h
/-- a call's end: plain values -/
theorem wp_cut {m : M W} {c : Cells} {Q : W → Cells → Prop} (h : wp m c fun w c' => ∃ d, w = .v d ∧ Q (.v d) (c'.take c.length)) : wp (cutM m) c Q := by
  unfold wp cutM at *
  cases e : m c with
  | ok a c' =>
    rw [e] at h
    obtain ⟨d, rfl, h⟩ := h
    exact h
  | exc x c' => rw [e] at h; exact h
  | bad => rw [e] at h; exact h
/-- .. a cell of its own -/
theorem wp_cutC {m : M W} {c : Cells} {Q : W → Cells → Prop} (h : wp m c fun w c' => ∃ n ds, w = .c n ∧ c.length ≤ n ∧ c'[n]? = some (some ds) ∧ Q (.c c.length) (c'.take c.length ++ [some ds])) : wp (cutM m) c Q := by
  unfold wp cutM at *
  cases e : m c with
  | ok a c' =>
    rw [e] at h
    obtain ⟨n, ds, rfl, hn, h1, h⟩ := h
    have e2 : finish c.length ((Res.ok (W.c n) c').bind fun w c => Res.ok (Fl.ret w) c) = .ok (.c c.length) (c'.take c.length ++ [some ds]) := by
      show (if n < c.length then Res.ok (W.c n) (c'.take c.length) else match c'[n]? with
        | some (some ds) => .ok (.c c.length) (c'.take c.length ++ [some ds])
        | _ => .bad) = _
      rw [if_neg (by omega), h1]
    rw [e2]
    exact h
  | exc x c' => rw [e] at h; exact h
  | bad => rw [e] at h; exact h
end
/-! ### decks -/
/-- a deck: [large, mixed, count] -/
def Dk (B : Int) (ds : List D) : Prop := ∃ a b t : Int, ds = [.int a, .int b, .int t] ∧ 0 ≤ b ∧ b < 2147483579 ∧ 0 ≤ t ∧ t ≤ B
theorem Dk.mono {B C : Int} {ds : List D} (h : Dk B ds) (k : B ≤ C) : Dk C ds := by
  obtain ⟨a, b, t, e, h1, h2, h3, h4⟩ := h
  exact ⟨a, b, t, e, h1, h2, h3, by omega⟩
abbrev mostB : Int := 100000000000
/-- m draws at most k times from the deck at n, changes nothing else, and hands back what P tells -/
def DeckM {α : Type} (n : Nat) (k : Nat) (m : M α) (P : α → Prop) : Prop := ∀ (c : Cells) (ds : List D) (B : Int), c[n]? = some (some ds) → Dk B ds → B + k ≤ mostB →
  wp m c fun a c' => P a ∧ ∃ ds', Dk (B + k) ds' ∧ c' = c.set n (some ds')
section
variable {α β : Type} {n k l : Nat}
theorem set_self {c : Cells} {ds : List D} (h : c[n]? = some (some ds)) : c.set n (some ds) = c := by
  apply List.ext_getElem?
  intro i
  rw [List.getElem?_set]
  split
  · rename_i e
    subst e
    have hl := (List.getElem?_eq_some_iff.mp h).1
    rw [if_pos hl, h]
  · rfl
theorem DeckM.pure {a : α} {P : α → Prop} (h : P a) : DeckM n 0 (M.pure a) P := fun c ds B hc hd _ => ⟨h, ds, hd.mono (by simp), (set_self hc).symm⟩
theorem DeckM.pV {d : D} {P : W → Prop} (h : P (.v d)) : DeckM n 0 (pV d) P := DeckM.pure h
theorem DeckM.mono {m : M α} {P Q : α → Prop} (h : DeckM n k m P) (hk : k ≤ l) (hP : ∀ a, P a → Q a) : DeckM n l m Q := fun c ds B hc hd hB =>
  wp_imp (h c ds B hc hd (by omega)) fun a c' ⟨p, ds', h1, h2⟩ => ⟨hP a p, ds', h1.mono (by omega), h2⟩
theorem get_set {c : Cells} {ds ds' : List D} (h : c[n]? = some (some ds)) : (c.set n (some ds'))[n]? = some (some ds') := by
  have := (List.getElem?_eq_some_iff.mp h).1
  rw [List.getElem?_set_self this]
theorem DeckM.bind {m : M α} {f : α → M β} {P : α → Prop} {Q : β → Prop} (h : DeckM n k m P) (g : ∀ a, P a → DeckM n l (f a) Q) : DeckM n (k + l) (M.bind m f) Q := fun c ds B hc hd hB =>
  wp_bind (wp_imp (h c ds B hc hd (by omega)) fun a c' ⟨p, ds', h1, h2⟩ => by
    subst h2
    refine wp_imp (g a p (c.set n (some ds')) ds' (B + k) (get_set hc) h1 (by omega)) fun b c' ⟨q, ds2, h3, h4⟩ => ⟨q, ds2, ?_, ?_⟩
    · rw [show B + ((k + l : Nat) : Int) = B + k + l by omega]; exact h3
    · rw [h4, List.set_set])
theorem DeckM.eq {m m' : M α} {P : α → Prop} (e : m = m') (h : DeckM n k m' P) : DeckM n k m P := e ▸ h
theorem DeckM.cut {m : M W} {P : W → Prop} (h : DeckM n k m P) (hv : ∀ w, P w → ∃ d, w = .v d) : DeckM n k (cutM m) P := fun c ds B hc hd hB =>
  wp_cut (wp_imp (h c ds B hc hd hB) fun w c' ⟨p, ds', h1, h2⟩ => by
    obtain ⟨d, rfl⟩ := hv w p
    refine ⟨d, rfl, p, ds', h1, ?_⟩
    rw [h2]
    exact List.take_of_length_le (by simp))
theorem DeckM.ite {p : Prop} [Decidable p] {a b : M α} {P : α → Prop} (h : p → DeckM n k a P) (g : ¬ p → DeckM n k b P) : DeckM n k (if p then a else b) P := by
  split
  · exact h ‹_›
  · exact g ‹_›
/-- .. what it is at a list of tries -/
theorem DeckM.loop {σ : Type} {f : σ → D → M (Q.St σ)} {I : σ → Prop} {R : W → Prop} : ∀ (xs : List D) (s : σ), I s → (∀ s d, I s → d ∈ xs → DeckM n k (f s d) fun r => match r with
    | .nxt s => I s
    | .ret w => R w) → DeckM n (k * xs.length) (loopL f xs s) fun r => match r with
    | .nxt s => I s
    | .ret w => R w
  | [], s, hs, _ => by
    rw [List.length_nil, Nat.mul_zero]
    exact DeckM.pure hs
  | d :: r, s, hs, h => by
    have e : k * (d :: r).length = k + k * r.length := by rw [List.length_cons, Nat.mul_succ, Nat.add_comm]
    rw [e]
    refine DeckM.bind (h s d hs (.head _)) fun a ha => ?_
    cases a with
    | nxt s' => exact DeckM.loop r s' ha fun s d hs hd => h s d hs (.tail _ hd)
    | ret w => exact DeckM.mono (l := k * r.length) (DeckM.pure (n := n) (a := (.ret w : Q.St σ)) (P := fun r => match r with
      | .nxt s => I s
      | .ret w => R w) ha) (Nat.zero_le _) fun _ h => h
theorem DeckM.forM {σ : Type} {rt : W → M β} {it : M (List D)} {xs : List D} {s : σ} {f : σ → D → M (Q.St σ)} {g : σ → M β} {I : σ → Prop} {R : W → Prop} {P : β → Prop} (hi : it = M.pure xs) (hs : I s) (h : ∀ s d, I s → d ∈ xs → DeckM n k (f s d) fun r => match r with
    | .nxt s => I s
    | .ret w => R w) (hg : ∀ s, I s → DeckM n l (g s) P) (hr : ∀ w, R w → DeckM n l (rt w) P) : DeckM n (k * xs.length + l) (Q.forM rt it s f g) P := by
  unfold Q.forM
  rw [hi, M.pure_bind]
  refine DeckM.bind (DeckM.loop xs s hs h) fun a ha => ?_
  cases a with
  | nxt s => exact hg s ha
  | ret w => exact hr w ha
end
end Sh
namespace Sh
open PySem Q
section
variable {α β : Type} {n k l : Nat}
theorem wp_deck {m : M α} {P : α → Prop} {c : Cells} {ds : List D} {B : Int} {Q : α → Cells → Prop} (h : DeckM n k m P) (hc : c[n]? = some (some ds)) (hd : Dk B ds) (hB : B + k ≤ mostB) (q : ∀ a ds', P a → Dk (B + k) ds' → Q a (c.set n (some ds'))) : wp m c Q :=
  wp_imp (h c ds B hc hd hB) fun a c' ⟨p, ds', h1, h2⟩ => by rw [h2]; exact q a ds' p h1
theorem wp_loop {σ : Type} {f : σ → D → M (Q.St σ)} {I : Nat → σ → Cells → Prop} {R : W → Cells → Prop} (N : Nat) : ∀ (xs : List D) (i : Nat) (s : σ) (c : Cells), i + xs.length ≤ N → I i s c → (∀ i s c d, i < N → I i s c → d ∈ xs → wp (f s d) c fun r c' => match r with
    | .nxt s => I (i + 1) s c'
    | .ret w => R w c') → wp (loopL f xs s) c fun r c' => match r with
    | .nxt s => I (i + xs.length) s c'
    | .ret w => R w c'
  | [], i, s, c, _, hs, _ => wp_pure hs
  | d :: r, i, s, c, hN, hs, h => by
    rw [List.length_cons] at hN
    refine wp_bind (wp_imp (h i s c d (by omega) hs (.head _)) fun a c' ha => ?_)
    cases a with
    | nxt s' =>
      have := wp_loop N r (i + 1) s' c' (by omega) ha fun i s c d hi hs hd => h i s c d hi hs (.tail _ hd)
      rw [List.length_cons, show i + (r.length + 1) = i + 1 + r.length by omega]
      exact this
    | ret w => exact wp_pure ha
theorem wp_forM {σ : Type} {rt : W → M β} {it : M (List D)} {xs : List D} {s : σ} {f : σ → D → M (Q.St σ)} {g : σ → M β} {I : Nat → σ → Cells → Prop} {R : W → Cells → Prop} {c : Cells} {Q : β → Cells → Prop} (hi : it = M.pure xs) (hs : I 0 s c) (h : ∀ i s c d, i < xs.length → I i s c → d ∈ xs → wp (f s d) c fun r c' => match r with
    | .nxt s => I (i + 1) s c'
    | .ret w => R w c') (hg : ∀ s c, I xs.length s c → wp (g s) c Q) (hr : ∀ w c, R w c → wp (rt w) c Q) : wp (_root_.Q.forM rt it s f g) c Q := by
  unfold _root_.Q.forM
  rw [hi, M.pure_bind]
  refine wp_bind (wp_imp (wp_loop xs.length xs 0 s c (by omega) hs h) fun a c' ha => ?_)
  cases a with
  | nxt s =>
    rw [Nat.zero_add] at ha
    exact hg s c' ha
  | ret w => exact hr w c' ha
/-! displays -/
theorem valsM_eq (m : M W) (r : List (M W)) : valsM (m :: r) = M.bind m fun w => M.bind (seqM r) fun ws => M.ofO (vals (w :: ws)) := by
  show M.bind (M.bind m fun w => M.bind (seqM r) fun ws => M.pure (w :: ws)) _ = _
  simp only [M.bind_assoc, M.pure_bind]
theorem vals_bind (d : D) (r : List (M W)) : (M.bind (seqM r) fun ws => M.ofO (vals (.v d :: ws))) = M.bind (valsM r) fun ds => M.pure (d :: ds) := by
  have := valsM_cons d r
  rw [valsM_eq] at this
  exact this
theorem wp_vals_nil {c : Cells} {Q : List D → Cells → Prop} (q : Q [] c) : wp (valsM []) c Q := q
theorem wp_vals_cons {m : M W} {r : List (M W)} {c : Cells} {Q : List D → Cells → Prop} (h : wp m c fun w c' => ∃ d, w = .v d ∧ wp (valsM r) c' fun ds c2 => Q (d :: ds) c2) : wp (valsM (m :: r)) c Q := by
  rw [valsM_eq]
  refine wp_bind (wp_imp h fun w c' ⟨d, e, q⟩ => ?_)
  subst e
  rw [vals_bind]
  exact wp_bind (wp_imp q fun ds c2 q => wp_pure q)
theorem wp_tup {ms : List (M W)} {c : Cells} {Q : W → Cells → Prop} (h : wp (valsM ms) c fun ds c' => ds.length ≤ 5000 ∧ Q (.v (.tup ds)) c') : wp (tupM ms) c Q :=
  wp_bind (wp_imp h fun ds c' ⟨h1, h2⟩ => wp_eq (szM_ok h1) h2)
theorem DeckM.vals_nil {P : List D → Prop} (h : P []) : DeckM n 0 (valsM []) P := DeckM.pure h
theorem DeckM.vals_cons {m : M W} {r : List (M W)} {P : D → Prop} {R : List D → Prop} (h : DeckM n k m fun w => ∃ d, w = .v d ∧ P d) (g : ∀ d, P d → DeckM n l (valsM r) fun ds => R (d :: ds)) : DeckM n (k + l) (valsM (m :: r)) R := by
  rw [valsM_eq]
  refine DeckM.bind h fun w ⟨d, e, p⟩ => ?_
  subst e
  rw [vals_bind]
  exact DeckM.mono (k := l + 0) (DeckM.bind (g d p) fun ds q => DeckM.pure q) (by omega) fun _ h => h
theorem DeckM.tup {ms : List (M W)} {P : W → Prop} (h : DeckM n k (valsM ms) fun ds => ds.length ≤ 5000 ∧ P (.v (.tup ds))) : DeckM n k (tupM ms) P :=
  DeckM.mono (k := k + 0) (DeckM.bind h fun ds ⟨h1, h2⟩ => DeckM.eq (szM_ok h1) (DeckM.pV h2)) (by omega) fun _ h => h
theorem DeckM.lst {ms : List (M W)} {P : W → Prop} (h : DeckM n k (valsM ms) fun ds => ds.length ≤ 5000 ∧ P (.v (.lst ds))) : DeckM n k (lstM ms) P :=
  DeckM.mono (k := k + 0) (DeckM.bind h fun ds ⟨h1, h2⟩ => DeckM.eq (szM_ok h1) (DeckM.pV h2)) (by omega) fun _ h => h
/-! cells of one's own behind those that were there -/
theorem get_app {c X : Cells} (h : n < c.length) : (c ++ X)[n]? = c[n]? := List.getElem?_append_left h
theorem set_app {c X : Cells} {v : Option (List D)} (h : n < c.length) : (c ++ X).set n v = c.set n v ++ X := List.set_append_left _ _ h
theorem get_own {c : Cells} {v : Option (List D)} {X : Cells} : (c ++ v :: X)[c.length]? = some v := by simp
theorem get_own1 {c : Cells} {u v : Option (List D)} {X : Cells} : (c ++ u :: v :: X)[c.length + 1]? = some v := by simp
theorem set_own {c : Cells} {u v : Option (List D)} {X : Cells} : (c ++ v :: X).set c.length u = c ++ u :: X := by
  rw [List.set_append_right _ _ (Nat.le_refl _)]
  simp
theorem set_own1 {c : Cells} {t u v : Option (List D)} {X : Cells} : (c ++ u :: v :: X).set (c.length + 1) t = c ++ u :: t :: X := by
  rw [List.set_append_right _ _ (by omega)]
  simp
theorem wp_newC {ds : List D} {c : Cells} {Q : W → Cells → Prop} (q : Q (.c c.length) (c ++ [some ds])) : wp (newC ds) c Q := q
theorem wp_cel {ms : List (M W)} {c : Cells} {Q : W → Cells → Prop} (h : wp (valsM ms) c fun ds c' => ds.length ≤ 5000 ∧ Q (.c c'.length) (c' ++ [some ds])) : wp (celM ms) c Q :=
  wp_bind (wp_imp h fun ds c' ⟨h1, h2⟩ => wp_eq (szM_ok h1) h2)
theorem wp_appC {L : Nat} {e : M W} {c : Cells} {Q : W → Cells → Prop} (h : wp e c fun w c' => ∃ d ds, w = .v d ∧ c'[L]? = some (some ds) ∧ ds.length ≤ 5000 ∧ Q (.v .non) (c'.set L (some (ds ++ [d])))) : wp (appM (pW (.c L)) e) c Q := by
  show wp (M.bind e _) c Q
  refine wp_bind (wp_imp h fun w c' ⟨d, ds, e, h1, h2, q⟩ => ?_)
  subst e
  unfold wp
  dsimp only
  rw [h1]
  dsimp only
  rw [if_pos (Nat.lt_of_le_of_lt h2 (by decide +kernel))]
  exact q
theorem wp_popC {L : Nat} {e : M W} {c : Cells} {Q : W → Cells → Prop} (h : wp e c fun w c' => ∃ (i : Nat) (d : D) (ds : List D), w = .v (.int i) ∧ c'[L]? = some (some ds) ∧ ds[i]? = some d ∧ i < 2 ^ 62 ∧ Q (.v d) (c'.set L (some (ds.eraseIdx i)))) : wp (popM (pW (.c L)) e) c Q := by
  show wp (M.bind e _) c Q
  refine wp_bind (wp_imp h fun w c' ⟨i, d, ds, e, h1, h2, h3, q⟩ => ?_)
  subst e
  unfold wp
  dsimp only
  rw [h1]
  dsimp only
  have hl := (List.getElem?_eq_some_iff.mp h2).1
  rw [if_pos ⟨by omega, by omega, by omega⟩, Int.toNat_natCast, h2]
  exact q
end
end Sh
namespace Sh
open PySem Q
section
variable {α β : Type} {n k l : Nat}
theorem DeckM.loopI {σ : Type} {f : σ → D → M (Q.St σ)} {I : Nat → σ → Prop} {R : W → Prop} (N : Nat) : ∀ (xs : List D) (i : Nat) (s : σ), i + xs.length ≤ N → I i s → (∀ i s d, i < N → I i s → d ∈ xs → DeckM n k (f s d) fun r => match r with
    | .nxt s => I (i + 1) s
    | .ret w => R w) → DeckM n (k * xs.length) (loopL f xs s) fun r => match r with
    | .nxt s => I (i + xs.length) s
    | .ret w => R w
  | [], i, s, _, hs, _ => by
    rw [List.length_nil, Nat.mul_zero]
    exact DeckM.pure hs
  | d :: r, i, s, hN, hs, h => by
    rw [List.length_cons] at hN
    have e : k * (d :: r).length = k + k * r.length := by rw [List.length_cons, Nat.mul_succ, Nat.add_comm]
    rw [e]
    refine DeckM.bind (h i s d (by omega) hs (.head _)) fun a ha => ?_
    cases a with
    | nxt s' =>
      have := DeckM.loopI N r (i + 1) s' (by omega) ha fun i s d hi hs hd => h i s d hi hs (.tail _ hd)
      rw [List.length_cons, show i + (r.length + 1) = i + 1 + r.length by omega]
      exact this
    | ret w => exact DeckM.mono (l := k * r.length) (DeckM.pure (n := n) (a := (.ret w : Q.St σ)) (P := fun r' => match r' with
      | .nxt s => I (i + (d :: r).length) s
      | .ret w => R w) ha) (Nat.zero_le _) fun _ h => h
theorem DeckM.forI {σ : Type} {rt : W → M β} {it : M (List D)} {xs : List D} {s : σ} {f : σ → D → M (Q.St σ)} {g : σ → M β} {I : Nat → σ → Prop} {R : W → Prop} {P : β → Prop} (hi : it = M.pure xs) (hs : I 0 s) (h : ∀ i s d, i < xs.length → I i s → d ∈ xs → DeckM n k (f s d) fun r => match r with
    | .nxt s => I (i + 1) s
    | .ret w => R w) (hg : ∀ s, I xs.length s → DeckM n l (g s) P) (hr : ∀ w, R w → DeckM n l (rt w) P) : DeckM n (k * xs.length + l) (Q.forM rt it s f g) P := by
  unfold Q.forM
  rw [hi, M.pure_bind]
  refine DeckM.bind (DeckM.loopI xs.length xs 0 s (by omega) hs h) fun a ha => ?_
  cases a with
  | nxt s =>
    rw [Nat.zero_add] at ha
    exact hg s ha
  | ret w => exact hr w ha
theorem DeckM.forE {σ : Type} {rt : W → M β} {it : M (List D)} {s : σ} {f : σ → D → M (Q.St σ)} {g : σ → M β} {P : List D → Prop} {R : β → Prop} (h : DeckM n k it P) (q : ∀ xs, P xs → DeckM n l (Q.forM rt (M.pure xs) s f g) R) : DeckM n (k + l) (Q.forM rt it s f g) R := DeckM.bind h q
end
end Sh
namespace Sh
open PySem Q
/-- a comprehension with effects -/
theorem wp_mapC {f : D → M (List D)} {I : Nat → List D → Cells → Prop} (N : Nat) : ∀ (xs : List D) (i : Nat) (acc : List D) (c : Cells), i + xs.length ≤ N → I i acc c → (∀ i acc c d, i < N → I i acc c → d ∈ xs → wp (f d) c fun ys c' => I (i + 1) (acc ++ ys) c') → wp (mapC f xs) c fun ys c' => I (i + xs.length) (acc ++ ys) c'
  | [], i, acc, c, _, hs, _ => by
    show I (i + 0) (acc ++ []) c
    rw [List.append_nil]
    exact hs
  | d :: r, i, acc, c, hN, hs, h => by
    rw [List.length_cons] at hN
    obtain ⟨ys, c1, e1, h1⟩ := wp_ok (h i acc c d (by omega) hs (.head _))
    obtain ⟨zs, c2, e2, h2⟩ := wp_ok (wp_mapC N r (i + 1) (acc ++ ys) c1 (by omega) h1 fun i acc c d hi hs hd => h i acc c d hi hs (.tail _ hd))
    have e : mapC f (d :: r) c = .ok (ys ++ zs) c2 := by
      show (noExc (f d c)).bind _ = _
      rw [e1]
      show (mapC f r c1).bind _ = _
      rw [e2]
      rfl
    unfold wp
    rw [e]
    show I (i + (r.length + 1)) (acc ++ (ys ++ zs)) c2
    rw [← List.append_assoc, show i + (r.length + 1) = i + 1 + r.length by omega]
    exact h2
end Sh
namespace Sh
open PySem Q
theorem wp_loopW {σ : Type} {t : σ → M Bool} {f : σ → M (Q.St σ)} {I : Nat → σ → Cells → Prop} {J : σ → Cells → Prop} {R : W → Cells → Prop} (h : ∀ k s c, I k s c → wp (t s) c fun b c' => if b = true then ∃ j, k = j + 1 ∧ wp (f s) c' fun r c2 => match r with
    | .nxt s => I j s c2
    | .ret w => R w c2
    else J s c') : ∀ (N k : Nat) (s : σ) (c : Cells), k < N → I k s c → wp (loopW t f N s) c fun r c' => match r with
    | .nxt s => J s c'
    | .ret w => R w c'
  | 0, k, s, c, hk, _ => by omega
  | N + 1, k, s, c, hk, hi => by
    refine wp_bind (wp_imp (h k s c hi) fun b c' hb => ?_)
    cases b with
    | false =>
      rw [if_neg (by simp)] at hb
      rw [if_neg (by simp)]
      exact wp_pure hb
    | true =>
      rw [if_pos rfl] at hb
      rw [if_pos rfl]
      obtain ⟨j, e, hb⟩ := hb
      refine wp_bind (wp_imp hb fun r c2 hr => ?_)
      cases r with
      | nxt s' => exact wp_loopW h N j s' c2 (by omega) hr
      | ret w => exact wp_pure hr
theorem wp_whlM {σ β : Type} {rt : W → M β} {N : Nat} {s : σ} {t : σ → M Bool} {f : σ → M (Q.St σ)} {g : σ → M β} {I : Nat → σ → Cells → Prop} {J : σ → Cells → Prop} {R : W → Cells → Prop} {c : Cells} {Q : β → Cells → Prop} (k : Nat) (hk : k < N) (hs : I k s c) (h : ∀ k s c, I k s c → wp (t s) c fun b c' => if b = true then ∃ j, k = j + 1 ∧ wp (f s) c' fun r c2 => match r with
    | .nxt s => I j s c2
    | .ret w => R w c2
    else J s c') (hg : ∀ s c, J s c → wp (g s) c Q) (hr : ∀ w c, R w c → wp (rt w) c Q) : wp (whlM rt N s t f g) c Q := by
  refine wp_bind (wp_imp (wp_loopW h N k s c hk hs) fun r c' hr' => ?_)
  cases r with
  | nxt s => exact hg s c' hr'
  | ret w => exact hr w c' hr'
theorem wp_andT {s t : M Bool} {c : Cells} {Q : Bool → Cells → Prop} (h : wp s c fun b c' => if b = true then wp t c' Q else Q false c') : wp (andT s t) c Q := by
  refine wp_bind (wp_imp h fun b c' hb => ?_)
  cases b with
  | false => rw [if_neg (by simp)] at hb ⊢; exact hb
  | true => rw [if_pos rfl] at hb ⊢; exact hb
theorem wp_orT {s t : M Bool} {c : Cells} {Q : Bool → Cells → Prop} (h : wp s c fun b c' => if b = true then Q true c' else wp t c' Q) : wp (orT s t) c Q := by
  refine wp_bind (wp_imp h fun b c' hb => ?_)
  cases b with
  | false => rw [if_neg (by simp)] at hb ⊢; exact hb
  | true => rw [if_pos rfl] at hb ⊢; exact hb
end Sh
end
section
set_option autoImplicit false
set_option maxRecDepth 100000
set_option maxHeartbeats 2000000
namespace Sh
open PySem Q
/-- m, at the cells c, is d and changes nothing -/
def At (m : M W) (c : Cells) (d : D) : Prop := m c = .ok (.v d) c
theorem at_pV {d : D} {c : Cells} : At (pV d) c d := rfl
theorem at_pW {d : D} {c : Cells} : At (pW (.v d)) c d := rfl
theorem rd_c {c : Cells} {n : Nat} {ds : List D} (h : c[n]? = some (some ds)) : rd c (.c n) = some (.lst ds) := by
  show (match c[n]? with
    | some (some ds) => some (D.lst ds)
    | _ => none) = _
  rw [h]
theorem cell_c {c : Cells} {n : Nat} {ds : List D} (h : c[n]? = some (some ds)) : cellAt (.c n) c = some (n, ds) := by
  show (match c[n]? with
    | some (some ds) => some (n, ds)
    | _ => none) = _
  rw [h]
theorem at_idxC {c : Cells} {n : Nat} {ds : List D} {i : Int} {d : D} (h : c[n]? = some (some ds)) (h2 : idxD (.lst ds) (.int i) = some d) : At (idxM (pW (.c n)) (pV (.int i))) c d := by
  show (rdR (.c n) c).bind _ = _
  unfold rdR
  rw [rd_c h]
  show (M.bind (valM (.v (.int i))) fun y => M.bind (M.ofO (idxD (.lst ds) y)) fun d => pV d) c = _
  rw [valM_v, M.pure_bind, h2]
  rfl
theorem at_bin {o : Op} {a b : M W} {c : Cells} {x y z : D} (h : At a c x) (g : At b c y) (e : opD o x y = some z) : At (binM o a b) c z := by
  show (a c).bind _ = _
  rw [show a c = _ from h]
  show (b c).bind _ = _
  rw [show b c = _ from g]
  show (M.bind (M.ofO (opD o x y)) fun d => pV d) c = _
  rw [e]
  rfl
theorem at_blt1 {f : Blt} {a : M W} {c : Cells} {x z : D} (h : At a c x) (e : bltD f [x] = some z) : At (bltM f [a]) c z := by
  show ((((a c).bind fun w c => (Res.ok [] c).bind fun ws c => .ok (w :: ws) c)).bind fun ws c => .ofO (rdAll c ws) c).bind (fun ds => (M.bind (M.ofO (bltD f ds)) fun d => pV d)) = _
  rw [show a c = _ from h]
  show (M.bind (M.ofO (bltD f [x])) fun d => pV d) c = _
  rw [e]
  rfl
theorem wp_at {m : M W} {c : Cells} {d : D} {Q : W → Cells → Prop} (h : At m c d) (q : Q (.v d) c) : wp m c Q := by
  unfold wp
  rw [show m c = _ from h]
  exact q
theorem wp_cmp {o : Cmp} {a b : M W} {c : Cells} {x y : D} {k : Bool} {Q : Bool → Cells → Prop} (h : At a c x) (g : At b c y) (e : cmpD o x y = some k) (q : Q k c) : wp (cmpT o a b) c Q := by
  unfold cmpT
  refine wp_bind (wp_at h (wp_bind (wp_at g ?_)))
  simp only [rdM_v, M.pure_bind, e]
  exact q
/-- a change of a cell -/
theorem wp_setC {α : Type} {c : Cells} {n : Nat} {ds : List D} {i : Int} {j : Nat} {d : D} {k : M α} {Q : α → Cells → Prop} (h : c[n]? = some (some ds)) (h2 : L2.ixN ds.length i = some j) (q : wp k (c.set n (some (ds.set j d))) Q) : wp (setW (.c n) (.v (.int i)) (.v d) k) c Q := by
  unfold setW
  refine wp_bind ?_
  unfold wp updW
  rw [cell_c h]
  dsimp only
  rw [h2]
  exact q
@[simp] theorem mod_int {i j : Int} (h : 0 < j) : opD .mod (.int i) (.int j) = some (.int (i % j)) := if_pos h
@[simp] theorem fdiv_int {i j : Int} (h : 0 < j) (k : j < 1073741824) : opD .fdiv (.int i) (.int j) = some (.int (i / j)) := if_pos ⟨h, k⟩
theorem pow_int {i j : Int} (h : 0 ≤ j) (k : j ≤ 1000000) (l : i.natAbs < 2 ^ 64) : opD .pow (.int i) (.int j) = some (.int (i ^ j.toNat)) := if_pos ⟨h, k, l⟩
theorem mul_int {i j : Int} (h : -(2 ^ 64) < i ∧ i < 2 ^ 64) : opD .mul (.int i) (.int j) = some (.int (i * j)) := if_pos (.inl h)
theorem f_pick (n : Nat) (L : Int) (h0 : 0 < L) (h1 : L < 1073741824) : DeckM n 1 (F__law_pick (.c n) (.v (.int L))) fun w => ∃ i, w = .v (.int i) ∧ 0 ≤ i ∧ i < L := by
  intro c ds B hc hd hB
  obtain ⟨a, b, t, rfl, hb0, hb1, ht0, ht1⟩ := hd
  have hB' : B + 1 ≤ 100000000000 := hB
  have hn := (List.getElem?_eq_some_iff.mp hc).1
  unfold F__law_pick
  refine wp_cut (wp_ifM (wp_cmp (at_idxC hc (d := .int a) rfl) at_pV (gt_int a 1) ?_))
  by_cases ha : 1 < a
  · rw [decide_eq_true ha, if_pos rfl]
    refine wp_bind (wp_at (at_bin (at_blt1 (at_idxC hc (d := .int a) rfl) (int_int a)) at_pW (mod_int h0)) ?_)
    refine wp_bind (wp_at (at_bin (at_idxC hc (d := .int a) rfl) at_pW (fdiv_int h0 h1)) ?_)
    refine wp_bind (wp_pW (wp_bind (wp_pV (wp_setC hc (j := 0) rfl (wp_pW ⟨_, rfl, ⟨_, rfl, ?_, ?_⟩, ?_⟩)))))
    · exact Int.emod_nonneg _ (by omega)
    · exact Int.emod_lt_of_pos _ h0
    · exact ⟨[.int (a / L), .int b, .int t], ⟨_, _, _, rfl, hb0, hb1, ht0, by omega⟩, List.take_of_length_le (by simp)⟩
  · rw [decide_eq_false ha, if_neg (by simp)]
    refine wp_bind (wp_at (at_bin (at_idxC hc (d := .int t) rfl) at_pV (add_int t 1)) ?_)
    refine wp_bind (wp_pW (wp_bind (wp_pV (wp_setC hc (j := 2) rfl ?_))))
    have hc2 : (c.set n (some [.int a, .int b, .int (t + 1)]))[n]? = some (some [.int a, .int b, .int (t + 1)]) := get_set hc
    have p64 : (2 : Nat) ^ 64 = 18446744073709551616 := by decide
    have q64 : (2 : Int) ^ 64 = 18446744073709551616 := by decide
    refine wp_bind (wp_at (at_bin (at_blt1 (at_bin (at_blt1 (at_bin (at_idxC hc2 (d := .int b) rfl) (at_bin at_pV (at_idxC hc2 (d := .int (t + 1)) rfl) (mul_int (by omega))) (add_int _ _)) (int_int _)) at_pV (pow_int (by omega) (by omega) (by omega))) (int_int _)) at_pV (mod_int (by omega))) ?_)
    have e1 : 0 ≤ (b + 15485867 * (t + 1)) ^ Int.toNat 5 % 2147483647 := Int.emod_nonneg _ (by omega)
    have e2 : (b + 15485867 * (t + 1)) ^ Int.toNat 5 % 2147483647 < 2147483647 := Int.emod_lt_of_pos _ (by omega)
    generalize (b + 15485867 * (t + 1)) ^ Int.toNat 5 % 2147483647 = u at e1 e2 ⊢
    refine wp_bind (wp_at (at_bin (at_bin (at_blt1 (at_bin (at_blt1 (at_bin at_pW (at_bin at_pV (at_idxC hc2 (d := .int (t + 1)) rfl) (mul_int (by omega))) (add_int _ _)) (int_int _)) at_pV (pow_int (by omega) (by omega) (by omega))) (int_int _)) at_pV (mod_int (by omega))) at_pV (fdiv_int (by omega) (by omega))) ?_)
    refine wp_at (at_bin (at_blt1 at_pW (int_int _)) at_pW (mod_int h0)) ⟨_, rfl, ⟨_, rfl, ?_, ?_⟩, ?_⟩
    · exact Int.emod_nonneg _ (by omega)
    · exact Int.emod_lt_of_pos _ h0
    · exact ⟨[.int a, .int b, .int (t + 1)], ⟨_, _, _, rfl, hb0, hb1, by omega, by omega⟩, List.take_of_length_le (by simp)⟩
theorem f_one (n : Nat) (xs : List D) (h0 : 0 < xs.length) (h1 : xs.length ≤ 5000) : DeckM n 1 (F__law_one (.c n) (.v (.lst xs))) fun w => ∃ d, w = .v d ∧ d ∈ xs := by
  unfold F__law_one
  refine DeckM.cut (P := fun w => ∃ d, w = .v d ∧ d ∈ xs) ?_ fun w ⟨d, e, _⟩ => ⟨d, e⟩
  refine DeckM.mono (k := 1 + 0) (P := fun w => ∃ d, w = .v d ∧ d ∈ xs) ?_ (by omega) fun _ h => h
  have e : idxM (pW (.v (.lst xs))) (call2 F__law_pick (pW (.c n)) (bltM .len [pW (.v (.lst xs))])) = M.bind (F__law_pick (.c n) (.v (.int xs.length))) fun w => M.bind (valM w) fun y => M.bind (M.ofO (idxD (.lst xs) y)) fun d => pV d := by
    simp [idxM, call2]
  rw [e]
  refine DeckM.bind (f_pick n xs.length (by omega) (by omega)) fun w ⟨i, e, h2, h3⟩ => ?_
  subst e
  obtain ⟨j, rfl⟩ : ∃ j : Nat, i = j := ⟨i.toNat, by omega⟩
  have hj : j < xs.length := by omega
  rw [valM_v, M.pure_bind, idxL_at (List.getElem?_eq_getElem hj)]
  exact DeckM.pV ⟨_, rfl, List.getElem_mem hj⟩
theorem f_oneT (n : Nat) (xs : List D) (h0 : 0 < xs.length) (h1 : xs.length ≤ 5000) : DeckM n 1 (F__law_one (.c n) (.v (.tup xs))) fun w => ∃ d, w = .v d ∧ d ∈ xs := by
  unfold F__law_one
  refine DeckM.cut (P := fun w => ∃ d, w = .v d ∧ d ∈ xs) ?_ fun w ⟨d, e, _⟩ => ⟨d, e⟩
  refine DeckM.mono (k := 1 + 0) (P := fun w => ∃ d, w = .v d ∧ d ∈ xs) ?_ (by omega) fun _ h => h
  have e : idxM (pW (.v (.tup xs))) (call2 F__law_pick (pW (.c n)) (bltM .len [pW (.v (.tup xs))])) = M.bind (F__law_pick (.c n) (.v (.int xs.length))) fun w => M.bind (valM w) fun y => M.bind (M.ofO (idxD (.tup xs) y)) fun d => pV d := by
    simp [idxM, call2]
  rw [e]
  refine DeckM.bind (f_pick n xs.length (by omega) (by omega)) fun w ⟨i, e, h2, h3⟩ => ?_
  subst e
  obtain ⟨j, rfl⟩ : ∃ j : Nat, i = j := ⟨i.toNat, by omega⟩
  have hj : j < xs.length := by omega
  rw [valM_v, M.pure_bind, idx_at (List.getElem?_eq_getElem hj)]
  exact DeckM.pV ⟨_, rfl, List.getElem_mem hj⟩
end Sh
end
section
set_option autoImplicit false
set_option maxRecDepth 100000
set_option maxHeartbeats 2000000
namespace Sh
open PySem Q
/-! texts that rise -/
def lts (a b : Str) : Prop := a.cps.toList < b.cps.toList
theorem lts_ltS {a b : Str} (h : lts a b) : ltS (.str a) (.str b) = true := decide_eq_true h
theorem str_eta {a b : Str} (h : a.cps.toList = b.cps.toList) : a = b := by
  have := Array.toList_inj.mp h
  cases a; cases b; simp only at this; rw [this]
theorem le_lts {a b : Str} (h : PySem.W.dataLe false D.dat (.str a) (.str b) = true) (hn : a ≠ b) : lts a b := by
  have h1 : (!PySem.W.dataLt (.str b) (.str a)) = true := h
  rw [PySem.W.dataLt_str] at h1
  simp only [Bool.not_eq_true', decide_eq_false_iff_not] at h1
  by_cases q : lts a b
  · exact q
  · exact absurd (str_eta (Std.Trichotomous.trichotomous (r := fun (x y : List Nat) => x < y) _ _ q h1)) hn
theorem sortS_pw {l : List Str} (nd : l.Nodup) : (sortS l).Pairwise lts := by
  have h1 := PySem.W.sort_pairwise (PySem.W.sortLe_total (PyProof.Rows.listOrd PyProof.Rows.itemOrd) false fun b : Str => PySem.W.keyToks (D.str b).dat) l
  have h2 : (sortS l).Nodup := (List.mergeSort_perm l _).nodup_iff.mpr nd
  have h3 : (sortS l).Pairwise fun a b => PySem.W.dataLe false D.dat (.str a) (.str b) = true := h1
  exact (h3.and h2).imp fun ⟨p, q⟩ => le_lts p q
theorem pw_rising : ∀ {l : List Str}, l.Pairwise lts → rising (l.map .str) = true
  | [], _ => rfl
  | [_], _ => rfl
  | a :: b :: r, h => by
    rw [List.pairwise_cons] at h
    have ih := pw_rising h.2
    show (ltS (.str a) (.str b) && rising ((b :: r).map .str)) = true
    rw [ih, lts_ltS (h.1 b (.head _))]
    rfl
theorem labs_of {l : List Str} {lo hi : Int} (h : ∀ x ∈ l, isLab (.str x) = true) (pw : l.Pairwise lts) (h1 : lo ≤ l.length) (h2 : (l.length : Int) ≤ hi) : isLabs (stl l) lo hi = true := by
  unfold stl isLabs
  simp only [List.length_map, Bool.and_eq_true, decide_eq_true_eq, List.all_eq_true]
  refine ⟨⟨⟨h1, h2⟩, fun d hd => ?_⟩, pw_rising pw⟩
  rw [List.mem_map] at hd
  obtain ⟨x, hx, rfl⟩ := hd
  exact h x hx
/-! rows that rise by their names -/
theorem alike_strs : ∀ l m : List Str, PySem.W.alikeAll (D.dats (l.map .str)) (D.dats (m.map .str)) = true
  | [], [] => rfl
  | [], _ :: _ => rfl
  | _ :: _, [] => rfl
  | a :: r, b :: s => by
    show (true && PySem.W.alikeAll (D.dats (r.map .str)) (D.dats (s.map .str))) = true
    rw [alike_strs r s]
    rfl
theorem alike_rows (a b : Row) : PySem.W.alike a.d.dat b.d.dat = true := by
  show (true && (true && (PySem.W.alikeAll (D.dats (a.nms.map .str)) (D.dats (b.nms.map .str)) && (true && true)))) = true
  rw [alike_strs]
  rfl
def leR (a b : Row) : Bool := PySem.W.dataLe false D.dat a.d b.d
def sortR (l : List Row) : List Row := l.mergeSort leR
theorem sorted_rows {l : List Row} (h : ∀ r ∈ l, r.Ok) (hl : l.length ≤ 5000) : sortD (l.map Row.d) = some ((sortR l).map Row.d) := by
  have ok : okSort (l.map Row.d) = true := by
    unfold okSort
    simp only [Bool.and_eq_true, decide_eq_true_eq, List.all_eq_true, List.mem_map, Bool.or_eq_true]
    refine ⟨⟨⟨?_, ?_⟩, ?_⟩, .inl ?_⟩
    · rintro _ ⟨x, hx, rfl⟩ _ ⟨y, hy, rfl⟩
      exact alike_rows x y
    · rw [List.length_map]; exact sz hl
    · rintro _ ⟨x, hx, rfl⟩
      exact (h x hx).tm.shp (by omega)
    · rintro _ ⟨x, hx, rfl⟩
      rfl
  unfold sortD
  rw [if_pos ok]
  unfold sortR
  rw [List.map_mergeSort (f := Row.d) (r := leR) (s := PySem.W.dataLe false D.dat) (fun a _ b _ => rfl)]
theorem sortR_mem {l : List Row} {x : Row} : x ∈ sortR l ↔ x ∈ l := List.mem_mergeSort
theorem sortR_len (l : List Row) : (sortR l).length = l.length := List.length_mergeSort _
theorem leR_lts {a b : Row} (h : leR a b = true) (hn : a.nm ≠ b.nm) : lts a.nm b.nm := by
  have h1 : (!PySem.W.dataLt b.d.dat a.d.dat) = true := h
  have e : PySem.W.dataLt b.d.dat a.d.dat = PySem.W.dataLt (.str b.nm) (.str a.nm) := by
    refine PySem.W.dataLt_all_no (x := .str b.nm) (y := .str a.nm) rfl ?_
    show (b.nm == a.nm) = false
    exact nb (Ne.symm hn)
  rw [e, PySem.W.dataLt_str] at h1
  simp only [Bool.not_eq_true', decide_eq_false_iff_not] at h1
  by_cases q : lts a.nm b.nm
  · exact q
  · exact absurd (str_eta (Std.Trichotomous.trichotomous (r := fun (x y : List Nat) => x < y) _ _ q h1)) hn
theorem sortR_pw {l : List Row} (nd : (l.map Row.nm).Nodup) : (sortR l).Pairwise fun a b => lts a.nm b.nm := by
  have h1 := PySem.W.sort_pairwise (PySem.W.sortLe_total (PyProof.Rows.listOrd PyProof.Rows.itemOrd) false fun b : Row => PySem.W.keyToks b.d.dat) l
  have h2 : ((sortR l).map Row.nm).Nodup := ((List.mergeSort_perm l _).map Row.nm).nodup_iff.mpr nd
  have h3 : (sortR l).Pairwise fun a b => leR a b = true := h1
  have h4 : (sortR l).Pairwise fun a b => a.nm ≠ b.nm := List.pairwise_map.mp h2
  exact (h3.and h4).imp fun ⟨p, q⟩ => leR_lts p q
theorem pw_fst : ∀ {l : List Row}, (l.Pairwise fun a b => lts a.nm b.nm) → ((l.map Row.d).zip (l.map Row.d).tail).all (fun p => fstLt p.1 p.2) = true
  | [], _ => rfl
  | [_], _ => rfl
  | a :: b :: r, h => by
    rw [List.pairwise_cons] at h
    have ih := pw_fst h.2
    show (ltS (.str a.nm) (.str b.nm) && (((b :: r).map Row.d).zip ((b :: r).map Row.d).tail).all (fun p => fstLt p.1 p.2)) = true
    rw [ih, lts_ltS (h.1 b (.head _))]
    rfl
end Sh
end
section
set_option autoImplicit false
set_option maxRecDepth 100000
set_option maxHeartbeats 2000000
namespace Sh
open PySem Q
def TB : List Str := ["t", "a", "boxes", "tt"]
def NM : List Str := ["k", "v", "w", "inbox", "xs", "u"]
structure GR (tb : List Str) (r : Row) : Prop where
  nm : r.nm = "zz" ∨ r.nm ∈ NM
  kd : isKind r.kd = true
  sub : r.nms.Sublist tb
  one : 1 ≤ r.nms.length
def zzR (tb : List Str) : Row := ⟨"zz", "rows", tb.take 1, true⟩
/-- a head as the law makes it -/
structure GH (H : Head) : Prop where
  tb : ∀ x ∈ H.tb, x ∈ TB
  pw : H.tb.Pairwise lts
  l1 : 1 ≤ H.tb.length
  l3 : H.tb.length ≤ 3
  rows : ∀ r ∈ H.rows, GR H.tb r
  rpw : H.rows.Pairwise fun a b => lts a.nm b.nm
  rl : H.rows.length ≤ 5
  zz : zzR H.tb ∈ H.rows
theorem lab_TB : ∀ x ∈ TB, isLab (.str x) = true := by
  have : TB.all (fun x => isLab (.str x)) = true := by decide +kernel
  exact fun x hx => List.all_eq_true.mp this x hx
theorem lab_NM : ∀ x : Str, (x = "zz" ∨ x ∈ NM) → isLab (.str x) = true := by
  have : ((Str.ofString "zz") :: NM).all (fun x => isLab (.str x)) = true := by decide +kernel
  exact fun x hx => List.all_eq_true.mp this x (by rcases hx with rfl | h; exact .head _; exact .tail _ h)
theorem tS_lab {x : Str} (h : isLab (.str x) = true) (h2 : x ∈ TB ++ ("zz" : Str) :: NM) : tS x := by
  have : (TB ++ (Str.ofString "zz") :: NM).all (fun x => okD (.str x)) = true := by decide +kernel
  exact ⟨List.all_eq_true.mp this x h2, Nat.zero_le _⟩
theorem NM_TB {x : Str} (h : x = "zz" ∨ x ∈ NM) : x ∉ TB := by
  have : ((Str.ofString "zz") :: NM).all (fun x => !TB.contains x) = true := by decide +kernel
  have := List.all_eq_true.mp this x (by rcases h with rfl | h; exact .head _; exact .tail _ h)
  simpa using this
theorem GR.ok {tb : List Str} {r : Row} (h : GR tb r) (ht : ∀ x ∈ tb, x ∈ TB) (h3 : tb.length ≤ 3) : r.Ok := by
  refine ⟨tS_lab (lab_NM _ h.nm) ?_, tS_kind h.kd, fun x hx => ?_, Nat.le_trans h.sub.length_le h3, h.kd⟩
  · rw [List.mem_append]
    right
    rcases h.nm with e | e
    · rw [e]; exact .head _
    · exact .tail _ e
  · have hx' := ht x (h.sub.subset hx)
    exact tS_lab (lab_TB x hx') (List.mem_append_left _ hx')
theorem GH.ok {H : Head} (h : GH H) : ∀ r ∈ H.rows, r.Ok := fun r hr => (h.rows r hr).ok h.tb h.l3
theorem mem_str (x : Str) (l : List Str) : mem x (l.map .str) = l.contains x := by
  unfold mem
  rw [List.any_map, Bool.eq_iff_iff]
  simp [eqF, List.any_eq_true]
theorem GH.head {H : Head} (h : GH H) : isHead (stl H.tb) (rowsD H.rows) = true := by
  unfold isHead
  rw [Bool.and_eq_true]
  have ht := labs_of (lo := 1) (hi := 3) (fun x hx => lab_TB x (h.tb x hx)) h.pw (by have := h.l1; omega) (by have := h.l3; omega)
  refine ⟨ht, ?_⟩
  unfold stl rowsD
  have hz : 1 ≤ H.rows.length := List.length_pos_of_mem h.zz
  have := h.rl
  simp only [Bool.and_eq_true, decide_eq_true_eq, List.length_map]
  refine ⟨⟨⟨by omega, by omega⟩, ?_⟩, pw_fst h.rpw⟩
  rw [List.all_eq_true]
  intro d hd
  rw [List.mem_map] at hd
  obtain ⟨r, hr, rfl⟩ := hd
  have g := h.rows r hr
  show isDecl (H.tb.map .str) (.tup [.str r.nm, .str r.kd, stl r.nms, .bl r.lg]) = true
  unfold isDecl
  simp only [Bool.and_eq_true, Bool.not_eq_true']
  refine ⟨⟨⟨⟨lab_NM _ g.nm, ?_⟩, g.kd⟩, ?_⟩, ?_⟩
  · show mem r.nm (H.tb.map .str) = false
    rw [mem_str]
    have := NM_TB g.nm
    rw [← Bool.not_eq_true]
    intro z
    exact this (h.tb _ (List.contains_iff_mem.mp z))
  · exact labs_of (fun x hx => lab_TB x (h.tb x (g.sub.subset hx))) (h.pw.sublist g.sub) (by have := g.one; omega) (by have := g.sub.length_le; have := h.l3; omega)
  · show (r.nms.map D.str).all (fun d => memD d (H.tb.map .str)) = true
    rw [List.all_map, List.all_eq_true]
    intro x hx
    show mem x (H.tb.map .str) = true
    rw [mem_str]
    exact List.contains_iff_mem.mpr (g.sub.subset hx)
theorem slcL_from (ds : List D) (k : Nat) : slcD (.lst ds) (some (k : Int)) none = some (.lst (ds.drop k)) := congrArg (fun z => some (D.lst z)) (cut_from ds k)
theorem slcL_to (ds : List D) (k : Nat) : slcD (.lst ds) none (some (k : Int)) = some (.lst (ds.take k)) := congrArg (fun z => some (D.lst z)) (cut_to ds k)
theorem slcT_to (ds : List D) (k : Nat) : slcD (.tup ds) none (some (k : Int)) = some (.tup (ds.take k)) := congrArg (fun z => some (D.tup z)) (cut_to ds k)
theorem slcT_from (ds : List D) (k : Nat) : slcD (.tup ds) (some (k : Int)) none = some (.tup (ds.drop k)) := congrArg (fun z => some (D.tup z)) (cut_from ds k)
theorem slcT_last (ds : List D) (h : 1 ≤ ds.length) : slcD (.tup ds) (some (-1)) none = some (.tup (ds.drop (ds.length - 1))) := by
  show some (D.tup (cutD ds (some (-1)) none)) = _
  unfold cutD
  rw [HT.sIx_none]
  have e : HT.sIx ds.length 0 (some (-1)) = ds.length - 1 := by
    show (if (-1 : Int) < 0 then ((-1 : Int) + (ds.length : Int)).toNat else min (-1 : Int).toNat ds.length) = _
    rw [if_pos (by omega)]
    omega
  rw [e]
  congr 2
  rw [List.take_of_length_le]
  simp
theorem pick2 (n : Nat) (L : Int) (h0 : 0 < L) (h1 : L < 1073741824) : DeckM n 1 (call2 F__law_pick (pW (.c n)) (pV (.int L))) fun w => ∃ i : Nat, w = .v (.int i) ∧ (i : Int) < L :=
  DeckM.mono (k := 1) (f_pick n L h0 h1) (by omega) fun w ⟨i, e, h1, h2⟩ => ⟨i.toNat, by rw [e]; congr 2; omega, by omega⟩
theorem pool_eq : lstM [pV (.str "t"), pV (.str "a"), pV (.str "boxes"), pV (.str "tt")] = pV (.lst (TB.map .str)) := by
  simp only [lstM, valsM_cons, valsM_nil, M.pure_bind]
  exact szM_ok (by simp)
theorem slc_pick (n : Nat) (ds : List D) (L : Int) (h0 : 0 < L) (h1 : L < 1073741824) : DeckM n 1 (slcM (pV (.lst ds)) (oS (call2 F__law_pick (pW (.c n)) (pV (.int L)))) oN) fun w => ∃ i : Nat, w = .v (.lst (ds.drop i)) ∧ (i : Int) < L := by
  have e : slcM (pV (.lst ds)) (oS (call2 F__law_pick (pW (.c n)) (pV (.int L)))) oN = M.bind (call2 F__law_pick (pW (.c n)) (pV (.int L))) fun w => M.bind (intW w) fun l => M.bind (M.ofO (slcD (.lst ds) l none)) fun d => pV d := by
    simp [slcM, oS, M.bind_assoc]
  rw [e]
  refine DeckM.mono (k := 1 + 0) (DeckM.bind (pick2 n L h0 h1) fun w ⟨i, e, h⟩ => ?_) (by omega) fun _ h => h
  subst e
  show DeckM n 0 (M.bind (M.ofO (slcD (.lst ds) (some (i : Int)) none)) fun d => pV d) _
  rw [slcL_from]
  exact DeckM.pV ⟨i, rfl, h⟩
theorem slc_pick1 (n : Nat) (ds : List D) (L : Int) (h0 : 0 < L) (h1 : L < 1073741824) : DeckM n 1 (slcM (pV (.lst ds)) oN (oS (binM .add (pV (.int 1)) (call2 F__law_pick (pW (.c n)) (pV (.int L)))))) fun w => ∃ i : Nat, w = .v (.lst (ds.take (1 + i))) ∧ (i : Int) < L := by
  have e : slcM (pV (.lst ds)) oN (oS (binM .add (pV (.int 1)) (call2 F__law_pick (pW (.c n)) (pV (.int L))))) = M.bind (call2 F__law_pick (pW (.c n)) (pV (.int L))) fun w => M.bind (rdM w) fun y => M.bind (M.ofO (opD .add (.int 1) y)) fun d => M.bind (intW (.v d)) fun l => M.bind (M.ofO (slcD (.lst ds) none l)) fun d => pV d := by
    simp [slcM, oS, binM, M.bind_assoc]
  rw [e]
  refine DeckM.mono (k := 1 + 0) (DeckM.bind (pick2 n L h0 h1) fun w ⟨i, e, h⟩ => ?_) (by omega) fun _ h => h
  subst e
  rw [rdM_v, M.pure_bind, add_int]
  show DeckM n 0 (M.bind (M.ofO (slcD (.lst ds) none (some ((1 : Int) + i)))) fun d => pV d) _
  rw [show (1 : Int) + i = ((1 + i : Nat) : Int) by omega, slcL_to]
  exact DeckM.pV ⟨i, rfl, h⟩
/-- the tables -/
theorem head_tables (n : Nat) : DeckM n 2 (M.bind (slcM (lstM [pV (.str "t"), pV (.str "a"), pV (.str "boxes"), pV (.str "tt")]) (oS (call2 F__law_pick (pW (.c n)) (pV (.int 2)))) oN) fun v_pool => bltM .tuple [bltM .sorted [slcM (pW v_pool) oN (oS (binM .add (pV (.int 1)) (call2 F__law_pick (pW (.c n)) (pV (.int 3)))))]]) fun w =>
    ∃ tb : List Str, w = .v (stl tb) ∧ (∀ x ∈ tb, x ∈ TB) ∧ tb.Pairwise lts ∧ 1 ≤ tb.length ∧ tb.length ≤ 3 := by
  rw [pool_eq]
  refine DeckM.mono (k := 1 + 1) (DeckM.bind (slc_pick n _ 2 (by omega) (by omega)) fun w ⟨i, e, h⟩ => ?_) (by omega) fun _ h => h
  subst e
  have e2 : bltM .tuple [bltM .sorted [slcM (pW (.v (.lst ((TB.map .str).drop i)))) oN (oS (binM .add (pV (.int 1)) (call2 F__law_pick (pW (.c n)) (pV (.int 3)))))]] = M.bind (slcM (pV (.lst ((TB.map .str).drop i))) oN (oS (binM .add (pV (.int 1)) (call2 F__law_pick (pW (.c n)) (pV (.int 3)))))) fun w => bltM .tuple [bltM .sorted [pW w]] := by
    simp only [bltM, rdsM, seqM, M.bind_assoc, M.pure_bind, pW_v, pW_bind]
  rw [e2]
  refine DeckM.mono (k := 1 + 0) (DeckM.bind (slc_pick1 n _ 3 (by omega) (by omega)) fun w ⟨j, e, h2⟩ => ?_) (by omega) fun _ h => h
  subst e
  have hs : ((TB.map D.str).drop i).take (1 + j) = ((TB.drop i).take (1 + j)).map D.str := by rw [List.map_take, List.map_drop]
  have hsub : ((TB.drop i).take (1 + j)).Sublist TB := (List.take_sublist _ _).trans (List.drop_sublist _ _)
  have hl : ((TB.drop i).take (1 + j)).length = 1 + j := by
    rw [List.length_take, List.length_drop]
    show min (1 + j) (4 - i) = 1 + j
    omega
  have hnd : TB.Nodup := by decide +kernel
  have hsrt : bltD .sorted [.lst (((TB.drop i).take (1 + j)).map .str)] = some (.lst ((sortS ((TB.drop i).take (1 + j))).map .str)) := sorted_stl _ (fun x hx => (tS_lab (lab_TB x (hsub.subset hx)) (List.mem_append_left _ (hsub.subset hx))).shp (by omega)) (by omega)
  rw [hs]
  simp only [pW_v, blt1, hsrt, M.ofO_some, M_pure_pV, tuple_lst]
  refine DeckM.pV ⟨sortS ((TB.drop i).take (1 + j)), rfl, fun x hx => hsub.subset (sortS_mem.mp hx), sortS_pw (hnd.sublist hsub), ?_, ?_⟩
  · rw [sortS_len]; omega
  · rw [sortS_len]; omega
end Sh
end
section
set_option autoImplicit false
set_option maxRecDepth 100000
set_option maxHeartbeats 2000000
namespace Sh
open PySem Q
theorem wp_forE {σ β : Type} {rt : W → M β} {it : M (List D)} {s : σ} {f : σ → D → M (Q.St σ)} {g : σ → M β} {c : Cells} {Q : β → Cells → Prop} (h : wp it c fun xs c' => wp (_root_.Q.forM rt (M.pure xs) s f g) c' Q) : wp (_root_.Q.forM rt it s f g) c Q := wp_bind h
theorem at_bltC {f : Blt} {c : Cells} {m : Nat} {ds : List D} {z : D} (h : c[m]? = some (some ds)) (e : bltD f [.lst ds] = some z) : At (bltM f [pW (.c m)]) c z := by
  show (Res.ofO (rdAll c [.c m]) c).bind (fun ds => (M.bind (M.ofO (bltD f ds)) fun d => pV d)) = _
  have e1 : rdAll c [.c m] = some [.lst ds] := by
    show (match rd c (.c m), rdAll c [] with
      | some d, some ds => some (d :: ds)
      | _, _ => none) = _
    rw [rd_c h]
    rfl
  rw [e1]
  show (M.bind (M.ofO (bltD f [.lst ds])) fun d => pV d) c = _
  rw [e]
  rfl
theorem rngD_range (n : Nat) : rngD 0 n = (List.range n).map fun (i : Nat) => D.int i := by
  unfold rngD
  exact List.map_congr_left fun i _ => by rw [Int.zero_add]
theorem rngM_v (d : D) : rngM (pV d) = rngW (.v d) := rfl
theorem rngW_ok {i : Int} (h : okInt i = true) : rngW (.v (.int i)) = M.pure (rngD 0 i.toNat) := if_pos h
theorem er_map {α β : Type} (f : α → β) : ∀ (l : List α) (i : Nat), (l.map f).eraseIdx i = (l.eraseIdx i).map f
  | [], _ => rfl
  | _ :: _, 0 => rfl
  | a :: r, i + 1 => congrArg (f a :: ·) (er_map f r i)
theorem er_perm {α : Type} : ∀ (l : List α) (i : Nat) (h : i < l.length), (l[i] :: l.eraseIdx i).Perm l
  | [], i, h => absurd h (by simp)
  | a :: r, 0, h => .refl _
  | a :: r, i + 1, h => (List.Perm.swap a _ _).trans ((er_perm r i (by simpa using h)).cons a)
theorem rng_ok {n : Nat} (h : n ≤ 1000000) : rngM (pV (.int (n : Int))) = M.pure (rngD 0 n) := by
  rw [rngM_v, rngW_ok (okI (by omega) (by omega)), Int.toNat_natCast]
theorem rng_pick (n : Nat) (k L : Int) (hk : 0 ≤ k) (hk2 : k ≤ 1000) (h0 : 0 < L) (h1 : L < 1000) : DeckM n 1 (rngM (binM .add (pV (.int k)) (call2 F__law_pick (pW (.c n)) (pV (.int L))))) fun xs => ∃ i : Nat, xs = rngD 0 (k.toNat + i) ∧ (i : Int) < L := by
  have e : rngM (binM .add (pV (.int k)) (call2 F__law_pick (pW (.c n)) (pV (.int L)))) = M.bind (call2 F__law_pick (pW (.c n)) (pV (.int L))) fun w => M.bind (rdM w) fun y => M.bind (M.ofO (opD .add (.int k) y)) fun d => rngM (pV d) := by
    simp [rngM, binM, M.bind_assoc]
  rw [e]
  refine DeckM.mono (k := 1 + 0) (DeckM.bind (pick2 n L h0 (by omega)) fun w ⟨i, e, h⟩ => ?_) (by omega) fun _ h => h
  subst e
  rw [rdM_v, M.pure_bind, add_int, M.ofO_some, M.pure_bind, show k + (i : Int) = ((k.toNat + i : Nat) : Int) by omega, rng_ok (by omega)]
  exact DeckM.pure ⟨i, rfl, h⟩
theorem pick_eq (n : Nat) (L k : Int) (h0 : 0 < L) (h1 : L < 1073741824) : DeckM n 1 (cmpT .eq (call2 F__law_pick (pW (.c n)) (pV (.int L))) (pV (.int k))) fun _ => True := by
  have e : cmpT .eq (call2 F__law_pick (pW (.c n)) (pV (.int L))) (pV (.int k)) = M.bind (call2 F__law_pick (pW (.c n)) (pV (.int L))) fun w => M.bind (rdM w) fun x => M.ofO (cmpD .eq x (.int k)) := by
    simp [cmpT]
  rw [e]
  refine DeckM.mono (k := 1 + 0) (DeckM.bind (pick2 n L h0 h1) fun w ⟨i, e, h⟩ => ?_) (by omega) fun _ h => h
  subst e
  rw [rdM_v, M.pure_bind, eq_int]
  exact DeckM.pure trivial
theorem bV_deck {n k : Nat} {t : M Bool} (h : DeckM n k t fun _ => True) : DeckM n k (bV t) fun w => ∃ b, w = .v (.bl b) :=
  DeckM.mono (k := k + 0) (DeckM.bind h fun b _ => DeckM.pV ⟨b, rfl⟩) (by omega) fun _ h => h
theorem lst_lit (ds : List D) (h : ds.length ≤ 5000) : lstM (ds.map pV) = pV (.lst ds) := by
  have e : ∀ ds : List D, valsM (ds.map pV) = M.pure ds := by
    intro ds
    induction ds with
    | nil => rfl
    | cons d r ih => rw [List.map_cons, valsM_cons, ih, M.pure_bind]
  unfold lstM
  rw [e, M.pure_bind]
  exact szM_ok h
theorem cel_lit (ds : List D) (h : ds.length ≤ 5000) : celM (ds.map pV) = newC ds := by
  have e : ∀ ds : List D, valsM (ds.map pV) = M.pure ds := by
    intro ds
    induction ds with
    | nil => rfl
    | cons d r ih => rw [List.map_cons, valsM_cons, ih, M.pure_bind]
  unfold celM
  rw [e, M.pure_bind]
  exact szM_ok h
theorem one_kind (n : Nat) : DeckM n 1 (call2 F__law_one (pW (.c n)) (lstM [pV (.str "rows"), pV (.str "rows"), pV (.str "keys"), pV (.str "keys"), pV (.str "values")])) fun w => ∃ kd : Str, w = .v (.str kd) ∧ isKind kd = true := by
  rw [show [pV (.str "rows"), pV (.str "rows"), pV (.str "keys"), pV (.str "keys"), pV (.str "values")] = ([.str "rows", .str "rows", .str "keys", .str "keys", .str "values"] : List D).map pV from rfl, lst_lit _ (by simp)]
  refine DeckM.mono (k := 1) (f_one n _ (by simp) (by simp)) (by omega) fun w ⟨d, e, hd⟩ => ?_
  simp only [List.mem_cons, List.not_mem_nil, or_false] at hd
  rcases hd with rfl | rfl | rfl | rfl | rfl <;> exact ⟨_, e, by simp [isKind]⟩
theorem one_some (n : Nat) {tb : List Str} (h1 : 1 ≤ tb.length) (h3 : tb.length ≤ 3) : DeckM n 1 (call2 F__law_one (pW (.c n)) (lstM [(pW (.v (stl tb))), (slcM (pW (.v (stl tb))) oN (oS (pV (.int 1)))), (slcM (pW (.v (stl tb))) (oS (negM (pV (.int 1)))) oN), (slcM (pW (.v (stl tb))) oN (oS (pV (.int 2))))])) fun w => ∃ ns : List Str, w = .v (stl ns) ∧ ns.Sublist tb ∧ 1 ≤ ns.length := by
  have e1 : slcM (pW (.v (stl tb))) oN (oS (pV (.int 1))) = pV (stl (tb.take 1)) := by
    simp only [pW_v, oN_eq, oS_v, slcM_v]
    rw [show slcD (stl tb) none (some 1) = some (.tup ((tb.map D.str).take 1)) from slcT_to _ 1, ← List.map_take]
    rfl
  have e2 : slcM (pW (.v (stl tb))) oN (oS (pV (.int 2))) = pV (stl (tb.take 2)) := by
    simp only [pW_v, oN_eq, oS_v, slcM_v]
    rw [show slcD (stl tb) none (some 2) = some (.tup ((tb.map D.str).take 2)) from slcT_to _ 2, ← List.map_take]
    rfl
  have e3 : slcM (pW (.v (stl tb))) (oS (negM (pV (.int 1)))) oN = pV (stl (tb.drop (tb.length - 1))) := by
    simp only [pW_v, oN_eq, negM_v, oS_v, slcM_v]
    rw [show slcD (stl tb) (some (-1)) none = some (.tup ((tb.map D.str).drop ((tb.map D.str).length - 1))) from slcT_last _ (by rw [List.length_map]; exact h1), List.length_map, ← List.map_drop]
    rfl
  rw [e1, e2, e3, pW_v, show [pV (stl tb), pV (stl (tb.take 1)), pV (stl (tb.drop (tb.length - 1))), pV (stl (tb.take 2))] = [stl tb, stl (tb.take 1), stl (tb.drop (tb.length - 1)), stl (tb.take 2)].map pV from rfl, lst_lit _ (by simp)]
  refine DeckM.mono (k := 1) (f_one n _ (by simp) (by simp)) (by omega) fun w ⟨d, e, hd⟩ => ?_
  simp only [List.mem_cons, List.not_mem_nil, or_false] at hd
  rcases hd with rfl | rfl | rfl | rfl
  · exact ⟨_, e, List.Sublist.refl _, h1⟩
  · exact ⟨_, e, List.take_sublist _ _, by rw [List.length_take]; omega⟩
  · exact ⟨_, e, List.drop_sublist _ _, by rw [List.length_drop]; omega⟩
  · exact ⟨_, e, List.take_sublist _ _, by rw [List.length_take]; omega⟩
theorem f_law_head (n : Nat) : DeckM n 20 (F__law_head (.c n)) fun w => ∃ H, w = .v (headD H.tb H.rows) ∧ GH H := by
  intro c ds B hc hd hB
  have hn : n < c.length := (List.getElem?_eq_some_iff.mp hc).1
  have hB' : B + 20 ≤ mostB := hB
  unfold F__law_head
  refine wp_cut (wp_eq (M.bind_assoc _ _ _).symm (wp_bind (wp_deck (head_tables n) hc hd (by omega) fun w ds1 ⟨tb, e, ht, hpw, h1, h3⟩ hd1 => ?_)))
  subst e
  have lset : ∀ v : Option (List D), (c.set n v).length = c.length := fun v => by simp
  -- the cells
  refine wp_bind (wp_eq (cel_lit (NM.map .str) (by simp [NM])) (wp_newC ?_))
  refine wp_bind (wp_eq (cel_lit [] (by simp)) (wp_newC ?_))
  rw [List.append_assoc, List.length_append, lset]
  have getn : ∀ (v : List D) (X : Cells), (c.set n (some v) ++ X)[n]? = some (some v) := fun v X => by rw [get_app (by rw [lset]; exact hn), get_set hc]
  have setn : ∀ (u v : List D) (X : Cells), (c.set n (some u) ++ X).set n (some v) = c.set n (some v) ++ X := fun u v X => by rw [set_app (by rw [lset]; exact hn), List.set_set]
  have get0 : ∀ (u v : List D) (X : Cells), (c.set n (some u) ++ some v :: X)[c.length]? = some (some v) := fun u v X => by
    have := get_own (c := c.set n (some u)) (v := some v) (X := X)
    rwa [lset] at this
  have get1 : ∀ (u v x : List D), (c.set n (some u) ++ [some v, some x])[c.length + 1]? = some (some x) := fun u v x => by
    have := get_own1 (c := c.set n (some u)) (u := some v) (v := some x) (X := [])
    rwa [lset] at this
  have set0 : ∀ (u v x y : List D), (c.set n (some u) ++ [some v, some x]).set c.length (some y) = c.set n (some u) ++ [some y, some x] := fun u v x y => by
    have := set_own (c := c.set n (some u)) (v := some v) (u := some y) (X := [some x])
    rwa [lset] at this
  have set1 : ∀ (u v x y : List D), (c.set n (some u) ++ [some v, some x]).set (c.length + 1) (some y) = c.set n (some u) ++ [some v, some y] := fun u v x y => by
    have := set_own1 (c := c.set n (some u)) (t := some y) (u := some v) (v := some x) (X := [])
    rwa [lset] at this
  refine wp_forE (wp_deck (rng_pick n 1 4 (by omega) (by omega) (by omega) (by omega)) (getn _ _) hd1 (by omega) fun xs ds2 ⟨i, e, hi⟩ hd2 => ?_)
  subst e
  simp only [List.cons_append, List.nil_append, List.length_singleton]
  rw [setn]
  have hxs : (rngD 0 (Int.toNat 1 + i)).length ≤ 4 := by
    unfold rngD
    rw [List.length_map, List.length_range]
    omega
  refine wp_forM (I := fun i _ cs => ∃ (ds : List D) (nl : List Str) (fr : List Row), cs = c.set n (some ds) ++ [some (nl.map .str), some (fr.map Row.d)] ∧ Dk (B + 3 + 4 * i) ds ∧ nl.length + i = 6 ∧ fr.length = i ∧ (nl ++ fr.map Row.nm).Nodup ∧ (∀ x ∈ nl, x ∈ NM) ∧ ∀ r ∈ fr, r.nm ∈ NM ∧ GR tb r) (R := fun _ _ => False) rfl ⟨ds2, NM, [], rfl, hd2.mono (by omega), rfl, rfl, by decide +kernel, fun x h => h, fun r h => by cases h⟩ ?_ ?_ (fun _ _ h => h.elim)
  · intro j _ cs d hj ⟨ds, nl, fr, ec, hd, hnl, hfr, hnd, hnm, hrow⟩ _
    subst ec
    have hj4 : j < 4 := by omega
    refine wp_bind (wp_popC (wp_bind (wp_pW (wp_bind (wp_at (at_bltC (get0 _ _ _) (len_lst _)) (wp_deck (f_pick n ((nl.map D.str).length : Int) (by rw [List.length_map]; omega) (by rw [List.length_map]; omega)) (getn _ _) hd (by omega) fun w ds3 ⟨z, e, hz0, hz1⟩ hd3 => ?_))))))
    subst e
    obtain ⟨p, rfl⟩ : ∃ p : Nat, z = p := ⟨z.toNat, by omega⟩
    rw [List.length_map] at hz1
    have hp : p < nl.length := by omega
    rw [setn]
    refine ⟨p, .str nl[p], nl.map .str, rfl, get0 _ _ _, ?_, ?_, ?_⟩
    · rw [List.getElem?_map, List.getElem?_eq_getElem hp]; rfl
    · have : (2 : Nat) ^ 62 = 4611686018427387904 := by decide
      omega
    rw [set0]
    have hers : (nl.map D.str).eraseIdx p = (nl.eraseIdx p).map D.str := er_map _ _ _
    rw [hers]
    refine wp_bind (wp_deck (one_some n h1 h3) (getn _ _) hd3 (by omega) fun w ds4 ⟨ns, e, hsub, hone⟩ hd4 => ?_)
    subst e
    rw [setn]
    refine wp_bind (wp_deck (one_kind n) (getn _ _) hd4 (by omega) fun w ds5 ⟨kd, e, hkd⟩ hd5 => ?_)
    subst e
    rw [setn]
    refine wp_bind (wp_appC (wp_tup ?_))
    simp only [pW_v, valsM_cons]
    refine wp_bind (wp_bind (wp_bind (wp_vals_cons (wp_deck (bV_deck (pick_eq n 2 0 (by omega) (by omega))) (getn _ _) hd5 (by omega) fun w ds6 ⟨b, e⟩ hd6 => ?_))))
    subst e
    refine ⟨_, rfl, wp_vals_nil (wp_pure (wp_pure (wp_pure ⟨by simp, _, fr.map Row.d, rfl, ?_, ?_, ?_⟩)))⟩
    · rw [setn]; exact get1 _ _ _
    · rw [List.length_map]; omega
    rw [setn, set1]
    have hperm : (nl[p] :: nl.eraseIdx p).Perm nl := er_perm nl p hp
    refine ⟨ds6, nl.eraseIdx p, fr ++ [⟨nl[p], kd, ns, b⟩], ?_, hd6.mono (by omega), ?_, ?_, ?_, ?_, ?_⟩
    · rw [List.map_append]; rfl
    · rw [List.length_eraseIdx_of_lt hp]; omega
    · rw [List.length_append]; simp; omega
    · rw [List.map_append]
      refine (List.Perm.nodup_iff ?_).mpr hnd
      refine List.Perm.trans ?_ (hperm.append_right _)
      show (nl.eraseIdx p ++ (fr.map Row.nm ++ [nl[p]])).Perm (nl[p] :: (nl.eraseIdx p ++ fr.map Row.nm))
      rw [← List.append_assoc]
      exact List.perm_append_singleton _ _
    · exact fun x hx => hnm x (List.mem_of_mem_eraseIdx hx)
    · intro r hr
      rcases List.mem_append.mp hr with hr | hr
      · exact hrow r hr
      · simp only [List.mem_cons, List.not_mem_nil, or_false] at hr
        subst hr
        have := hnm _ (List.getElem_mem hp)
        exact ⟨this, ⟨.inr this, hkd, hsub, hone⟩⟩
  · intro _ cs ⟨ds, nl, fr, ec, hd, hnl, hfr, hnd, hnm, hrow⟩
    subst ec
    have e1 : slcM (pW (.v (stl tb))) oN (oS (pV (.int 1))) = pV (stl (tb.take 1)) := by
      simp only [pW_v, oN_eq, oS_v, slcM_v]
      rw [show slcD (stl tb) none (some 1) = some (.tup ((tb.map D.str).take 1)) from slcT_to _ 1, ← List.map_take]
      rfl
    rw [e1, tupM4]
    refine wp_bind (wp_appC (wp_pV ⟨(zzR tb).d, fr.map Row.d, rfl, get1 _ _ _, by rw [List.length_map]; omega, ?_⟩))
    rw [set1]
    have hrows : ∀ r ∈ fr ++ [zzR tb], GR tb r := fun r hr => by
      rcases List.mem_append.mp hr with hr | hr
      · exact (hrow r hr).2
      · simp only [List.mem_cons, List.not_mem_nil, or_false] at hr
        subst hr
        exact ⟨.inl rfl, by simp [zzR, isKind], List.take_sublist _ _, by show 1 ≤ (tb.take 1).length; rw [List.length_take]; omega⟩
    have hsrt : bltD .sorted [.lst ((fr ++ [zzR tb]).map Row.d)] = some (.lst ((sortR (fr ++ [zzR tb])).map Row.d)) := by
      show (sortD ((fr ++ [zzR tb]).map Row.d)).map D.lst = _
      rw [sorted_rows (fun r hr => (hrows r hr).ok ht h3) (by simp; omega)]
      rfl
    rw [show fr.map Row.d ++ [(zzR tb).d] = (fr ++ [zzR tb]).map Row.d by rw [List.map_append]; rfl]
    have hat := at_blt1 (at_bltC (get1 ds (nl.map .str) ((fr ++ [zzR tb]).map Row.d)) hsrt) (tuple_lst ((sortR (fr ++ [zzR tb])).map Row.d))
    refine wp_tup (wp_vals_cons (wp_pW ⟨_, rfl, wp_vals_cons (wp_at hat ⟨_, rfl, wp_vals_nil ⟨by simp, ?_⟩⟩)⟩))
    refine ⟨_, rfl, ⟨⟨tb, sortR (fr ++ [zzR tb])⟩, rfl, ?_⟩, ds, hd.mono (by omega), ?_⟩
    · refine ⟨ht, hpw, h1, h3, fun r hr => hrows r (sortR_mem.mp hr), sortR_pw ?_, ?_, sortR_mem.mpr (List.mem_append_right _ (.head _))⟩
      · rw [List.map_append]
        have h4 : (fr.map Row.nm).Nodup := (List.nodup_append.mp hnd).2.1
        refine List.nodup_append.mpr ⟨h4, by simp, fun a ha b hb => ?_⟩
        simp only [List.map_cons, List.map_nil, List.mem_cons, List.not_mem_nil, or_false] at hb
        subst hb
        rw [List.mem_map] at ha
        obtain ⟨r, hr, rfl⟩ := ha
        intro z
        have hz := (hrow r hr).1
        have hz' : ∀ x ∈ NM, x ≠ Str.ofString "zz" := by
          have : NM.all (fun x => x != Str.ofString "zz") = true := by decide +kernel
          intro x hx
          have := List.all_eq_true.mp this x hx
          simpa using this
        exact hz' _ hz z
      · show (sortR (fr ++ [zzR tb])).length ≤ 5
        rw [sortR_len, List.length_append]
        simp
        omega
    · rw [List.take_append_of_le_length (by rw [lset]; exact Nat.le_refl _)]
      exact List.take_of_length_le (by rw [lset]; exact Nat.le_refl _)
end Sh
end
section
set_option autoImplicit false
set_option maxRecDepth 100000
set_option maxHeartbeats 2000000
namespace Sh
open PySem Q
def isWord (w : Str) : Prop := w ∈ (["keys", "values", "bykey", "byvalue", "back", "first", "last", "keep", "pass", "in", "out"] : List Str)
theorem one_word (n : Nat) : DeckM n 1 (call2 F__law_one (pW (.c n)) (lstM [(pV (.str "keys")), (pV (.str "values")), (pV (.str "bykey")), (pV (.str "byvalue")), (pV (.str "back")), (pV (.str "first")), (pV (.str "last")), (pV (.str "keep")), (pV (.str "pass")), (pV (.str "in")), (pV (.str "out"))])) fun w => ∃ x : Str, w = .v (.str x) ∧ isWord x := by
  rw [show [(pV (.str "keys")), (pV (.str "values")), (pV (.str "bykey")), (pV (.str "byvalue")), (pV (.str "back")), (pV (.str "first")), (pV (.str "last")), (pV (.str "keep")), (pV (.str "pass")), (pV (.str "in")), (pV (.str "out"))] = ((["keys", "values", "bykey", "byvalue", "back", "first", "last", "keep", "pass", "in", "out"] : List Str).map D.str).map pV from rfl, lst_lit _ (by simp)]
  refine DeckM.mono (k := 1) (f_one n _ (by simp) (by simp)) (by omega) fun w ⟨d, e, hd⟩ => ?_
  rw [List.mem_map] at hd
  obtain ⟨x, hx, rfl⟩ := hd
  exact ⟨x, e, hx⟩
theorem one_test (n : Nat) : DeckM n 1 (call2 F__law_one (pW (.c n)) (lstM [(pV (.str "even")), (pV (.str "x"))])) fun w => ∃ x : Str, w = .v (.str x) ∧ isLab (.str x) = true ∧ tS x := by
  rw [show [(pV (.str "even")), (pV (.str "x"))] = ([.str "even", .str "x"] : List D).map pV from rfl, lst_lit _ (by simp)]
  refine DeckM.mono (k := 1) (f_one n _ (by simp) (by simp)) (by omega) fun w ⟨d, e, hd⟩ => ?_
  simp only [List.mem_cons, List.not_mem_nil, or_false] at hd
  rcases hd with rfl | rfl
  · exact ⟨_, e, by decide +kernel, tS_lit _ (by decide +kernel)⟩
  · exact ⟨_, e, by decide +kernel, tS_lit _ (by decide +kernel)⟩
theorem one_number (n : Nat) : DeckM n 2 (call2 F__law_one (pW (.c n)) (lstM [(pV (.int 1)), (pV (.int 2)), (pV (.int 3)), (binM .add (pV (.int 1)) (call2 F__law_pick (pW (.c n)) (pV (.int 9))))])) fun w => ∃ i : Int, w = .v (.int i) ∧ 1 ≤ i ∧ i ≤ 9 := by
  have e : call2 F__law_one (pW (.c n)) (lstM [(pV (.int 1)), (pV (.int 2)), (pV (.int 3)), (binM .add (pV (.int 1)) (call2 F__law_pick (pW (.c n)) (pV (.int 9))))]) = M.bind (binM .add (pV (.int 1)) (call2 F__law_pick (pW (.c n)) (pV (.int 9)))) fun w => call2 F__law_one (pW (.c n)) (lstM [(pV (.int 1)), (pV (.int 2)), (pV (.int 3)), pW w]) := by
    simp only [call2, lstM, valsM_cons, pW_bind, M.bind_assoc]
    simp only [valsM_eq, seqM, M.pure_bind, pW_bind, M.bind_assoc]
  have e2 : binM .add (pV (.int 1)) (call2 F__law_pick (pW (.c n)) (pV (.int 9))) = M.bind (call2 F__law_pick (pW (.c n)) (pV (.int 9))) fun w => M.bind (rdM w) fun y => M.bind (M.ofO (opD .add (.int 1) y)) fun d => pV d := by
    simp [binM]
  rw [e, e2]
  refine DeckM.mono (k := (1 + 0) + 1) (DeckM.bind (P := fun w => ∃ i : Int, w = .v (.int i) ∧ 1 ≤ i ∧ i ≤ 9) (DeckM.bind (pick2 n 9 (by omega) (by omega)) fun w ⟨i, e, h⟩ => ?_) fun w ⟨i, e, h1, h2⟩ => ?_) (by omega) fun _ h => h
  · subst e
    rw [rdM_v, M.pure_bind, add_int]
    exact DeckM.pV ⟨_, rfl, by omega, by omega⟩
  · subst e
    rw [pW_v, show [(pV (.int 1)), (pV (.int 2)), (pV (.int 3)), pV (.int i)] = ([.int 1, .int 2, .int 3, .int i] : List D).map pV from rfl, lst_lit _ (by simp)]
    refine DeckM.mono (k := 1) (f_one n _ (by simp) (by simp)) (by omega) fun w ⟨d, e, hd⟩ => ?_
    simp only [List.mem_cons, List.not_mem_nil, or_false] at hd
    rcases hd with rfl | rfl | rfl | rfl
    · exact ⟨_, e, by omega, by omega⟩
    · exact ⟨_, e, by omega, by omega⟩
    · exact ⟨_, e, by omega, by omega⟩
    · exact ⟨_, e, h1, h2⟩
/-- a row's name -/
theorem one_name (n : Nat) {tb : D} {rows : List Row} (h1 : 1 ≤ rows.length) (h5 : rows.length ≤ 5000) : DeckM n 1 (idxM (call2 F__law_one (pW (.c n)) (idxM (pW (.v (.tup [tb, rowsD rows]))) (pV (.int 1)))) (pV (.int 0))) fun w => ∃ r ∈ rows, w = .v (.str r.nm) := by
  have e : idxM (call2 F__law_one (pW (.c n)) (idxM (pW (.v (.tup [tb, rowsD rows]))) (pV (.int 1)))) (pV (.int 0)) = M.bind (F__law_one (.c n) (.v (rowsD rows))) fun x => M.bind (rdM x) fun x => M.bind (M.ofO (idxD x (.int 0))) fun d => pV d := by
    simp [idxM, call2]
  rw [e]
  refine DeckM.mono (k := 1 + 0) (DeckM.bind (f_oneT n (rows.map Row.d) (by rw [List.length_map]; omega) (by rw [List.length_map]; omega)) fun w ⟨d, e, hd⟩ => ?_) (by omega) fun _ h => h
  rw [List.mem_map] at hd
  obtain ⟨r, hr, rfl⟩ := hd
  subst e
  rw [rdM_v, M.pure_bind, show idxD r.d (.int 0) = some (.str r.nm) from idx_0 _ _]
  exact DeckM.pV ⟨r, hr, rfl⟩
theorem dic4 (i : Int) (t : Str) : dicM ["first", "last", "keep", "pass"] [(tupM [(pW (.v (.int i)))]), (tupM [(pW (.v (.int i)))]), (tupM [(pW (.v (.str t)))]), (tupM [(pW (.v (.str t)))])] = pV (.dct ["first", "last", "keep", "pass"] [.tup [.int i], .tup [.int i], .tup [.str t], .tup [.str t]]) := by
  simp only [pW_v, tupM1, dicM, valsM_cons, valsM_nil, M.pure_bind]
  exact if_pos ⟨rfl, by decide +kernel⟩
end Sh
end
section
set_option autoImplicit false
set_option maxRecDepth 100000
set_option maxHeartbeats 2000000
namespace Sh
open PySem Q
theorem op_key {x t nm : Str} {i : Int} (hx : isWord x) (hts : tS t) (hnm : tS nm) : ∃ xs : List D, binM .add (tupM [pW (.v (.str x))]) (getM (pW (.v (.dct ["first", "last", "keep", "pass"] [.tup [.int i], .tup [.int i], .tup [.str t], .tup [.str t]]))) (pW (.v (.str x))) (ifM (cmpT .in_ (pW (.v (.str x))) (tupM [(pV (.str "in")), (pV (.str "out"))])) (tupM [(pW (.v (.str nm)))]) (tupM []))) = pV (.tup (.str x :: xs)) ∧ tq 1 (.tup (.str x :: xs)) := by
  have tx : tS x := by
    unfold isWord at hx
    simp only [List.mem_cons, List.not_mem_nil, or_false] at hx
    rcases hx with rfl | rfl | rfl | rfl | rfl | rfl | rfl | rfl | rfl | rfl | rfl <;> exact tS_lit _ (by decide +kernel)
  have fin : ∀ ys : List D, ys.length ≤ 3 → (∀ y ∈ ys, tq 0 y) → tq 1 (.tup (.str x :: ys)) := fun ys hy h => tmN.of_tup (by rw [List.length_cons]; omega) fun d hd => by
    rcases List.mem_cons.mp hd with rfl | hd
    · exact tx.str0
    · exact h d hd
  unfold isWord at hx
  simp only [List.mem_cons, List.not_mem_nil, or_false] at hx
  rcases hx with rfl | rfl | rfl | rfl | rfl | rfl | rfl | rfl | rfl | rfl | rfl
  · exact ⟨[], by simp [in2, getK_cons, add_tup], fin [] (by simp) (by simp)⟩
  · exact ⟨[], by simp [in2, getK_cons, add_tup], fin [] (by simp) (by simp)⟩
  · exact ⟨[], by simp [in2, getK_cons, add_tup], fin [] (by simp) (by simp)⟩
  · exact ⟨[], by simp [in2, getK_cons, add_tup], fin [] (by simp) (by simp)⟩
  · exact ⟨[], by simp [in2, getK_cons, add_tup], fin [] (by simp) (by simp)⟩
  · exact ⟨[.int i], by simp [in2, getK_cons, add_tup], fin _ (by simp) (by simpa using tm_int 0 i)⟩
  · exact ⟨[.int i], by simp [in2, getK_cons, add_tup], fin _ (by simp) (by simpa using tm_int 0 i)⟩
  · exact ⟨[.str t], by simp [in2, getK_cons, add_tup], fin _ (by simp) (by simpa using hts.str0)⟩
  · exact ⟨[.str t], by simp [in2, getK_cons, add_tup], fin _ (by simp) (by simpa using hts.str0)⟩
  · exact ⟨[.str nm], by simp [in2, getK_cons, add_tup], fin _ (by simp) (by simpa using hnm.str0)⟩
  · exact ⟨[.str nm], by simp [in2, getK_cons, add_tup], fin _ (by simp) (by simpa using hnm.str0)⟩
end Sh
end
section
set_option autoImplicit false
set_option maxRecDepth 100000
set_option maxHeartbeats 2000000
namespace Sh
open PySem Q
theorem f_law_op (n : Nat) {H : Head} (hH : GH H) {s : St3} {m : Nat} (hs : s.Ok m) (hm : m ≤ 4000) : DeckM n 5 (F__law_op (.c n) (.v (headD H.tb H.rows)) (.v s.d)) fun w => ∃ op t, w = .v op ∧ withS H.rows s op = some t ∧ tq 1 op := by
  have hr := hH.ok
  have hz : 1 ≤ H.rows.length := List.length_pos_of_mem hH.zz
  have hl := hH.rl
  unfold F__law_op
  refine DeckM.cut (P := fun w => ∃ op t, w = .v op ∧ withS H.rows s op = some t ∧ tq 1 op) ?_ fun w ⟨op, t, e, _⟩ => ⟨op, e⟩
  refine DeckM.mono (k := 1 + (2 + (1 + (1 + 0)))) (DeckM.bind (one_word n) fun w ⟨x, e, hx⟩ => ?_) (by omega) fun _ h => h
  subst e
  refine DeckM.bind (one_number n) fun w ⟨i, e, hi1, hi9⟩ => ?_
  subst e
  refine DeckM.bind (one_test n) fun w ⟨t, e, ht, hts⟩ => ?_
  subst e
  refine DeckM.bind (one_name n hz (by omega)) fun w ⟨r, hrm, e⟩ => ?_
  subst e
  have hro := hr r hrm
  rw [dic4]
  obtain ⟨xs, e, htm⟩ := op_key (i := i) hx hts hro.nm
  rw [pV_bind, e, pV_bind]
  have hw := f_law_with (tb := stl H.tb) hr (by omega) hs hm (htm.up (by omega)) (by omega)
  unfold headD
  simp only [pW_v, call3_v, hw, cmpT_v, notN_st3, ofO_sB, tupM1]
  cases z : withS H.rows s (.tup (.str x :: xs)) with
  | none =>
    simp only [Option.isSome_none, ifM_f]
    exact DeckM.pV ⟨_, s, rfl, by simp [withS], tmN.of_tup (by simp) fun d hd => by
      simp only [List.mem_cons, List.not_mem_nil, or_false] at hd
      subst hd
      exact tm_lit _ _ (by decide +kernel)⟩
  | some t =>
    simp only [Option.isSome_some, ifM_t]
    exact DeckM.pV ⟨_, t, rfl, z, htm⟩
end Sh
end
section
set_option autoImplicit false
set_option maxRecDepth 100000
set_option maxHeartbeats 2000000
namespace Sh
open PySem Q
theorem ops_app (rows : List Row) (op : D) : ∀ (os : List D) (o : Option St3), opsS rows (os ++ [op]) o = (opsS rows os o).bind fun s => withS rows s op
  | [], o => rfl
  | a :: r, o => ops_app rows op r _
theorem told_nm : ∀ {rows : List Row}, (rows.Pairwise fun a b => lts a.nm b.nm) → ∀ {r : Row}, r ∈ rows → told rows (.str r.nm) = some r
  | [], _, r, h => by cases h
  | a :: rs, pw, r, h => by
    rw [List.pairwise_cons] at pw
    show (a :: rs).find? (fun q => q.nm == r.nm) = some r
    rw [List.find?_cons]
    rcases List.mem_cons.mp h with rfl | h
    · simp
    · have hl := pw.1 r h
      have hne : a.nm ≠ r.nm := fun e => by
        unfold lts at hl
        rw [e] at hl
        exact List.lt_irrefl _ hl
      rw [nb hne]
      exact told_nm pw.2 h
/-- a source as the law makes it -/
theorem one_source (n : Nat) {H : Head} (hH : GH H) : DeckM n 3 (call2 F__law_one (pW (.c n)) (lstM [(tupM [(pV (.str "table")), (call2 F__law_one (pW (.c n)) (idxM (pW (.v (headD H.tb H.rows))) (pV (.int 0))))]), (tupM [(pV (.str "of")), (idxM (call2 F__law_one (pW (.c n)) (idxM (pW (.v (headD H.tb H.rows))) (pV (.int 1)))) (pV (.int 0)))])])) fun w => ∃ src s, w = .v src ∧ begunS H.tb H.rows src = some s ∧ tq 1 src := by
  have hz : 1 ≤ H.rows.length := List.length_pos_of_mem hH.zz
  have hl := hH.rl
  have h1 := hH.l1
  have h3 := hH.l3
  have hr := hH.ok
  have i0 : idxM (pW (.v (headD H.tb H.rows))) (pV (.int 0)) = pV (stl H.tb) := by simp [headD]
  have dtab : DeckM n 1 (call2 F__law_one (pW (.c n)) (pV (stl H.tb))) fun w => ∃ d, w = .v d ∧ ∃ x ∈ H.tb, d = .str x := by
    refine DeckM.mono (k := 1) (f_oneT n (H.tb.map .str) (by rw [List.length_map]; omega) (by rw [List.length_map]; omega)) (by omega) fun w ⟨d, e, hd⟩ => ?_
    rw [List.mem_map] at hd
    obtain ⟨x, hx, rfl⟩ := hd
    exact ⟨_, e, x, hx, rfl⟩
  rw [i0]
  have e : call2 F__law_one (pW (.c n)) (lstM [(tupM [(pV (.str "table")), (call2 F__law_one (pW (.c n)) (pV (stl H.tb)))]), (tupM [(pV (.str "of")), (idxM (call2 F__law_one (pW (.c n)) (idxM (pW (.v (headD H.tb H.rows))) (pV (.int 1)))) (pV (.int 0)))])]) = M.bind (lstM [(tupM [(pV (.str "table")), (call2 F__law_one (pW (.c n)) (pV (stl H.tb)))]), (tupM [(pV (.str "of")), (idxM (call2 F__law_one (pW (.c n)) (idxM (pW (.v (headD H.tb H.rows))) (pV (.int 1)))) (pV (.int 0)))])]) fun w => F__law_one (.c n) w := by
    simp only [call2, pW_bind]
  rw [e]
  have tlit : ∀ w : Str, w = "table" ∨ w = "of" → tS w := fun w h => by rcases h with rfl | rfl <;> exact tS_lit _ (by decide +kernel)
  have t2 : ∀ (w y : Str), tS w → tS y → tq 1 (.tup [.str w, .str y]) := fun w y h1 h2 => tmN.of_tup (by simp) fun d hd => by
    simp only [List.mem_cons, List.not_mem_nil, or_false] at hd
    rcases hd with rfl | rfl
    · exact h1.str0
    · exact h2.str0
  have ttb : ∀ x ∈ H.tb, tS x := fun x hx => tS_lab (lab_TB x (hH.tb x hx)) (List.mem_append_left _ (hH.tb x hx))
  refine DeckM.mono (k := 2 + 1) (DeckM.bind (P := fun w => ∃ a b, w = .v (.lst [a, b]) ∧ (∃ s, begunS H.tb H.rows a = some s) ∧ tq 1 a ∧ (∃ s, begunS H.tb H.rows b = some s) ∧ tq 1 b) (DeckM.lst (DeckM.mono (k := 1 + (1 + 0)) (DeckM.vals_cons (P := fun a => (∃ s, begunS H.tb H.rows a = some s) ∧ tq 1 a) (DeckM.tup ?_) fun a ha => DeckM.vals_cons (P := fun b => (∃ s, begunS H.tb H.rows b = some s) ∧ tq 1 b) (DeckM.tup ?_) fun b hb => DeckM.vals_nil ⟨by simp, a, b, rfl, ha.1, ha.2, hb.1, hb.2⟩) (by omega) fun _ h => h)) fun w ⟨a, b, e, ha, ta, hb, tb⟩ => ?_) (by omega) fun _ h => h
  · refine DeckM.mono (k := 0 + (1 + 0)) (DeckM.vals_cons (P := fun d => d = .str "table") (DeckM.pV ⟨_, rfl, rfl⟩) fun d1 e1 => DeckM.vals_cons (P := fun d => ∃ x ∈ H.tb, d = .str x) dtab fun d2 ⟨x, hx, e2⟩ => DeckM.vals_nil ⟨by simp, .tup [d1, d2], rfl, ?_, ?_⟩) (by omega) fun _ h => h
    · subst e1 e2
      refine ⟨⟨"rows", [x], true⟩, ?_⟩
      simp [begunS, mem_str, hx]
    · subst e1 e2
      exact t2 _ _ (tlit _ (.inl rfl)) (ttb x hx)
  · refine DeckM.mono (k := 0 + (1 + 0)) (DeckM.vals_cons (P := fun d => d = .str "of") (DeckM.pV ⟨_, rfl, rfl⟩) fun d1 e1 => DeckM.vals_cons (P := fun d => ∃ r ∈ H.rows, d = .str r.nm) (DeckM.mono (k := 1) (one_name n hz (by omega)) (by omega) fun w ⟨r, hr, e⟩ => ⟨_, e, r, hr, rfl⟩) fun d2 ⟨r, hrm, e2⟩ => DeckM.vals_nil ⟨by simp, .tup [d1, d2], rfl, ?_, ?_⟩) (by omega) fun _ h => h
    · subst e1 e2
      refine ⟨r.st, ?_⟩
      simp [begunS, told_nm hH.rpw hrm]
    · subst e1 e2
      exact t2 _ _ (tlit _ (.inr rfl)) (hr r hrm).nm
  · subst e
    refine DeckM.mono (k := 1) (f_one n _ (by simp) (by simp)) (by omega) fun w ⟨d, e, hd⟩ => ?_
    simp only [List.mem_cons, List.not_mem_nil, or_false] at hd
    rcases hd with rfl | rfl
    · obtain ⟨s, h⟩ := ha; exact ⟨_, s, e, h, ta⟩
    · obtain ⟨s, h⟩ := hb; exact ⟨_, s, e, h, tb⟩
theorem one_how (n : Nat) : DeckM n 1 (call2 F__law_one (pW (.c n)) (lstM [(pV (.str "live")), (pV (.str "live")), (pV (.str "live")), (pV (.str "once"))])) fun w => ∃ x : Str, w = .v (.str x) ∧ (x = "live" ∨ x = "once") := by
  rw [show [(pV (.str "live")), (pV (.str "live")), (pV (.str "live")), (pV (.str "once"))] = ([.str "live", .str "live", .str "live", .str "once"] : List D).map pV from rfl, lst_lit _ (by simp)]
  refine DeckM.mono (k := 1) (f_one n _ (by simp) (by simp)) (by omega) fun w ⟨d, e, hd⟩ => ?_
  simp only [List.mem_cons, List.not_mem_nil, or_false] at hd
  rcases hd with rfl | rfl | rfl | rfl
  · exact ⟨_, e, .inl rfl⟩
  · exact ⟨_, e, .inl rfl⟩
  · exact ⟨_, e, .inl rfl⟩
  · exact ⟨_, e, .inr rfl⟩
theorem one_count (n : Nat) : DeckM n 1 (rngM (call2 F__law_one (pW (.c n)) (lstM [(pV (.int 0)), (pV (.int 1)), (pV (.int 1)), (pV (.int 2)), (pV (.int 3)), (pV (.int 5))]))) fun xs => xs.length ≤ 5 := by
  rw [show [(pV (.int 0)), (pV (.int 1)), (pV (.int 1)), (pV (.int 2)), (pV (.int 3)), (pV (.int 5))] = ([.int 0, .int 1, .int 1, .int 2, .int 3, .int 5] : List D).map pV from rfl, lst_lit _ (by simp)]
  refine DeckM.mono (k := 1 + 0) (DeckM.bind (f_one n _ (by simp) (by simp)) fun w ⟨d, e, hd⟩ => ?_) (by omega) fun _ h => h
  subst e
  have fin : ∀ k : Nat, k ≤ 5 → DeckM n 0 (rngW (.v (.int (k : Int)))) fun xs => xs.length ≤ 5 := fun k hk => by
    rw [rngW_ok (okI (by omega) (by omega)), Int.toNat_natCast]
    exact DeckM.pure (by unfold rngD; rw [List.length_map, List.length_range]; exact hk)
  simp only [List.mem_cons, List.not_mem_nil, or_false] at hd
  rcases hd with rfl | rfl | rfl | rfl | rfl | rfl
  · exact fin 0 (by omega)
  · exact fin 1 (by omega)
  · exact fin 1 (by omega)
  · exact fin 2 (by omega)
  · exact fin 3 (by omega)
  · exact fin 5 (by omega)
end Sh
end
section
set_option autoImplicit false
set_option maxRecDepth 100000
set_option maxHeartbeats 2000000
namespace Sh
open PySem Q
def fitR (s : St3) (r : Row) : Bool := (r.kd == s.kd && r.nms == s.nms) && (s.lg || !r.lg)
theorem fits_eq {tb : D} {rows : List Row} {s : St3} {m : Nat} (hr : ∀ r ∈ rows, r.Ok) (hl : rows.length ≤ 5000) (hs : s.Ok m) (hm : m ≤ 4000) :
    lcM false (walkM (idxM (pW (.v (.tup [tb, rowsD rows]))) (pV (.int 1)))) (fun d3 => (andT (cmpT .eq (slcM (pV d3) (oS (pV (.int 1))) (oS (pV (.int 3)))) (slcM (pW (.v s.d)) oN (oS (pV (.int 2))))) (orT (tst (idxM (pW (.v s.d)) (pV (.int 2)))) (notT (tst (idxM (pV d3) (pV (.int 3)))))))) (fun d3 => (idxM (pV d3) (pV (.int 0)))) = pV (.lst ((rows.filter (fitR s)).map fun r => .str r.nm)) := by
  rw [lc_filter (xs := rows.map Row.d) (p := fun d => fitR s (rowOf d)) (g := fun d => .str (rowOf d).nm) (by simp [rowsD]) (by rw [List.length_map]; exact hl) (fun d hd => by
    rw [List.mem_map] at hd
    obtain ⟨r, h, rfl⟩ := hd
    have hro := hr r h
    have c1 := cmp_eq (shp_2 hro.kd hro.nms (by have := hro.few; omega)) (shp_2 hs.kd hs.nms (by have := hs.few; omega))
    rw [eqd_2] at c1
    have i1 : idxD s.d (.int 2) = some (.bl s.lg) := idx_2 _ _ _ _
    have i2 : idxD r.d (.int 3) = some (.bl r.lg) := idx_3 _ _ _ _ _
    rw [rowOf_d]
    simp only [pW_v, oS_v, oN_eq, slcM_v, row_cut2, st_cut2, M.ofO_some, M_pure_pV, cmpT_v, c1, ofO_sB, idxM_v, i1, i2, tst_pV, notT_pB, orT_pB2, andT_pB2, pure_B]
    rfl) (fun d hd _ => by
    rw [List.mem_map] at hd
    obtain ⟨r, h, rfl⟩ := hd
    rw [rowOf_d]
    have i0 : idxD r.d (.int 0) = some (.str r.nm) := idx_0 _ _
    simp only [idxM_v, i0, M.ofO_some, M_pure_pV])]
  rw [List.filter_map, List.map_map]
  have e1 : ((fun d => fitR s (rowOf d)) ∘ Row.d) = fitR s := by funext r; show fitR s (rowOf r.d) = _; rw [rowOf_d]
  have e2 : ((fun d => D.str (rowOf d).nm) ∘ Row.d) = fun r => .str r.nm := by funext r; show D.str (rowOf r.d).nm = _; rw [rowOf_d]
  rw [e1, e2]
theorem shp_names {rows : List Row} (hr : ∀ r ∈ rows, r.Ok) (hl : rows.length ≤ 5000) : shp (.lst (rows.map fun r => .str r.nm)) := (tmN.of_lst (N := 5000) (k := 0) (by rw [List.length_map]; exact hl) fun d hd => by
  rw [List.mem_map] at hd
  obtain ⟨r, h, rfl⟩ := hd
  exact (hr r h).nm).shp (by omega)
theorem view_ok {tb : List Str} {rows : List Row} {r : Row} {s : St3} {a how : Str} {src : D} {os : List D} (ht : told rows (.str r.nm) = some r) (hf : fitR s r = true) (hs : opsS rows os (begunS tb rows src) = some s) (hl : os.length ≤ 6) (hh : how = "live" ∨ how = "once") :
    viewS tb rows [.str a, .str r.nm, .str how, src, .tup os] = true := by
  have e : shapeS tb rows src (.tup os) = some s := by
    show (if os.length ≤ 6 then opsS rows os (begunS tb rows src) else none) = _
    rw [if_pos hl, hs]
  unfold viewS
  dsimp only
  rw [ht, e]
  unfold fitR at hf
  rw [Bool.and_eq_true]
  refine ⟨by rcases hh with rfl | rfl <;> simp, hf⟩
theorem how_tS {x : Str} (h : x = "live" ∨ x = "once") : tS x := by rcases h with rfl | rfl <;> exact tS_lit _ (by decide +kernel)
/-- what a made view is -/
def GV (H : Head) (d : D) : Prop := ∃ r : List D, d = .tup (.str "view" :: r) ∧ viewS H.tb H.rows (.str "view" :: r) = true ∧ tq 3 d
theorem tm_view {nm how : Str} {src : D} {os : List D} (h1 : tS nm) (h2 : tS how) (h3 : tq 1 src) (h4 : os.length ≤ 6) (h5 : ∀ o ∈ os, tq 1 o) : tq 3 (.tup [.str "view", .str nm, .str how, src, .tup os]) := tmN.of_tup (by simp) fun d hd => by
  simp only [List.mem_cons, List.not_mem_nil, or_false] at hd
  rcases hd with rfl | rfl | rfl | rfl | rfl
  · exact tm_lit _ _ (by decide +kernel)
  · exact h1.str0
  · exact h2.str0
  · exact h3.mono (by omega)
  · exact tmN.of_tup (by omega) h5
theorem f_law_view (n : Nat) {H : Head} (hH : GH H) : DeckM n 125 (F__law_view (.c n) (.v (headD H.tb H.rows))) fun w => ∃ d, w = .v d ∧ GV H d := by
  have hr := hH.ok
  have hz : 1 ≤ H.rows.length := List.length_pos_of_mem hH.zz
  have hl := hH.rl
  have hl1 := hH.l1
  unfold F__law_view
  refine DeckM.cut (P := fun w => ∃ d, w = .v d ∧ GV H d) ?_ fun w ⟨d, e, _⟩ => ⟨d, e⟩
  refine DeckM.mono (k := 1 + (31 * 4 + 0)) (DeckM.bind (one_how n) fun w ⟨how, e, hhow⟩ => ?_) (by omega) fun _ h => h
  subst e
  have hx4 : (rngD 0 4).length = 4 := rfl
  rw [← hx4]
  refine DeckM.forM (I := fun _ => True) (R := fun w => ∃ d, w = .v d ∧ GV H d) (xs := rngD 0 4) (rng_ok (n := 4) (by omega)) trivial ?_ ?_ ?_
  · intro _ d _ _
    refine DeckM.mono (k := 3 + (1 + (5 * 5 + 1))) (DeckM.bind (one_source n hH) fun w ⟨src, s0, e, hb, hts⟩ => ?_) (by omega) fun _ h => h
    subst e
    have hsrc := f_law_source (tb := H.tb) hr (by omega) (hts.up (M := 5000) (by omega)) (by omega)
    rw [hb] at hsrc
    simp only [pW_v, call2_v, hsrc, pV_bind, tupM_nil, vW_v]
    refine DeckM.forE (one_count n) fun xs hxs => ?_
    refine DeckM.mono (k := 5 * xs.length + 1) ?_ (by omega) fun _ h => h
    refine DeckM.forI (I := fun i (s2 : W × W) => ∃ s os, s2 = (.v s.d, .v (.tup os)) ∧ s.Ok (3 + 3 * i) ∧ opsS H.rows os (begunS H.tb H.rows src) = some s ∧ os.length = i ∧ ∀ o ∈ os, tq 1 o) (R := fun _ => False) rfl ⟨s0, [], rfl, begun_ok hr (hts.up (M := 5000) (by omega)) hb, hb, rfl, by simp⟩ ?_ ?_ (fun _ h => h.elim)
    · intro i s2 d hi ⟨s, os, e, hs, ho, hlen, hos⟩ _
      subst e
      have hop := f_law_op n hH hs (by omega)
      refine DeckM.mono (k := 5 + 0) (DeckM.bind (P := fun (w : W) => ∃ op t, w = .v op ∧ withS H.rows s op = some t ∧ tq 1 op) hop fun w ⟨op, t, e, hw, htm⟩ => ?_) (by omega) fun _ h => h
      subst e
      have e2 := f_law_with (tb := stl H.tb) hr (by omega) hs (by omega) (htm.up (by omega)) (by omega)
      rw [hw] at e2
      have hadd := add_tup (xs := os) (ys := [op]) (by simp; omega)
      unfold headD
      simp only [pW_v, call3_v, e2, pV_bind, tupM1, binM_v, hadd, M.ofO_some, M_pure_pV, vW_v]
      refine DeckM.pure ⟨t, os ++ [op], rfl, ?_, ?_, by simp [hlen], ?_⟩
      · have := with_ok hr hs hw
        rw [show 3 + 3 * (i + 1) = 3 + 3 * i + 3 by omega]
        exact this
      · rw [ops_app, ho]
        exact hw
      · intro o h
        rcases List.mem_append.mp h with h | h
        · exact hos o h
        · simp only [List.mem_cons, List.not_mem_nil, or_false] at h
          subst h
          exact htm
    · intro s2 ⟨s, os, e, hs, ho, hlen, hos⟩
      subst e
      have hf := fits_eq (tb := stl H.tb) hr (by omega) hs (by omega)
      have hsh := shp_names (rows := H.rows.filter (fitR s)) (fun r h => hr r (List.mem_filter.mp h).1) (Nat.le_trans (List.length_filter_le _ _) (by omega))
      have hne := ne_nilL hsh
      unfold headD
      simp only [pW_v] at hf
      simp only [pW_v, hf, pV_bind, lstM_nil, cmpT_v, hne, ofO_sB, List.isEmpty_map]
      cases z : (H.rows.filter (fitR s)).isEmpty with
      | true =>
        simp only [Bool.not_true, ifM_f]
        exact DeckM.mono (k := 0) (DeckM.pure (P := fun (r : St Unit) => match r with | .nxt _ => True | .ret w => ∃ d, w = .v d ∧ GV H d) trivial) (by omega) fun r h => by cases r <;> exact h
      | false =>
        simp only [Bool.not_false, ifM_t]
        have hpos : 0 < (H.rows.filter (fitR s)).length := by
          rw [List.length_pos_iff]
          intro e
          rw [e] at z
          cases z
        have h1 : DeckM n 1 (call2 F__law_one (pW (.c n)) (pV (.lst ((H.rows.filter (fitR s)).map fun r => .str r.nm)))) fun w => ∃ d, w = .v d ∧ ∃ r ∈ H.rows, fitR s r = true ∧ d = .str r.nm := by
          refine DeckM.mono (k := 1) (f_one n _ (by rw [List.length_map]; exact hpos) (by rw [List.length_map]; exact Nat.le_trans (List.length_filter_le _ _) (by omega))) (by omega) fun w ⟨d, e, hd⟩ => ?_
          rw [List.mem_map] at hd
          obtain ⟨r, h, rfl⟩ := hd
          have := List.mem_filter.mp h
          exact ⟨_, e, r, this.1, this.2, rfl⟩
        refine DeckM.mono (k := 1 + 0) (DeckM.bind (P := fun (w : W) => ∃ d, w = .v d ∧ GV H d) (DeckM.tup (DeckM.mono (k := 0 + (1 + 0)) (DeckM.vals_cons (P := fun d => d = .str "view") (DeckM.pV ⟨_, rfl, rfl⟩) fun d1 e1 => DeckM.vals_cons h1 fun d2 ⟨r, hrm, hfit, e2⟩ => ?_) (by omega) fun _ h => h)) fun w h => ?_) (by omega) fun _ h => h
        · subst e1 e2
          rw [show valsM [pV (.str how), pV src, pV (.tup os)] = M.pure [.str how, src, .tup os] by simp only [valsM_cons, valsM_nil, M.pure_bind]]
          refine DeckM.pure ⟨by simp, _, rfl, _, rfl, view_ok (told_nm hH.rpw hrm) hfit ho (by omega) hhow, tm_view (hr r hrm).nm (how_tS hhow) hts (by omega) hos⟩
        · exact DeckM.pure h
  · intro _ _
    obtain ⟨x, hx⟩ : ∃ x, H.tb.head? = some x := by
      cases e : H.tb with
      | nil => rw [e] at hl1; simp at hl1
      | cons a r => exact ⟨a, rfl⟩
    have htk : H.tb.take 1 = [x] := by
      cases e : H.tb with
      | nil => rw [e] at hx; cases hx
      | cons a r => rw [e] at hx; cases hx; rfl
    have hxm : x ∈ H.tb := List.mem_of_mem_head? hx
    have i0 : idxD (stl H.tb) (.int 0) = some (.str x) := by
      cases e : H.tb with
      | nil => rw [e] at hx; cases hx
      | cons a r => rw [e] at hx; cases hx; exact idx_0 _ _
    have e1 : tupM [(pV (.str "view")), (pV (.str "zz")), (pW (.v (.str how))), (tupM [(pV (.str "table")), (idxM (idxM (pW (.v (headD H.tb H.rows))) (pV (.int 0))) (pV (.int 0)))]), (tupM [])] = pV (.tup [.str "view", .str (zzR H.tb).nm, .str how, .tup [.str "table", .str x], .tup []]) := by
      simp [headD, i0, zzR]
    rw [e1]
    have hb : begunS H.tb H.rows (.tup [.str "table", .str x]) = some ⟨"rows", [x], true⟩ := by
      simp [begunS, mem_str, hxm]
    refine DeckM.pV ⟨_, rfl, _, rfl, view_ok (s := ⟨"rows", [x], true⟩) (told_nm hH.rpw hH.zz) (by simp [fitR, zzR, htk]) hb (by simp) hhow, tm_view (hr _ hH.zz).nm (how_tS hhow) (tmN.of_tup (by simp) fun d hd => ?_) (by simp) (by simp)⟩
    simp only [List.mem_cons, List.not_mem_nil, or_false] at hd
    rcases hd with rfl | rfl
    · exact tm_lit _ _ (by decide +kernel)
    · exact (tS_lab (lab_TB x (hH.tb x hxm)) (List.mem_append_left _ (hH.tb x hxm))).str0
  · intro w h
    exact DeckM.pure h
end Sh
end
section
set_option autoImplicit false
set_option maxRecDepth 100000
set_option maxHeartbeats 2000000
namespace Sh
open PySem Q
/-- what a thing counts, wherever there is room for it -/
def Val (f : Nat → D → Option (Int × Int)) (deep : Nat) (d : D) (p : Int × Int) : Prop := (∀ k, deep ≤ k → f k d = some p) ∧ 0 ≤ p.1 ∧ p.1 ≤ p.2
def CntL (f : Nat → D → Option (Int × Int)) (deep : Nat) : List D → Int × Int → Prop
  | [], t => t = (0, 0)
  | d :: r, t => ∃ p t', Val f deep d p ∧ CntL f deep r t' ∧ t = addC2 p t'
section
variable {f : Nat → D → Option (Int × Int)} {deep : Nat}
theorem CntL.bound : ∀ {ds : List D} {t : Int × Int}, CntL f deep ds t → 0 ≤ t.1 ∧ t.1 ≤ t.2
  | [], t, h => by
    have h : t = (0, 0) := h
    rw [h]; exact ⟨by decide, by decide⟩
  | d :: r, t, ⟨p, t', h1, h2, e⟩ => by
    have := h2.bound
    have := h1.2
    rw [e]
    unfold addC2
    exact ⟨by dsimp only; omega, by dsimp only; omega⟩
theorem CntL.sum : ∀ {ds : List D} {t : Int × Int}, CntL f deep ds t → ∀ k, deep ≤ k → ∀ q, sumS (f k) ds q = some (addC2 q t)
  | [], t, h, k, hk, q => by
    have h : t = (0, 0) := h
    rw [h]
    unfold sumS addC2
    simp
  | d :: r, t, ⟨p, t', h1, h2, e⟩, k, hk, q => by
    unfold sumS
    rw [h1.1 k hk, e]
    dsimp only
    rw [h2.sum k hk]
    unfold addC2
    simp [Int.add_assoc]
theorem CntL.app : ∀ {ds : List D} {t p : Int × Int} {d : D}, CntL f deep ds t → Val f deep d p → CntL f deep (ds ++ [d]) (addC2 t p)
  | [], t, p, d, h, g => by
    have h : t = (0, 0) := h
    rw [h]
    refine ⟨p, (0, 0), g, rfl, ?_⟩
    unfold addC2
    simp
  | a :: r, t, p, d, ⟨p', t', h1, h2, e⟩, g => by
    refine ⟨p', addC2 t' p, h1, h2.app g, ?_⟩
    rw [e]
    unfold addC2
    simp [Int.add_assoc]
theorem CntL.head {d d' : D} {r : List D} {t : Int × Int} (h : CntL f deep (d :: r) t) (g : Val f deep d' (0, 0)) : ∃ t', CntL f deep (d' :: r) t' ∧ t'.2 ≤ t.2 := by
  obtain ⟨p, t', h1, h2, e⟩ := h
  refine ⟨t', ⟨(0, 0), t', g, h2, ?_⟩, ?_⟩
  · unfold addC2; simp
  · have := h1.2
    rw [e]
    unfold addC2
    dsimp only
    omega
end
abbrev fB (H : Head) (k : Nat) (d : D) : Option (Int × Int) := bodyS H.tb H.rows k d
abbrev fI (H : Head) (k : Nat) (d : D) : Option (Int × Int) := itemS (bodyS H.tb H.rows k) H.tb H.rows d
/-- what is left, counted from 0 -/
def pos (L : Int) : Int := if 0 ≤ L then L else 0
theorem pos_le {L M : Int} (h : L ≤ M) : pos L ≤ pos M := by unfold pos; split <;> split <;> omega
def PD : Nat → Nat
  | 0 => 700
  | k + 1 => 700 + 15 * PD k
/-- a made body -/
structure GB (H : Head) (deep : Nat) (q : Int) (items : List D) : Prop where
  cnt : ∃ t, CntL (fI H) deep items t ∧ t.2 ≤ q
  tms : ∀ d ∈ items, tq (3 + 2 * deep) d
  few : items.length ≤ 5
theorem GB.val {H : Head} {deep : Nat} {q : Int} {items : List D} (h : GB H deep q items) : ∃ p, Val (fB H) (deep + 1) (.tup items) p ∧ p.2 ≤ q := by
  obtain ⟨t, h1, h2⟩ := h.cnt
  refine ⟨t, ⟨fun k hk => ?_, h1.bound⟩, h2⟩
  obtain ⟨j, rfl⟩ : ∃ j, k = j + 1 := ⟨k - 1, by omega⟩
  show sumS (itemS (bodyS H.tb H.rows j) H.tb H.rows) items (0, 0) = some t
  have := h1.sum j (by omega) (0, 0)
  rw [this]
  unfold addC2
  simp
theorem GB.tm {H : Head} {deep : Nat} {q : Int} {items : List D} (h : GB H deep q items) : tq (3 + 2 * deep + 1) (.tup items) := tmN.of_tup (by have := h.few; omega) h.tms
/-! items -/
theorem val_view {H : Head} {deep : Nat} {d : D} (h : GV H d) : Val (fI H) deep d (1, 1) := by
  obtain ⟨r, rfl, h2, _⟩ := h
  refine ⟨fun k _ => ?_, by decide, by decide⟩
  show itemS _ _ _ _ = _
  simp [itemS, simpleS, h2]
theorem val_change {H : Head} {deep : Nat} {w x : Str} (hw : w = "add" ∨ w = "drop" ∨ w = "set" ∨ w = "move") (hx : x ∈ H.tb) : Val (fI H) deep (.tup [.str w, .str x]) (1, 1) := by
  refine ⟨fun k _ => ?_, by decide, by decide⟩
  show itemS _ _ _ _ = _
  rcases hw with rfl | rfl | rfl | rfl <;> simp [itemS, simpleS, isChange, mem_str, hx]
theorem val_tell {H : Head} {deep : Nat} {r : Row} (hH : GH H) (hr : r ∈ H.rows) : Val (fI H) deep (.tup [.str "tell", .str r.nm]) (1, 1) := by
  refine ⟨fun k _ => ?_, by decide, by decide⟩
  show itemS _ _ _ _ = _
  simp [itemS, simpleS, isChange, told_nm hH.rpw hr]
theorem val_walk {H : Head} {deep : Nat} {r : Row} {b : D} {p : Int × Int} (hH : GH H) (hr : r ∈ H.rows) (hl : r.lg = true) (hb : Val (fB H) deep b p) : Val (fI H) deep (.tup [.str "walk", .str r.nm, b]) (1 + p.1, 1 + p.2) := by
  refine ⟨fun k hk => ?_, by have := hb.2; dsimp only; omega, by have := hb.2; dsimp only; omega⟩
  show itemS _ _ _ _ = _
  simp [itemS, told_nm hH.rpw hr, hl, sumS]
  rw [show bodyS H.tb H.rows k b = some p from hb.1 k hk]
  rfl
theorem val_loop {H : Head} {deep : Nat} {b : D} {p : Int × Int} (hb : Val (fB H) deep b p) : Val (fI H) deep (.tup [.str "loop", b]) (p.1, 1 + p.2) := by
  refine ⟨fun k hk => ?_, by have := hb.2; dsimp only; omega, by have := hb.2; dsimp only; omega⟩
  show itemS _ _ _ _ = _
  simp [itemS, sumS]
  rw [show bodyS H.tb H.rows k b = some p from hb.1 k hk]
  simp [addC2]
theorem val_either {H : Head} {deep : Nat} {bs : List D} {t : Int × Int} (h2 : 2 ≤ bs.length) (h4 : bs.length ≤ 4) (hb : CntL (fB H) deep bs t) : Val (fI H) deep (.tup (.str "either" :: bs)) (t.1, 1 + t.2) := by
  have := hb.bound
  refine ⟨fun k hk => ?_, by dsimp only; omega, by dsimp only; omega⟩
  show itemS _ _ _ _ = _
  simp [itemS, h2, h4]
  rw [hb.sum k hk]
  simp [addC2]
theorem val_none {H : Head} {deep : Nat} (h : 1 ≤ deep) : Val (fB H) deep (.tup []) (0, 0) := by
  refine ⟨fun k hk => ?_, by decide, by decide⟩
  obtain ⟨j, rfl⟩ : ∃ j, k = j + 1 := ⟨k - 1, by omega⟩
  rfl
theorem tS_item {x : Str} (h : x = "add" ∨ x = "drop" ∨ x = "set" ∨ x = "move" ∨ x = "tell" ∨ x = "walk" ∨ x = "loop" ∨ x = "either") : tS x := by
  rcases h with rfl | rfl | rfl | rfl | rfl | rfl | rfl | rfl <;> exact tS_lit _ (by decide +kernel)
/-- names of the long lists -/
theorem walks_eq {tb : D} {rows : List Row} (hl : rows.length ≤ 5000) : lcM false (walkM (idxM (pW (.v (.tup [tb, rowsD rows]))) (pV (.int 1)))) (fun d1 => (tst (idxM (pV d1) (pV (.int 3))))) (fun d1 => (idxM (pV d1) (pV (.int 0)))) = pV (.lst ((rows.filter Row.lg).map fun r => .str r.nm)) := by
  rw [lc_filter (xs := rows.map Row.d) (p := fun d => (rowOf d).lg) (g := fun d => .str (rowOf d).nm) (by simp [rowsD]) (by rw [List.length_map]; exact hl) (fun d hd => by
    rw [List.mem_map] at hd
    obtain ⟨r, h, rfl⟩ := hd
    have i2 : idxD r.d (.int 3) = some (.bl r.lg) := idx_3 _ _ _ _ _
    rw [rowOf_d]
    simp only [idxM_v, i2, M.ofO_some, M_pure_pV, tst_pV]) (fun d hd _ => by
    rw [List.mem_map] at hd
    obtain ⟨r, h, rfl⟩ := hd
    rw [rowOf_d]
    have i0 : idxD r.d (.int 0) = some (.str r.nm) := idx_0 _ _
    simp only [idxM_v, i0, M.ofO_some, M_pure_pV])]
  rw [List.filter_map, List.map_map]
  have e1 : ((fun d => (rowOf d).lg) ∘ Row.d) = Row.lg := by funext r; show (rowOf r.d).lg = _; rw [rowOf_d]
  have e2 : ((fun d => D.str (rowOf d).nm) ∘ Row.d) = fun r => .str r.nm := by funext r; show D.str (rowOf r.d).nm = _; rw [rowOf_d]
  rw [e1, e2]
end Sh
end
section
set_option autoImplicit false
set_option maxRecDepth 100000
set_option maxHeartbeats 4000000
namespace Sh
open PySem Q
/-- two cells that are changed -/
def two (c : Cells) (n l : Nat) (ds : List D) (L : Int) : Cells := (c.set n (some ds)).set l (some [.int L])
section
variable {c : Cells} {n l : Nat}
theorem two_len (ds : List D) (L : Int) : (two c n l ds L).length = c.length := by unfold two; simp
theorem two_n (hn : n < c.length) (hl : l < c.length) (h : n ≠ l) (ds : List D) (L : Int) (X : Cells) : (two c n l ds L ++ X)[n]? = some (some ds) := by
  rw [get_app (by rw [two_len]; exact hn)]
  unfold two
  rw [List.getElem?_set_ne (Ne.symm h), List.getElem?_set_self hn]
theorem two_l (hn : n < c.length) (hl : l < c.length) (ds : List D) (L : Int) (X : Cells) : (two c n l ds L ++ X)[l]? = some (some [.int L]) := by
  rw [get_app (by rw [two_len]; exact hl)]
  unfold two
  rw [List.getElem?_set_self (by simp; exact hl)]
theorem two_sn (hn : n < c.length) (h : n ≠ l) (ds ds' : List D) (L : Int) (X : Cells) : (two c n l ds L ++ X).set n (some ds') = two c n l ds' L ++ X := by
  rw [set_app (by rw [two_len]; exact hn)]
  unfold two
  rw [List.set_comm _ _ (Ne.symm h), List.set_set]
theorem two_sl (hl : l < c.length) (ds : List D) (L M : Int) (X : Cells) : (two c n l ds L ++ X).set l (some [.int M]) = two c n l ds M ++ X := by
  rw [set_app (by rw [two_len]; exact hl)]
  unfold two
  rw [List.set_set]
theorem two_own (ds : List D) (L : Int) (v : Option (List D)) (X : Cells) : (two c n l ds L ++ v :: X)[c.length]? = some v := by
  have := get_own (c := two c n l ds L) (v := v) (X := X)
  rwa [two_len] at this
theorem two_sown (ds : List D) (L : Int) (u v : Option (List D)) (X : Cells) : (two c n l ds L ++ v :: X).set c.length u = two c n l ds L ++ u :: X := by
  have := set_own (c := two c n l ds L) (v := v) (u := u) (X := X)
  rwa [two_len] at this
theorem two_two (hn : n < c.length) (hl : l < c.length) (h : n ≠ l) (ds ds' : List D) (L L' : Int) (X : Cells) : two (two c n l ds L ++ X) n l ds' L' = two c n l ds' L' ++ X := by
  show ((two c n l ds L ++ X).set n (some ds')).set l (some [.int L']) = _
  rw [two_sn hn h, two_sl hl]
theorem two_self {ds : List D} {L : Int} (h1 : c[n]? = some (some ds)) (h2 : c[l]? = some (some [.int L])) : two c n l ds L = c := by
  unfold two
  rw [set_self h1, set_self h2]
theorem two_take (ds : List D) (L : Int) (X : Cells) : (two c n l ds L ++ X).take c.length = two c n l ds L := by
  rw [List.take_append_of_le_length (by rw [two_len]; exact Nat.le_refl _)]
  exact List.take_of_length_le (by rw [two_len]; exact Nat.le_refl _)
end
theorem at_binC {o : Op} {a : M W} {c : Cells} {m : Nat} {ds : List D} {x z : D} (h : At a c x) (g : c[m]? = some (some ds)) (e : opD o x (.lst ds) = some z) : At (binM o a (pW (.c m))) c z := by
  show (a c).bind _ = _
  rw [show a c = _ from h]
  show (M.bind (rdM (.c m)) fun y => M.bind (M.ofO (opD o x y)) fun d => pV d) c = _
  show (rdR (.c m) c).bind _ = _
  unfold rdR
  rw [rd_c g]
  show (M.bind (M.ofO (opD o x (.lst ds))) fun d => pV d) c = _
  rw [e]
  rfl
theorem one_tab (n : Nat) {H : Head} (hH : GH H) : DeckM n 1 (call2 F__law_one (pW (.c n)) (idxM (pW (.v (.tup [stl H.tb, rowsD H.rows]))) (pV (.int 0)))) fun w => ∃ d, w = .v d ∧ ∃ x ∈ H.tb, d = .str x := by
  have h1 := hH.l1
  have h3 := hH.l3
  have i0 : idxM (pW (.v (.tup [stl H.tb, rowsD H.rows]))) (pV (.int 0)) = pV (stl H.tb) := by simp
  rw [i0]
  refine DeckM.mono (k := 1) (f_oneT n (H.tb.map .str) (by rw [List.length_map]; omega) (by rw [List.length_map]; omega)) (by omega) fun w ⟨d, e, hd⟩ => ?_
  rw [List.mem_map] at hd
  obtain ⟨x, hx, rfl⟩ := hd
  exact ⟨_, e, x, hx, rfl⟩
theorem one_change (n : Nat) : DeckM n 1 (call2 F__law_one (pW (.c n)) (lstM [(pV (.str "add")), (pV (.str "drop")), (pV (.str "set")), (pV (.str "move"))])) fun w => ∃ d, w = .v d ∧ ∃ x : Str, d = .str x ∧ (x = "add" ∨ x = "drop" ∨ x = "set" ∨ x = "move") := by
  rw [show [(pV (.str "add")), (pV (.str "drop")), (pV (.str "set")), (pV (.str "move"))] = ([.str "add", .str "drop", .str "set", .str "move"] : List D).map pV from rfl, lst_lit _ (by simp)]
  refine DeckM.mono (k := 1) (f_one n _ (by simp) (by simp)) (by omega) fun w ⟨d, e, hd⟩ => ?_
  simp only [List.mem_cons, List.not_mem_nil, or_false] at hd
  rcases hd with rfl | rfl | rfl | rfl
  · exact ⟨_, e, _, rfl, .inl rfl⟩
  · exact ⟨_, e, _, rfl, .inr (.inl rfl)⟩
  · exact ⟨_, e, _, rfl, .inr (.inr (.inl rfl))⟩
  · exact ⟨_, e, _, rfl, .inr (.inr (.inr rfl))⟩
theorem one_walk (n : Nat) {rows : List Row} (hz : ∃ r ∈ rows, r.lg = true) (h5 : rows.length ≤ 5000) : DeckM n 1 (call2 F__law_one (pW (.c n)) (pW (.v (.lst ((rows.filter Row.lg).map fun r => D.str r.nm))))) fun w => ∃ d, w = .v d ∧ ∃ r ∈ rows, r.lg = true ∧ d = .str r.nm := by
  obtain ⟨z, hz, hlz⟩ := hz
  have hpos : 0 < (rows.filter Row.lg).length := List.length_pos_of_mem (List.mem_filter.mpr ⟨hz, hlz⟩)
  refine DeckM.mono (k := 1) (f_one n _ (by rw [List.length_map]; exact hpos) (by rw [List.length_map]; exact Nat.le_trans (List.length_filter_le _ _) h5)) (by omega) fun w ⟨d, e, hd⟩ => ?_
  rw [List.mem_map] at hd
  obtain ⟨r, h, rfl⟩ := hd
  have := List.mem_filter.mp h
  exact ⟨_, e, r, this.1, this.2, rfl⟩
theorem tm2 {k : Nat} {a b : D} (h1 : tq k a) (h2 : tq k b) : tq (k + 1) (.tup [a, b]) := tmN.of_tup (by simp) fun d hd => by
  simp only [List.mem_cons, List.not_mem_nil, or_false] at hd
  rcases hd with rfl | rfl
  · exact h1
  · exact h2
theorem tm3 {k : Nat} {a b c : D} (h1 : tq k a) (h2 : tq k b) (h3 : tq k c) : tq (k + 1) (.tup [a, b, c]) := tmN.of_tup (by simp) fun d hd => by
  simp only [List.mem_cons, List.not_mem_nil, or_false] at hd
  rcases hd with rfl | rfl | rfl
  · exact h1
  · exact h2
  · exact h3
theorem lt_test (i k : Int) : cmpT .lt (pW (.v (.int i))) (pV (.int k)) = pB (decide (i < k)) := by simp
theorem mkL_true {ds : List D} {c : Cells} {Q : W → Cells → Prop} (h : ds.length ≤ 5000) (q : Q (.c c.length) (c ++ [some ds])) : wp (mkLM true ds) c Q := by
  unfold wp
  have e : mkLM true ds c = .ok (.c c.length) (c ++ [some ds]) := by
    show (if ds.length ≤ sizeLine then (if true = true then Res.ok (W.c c.length) (c ++ [some ds]) else _) else _) = _
    rw [if_pos (sz h), if_pos rfl]
  rw [e]
  exact q
/-- a made body: what is known of the call -/
def BodyP (H : Head) (m : Nat) : Prop := ∀ (n l deep : Nat) (L : Int) (c : Cells) (ds : List D) (B : Int), n ≠ l → c[n]? = some (some ds) → c[l]? = some (some [.int L]) → Dk B ds → deep + 1 ≤ m → deep ≤ 3 → B + PD deep ≤ mostB →
  wp (F__law_body m (.c n) (.v (headD H.tb H.rows)) (.v (.int deep)) (.c l)) c fun w c' => ∃ items ds' L', w = .v (.tup items) ∧ c' = two c n l ds' L' ∧ Dk (B + PD deep) ds' ∧ L' < L ∧ GB H deep (pos L - pos L') items ∧ (0 < L → items ≠ [])
theorem bind_nil_eq : ∀ n : Nat, PD n ≥ 700
  | 0 => by decide
  | k + 1 => by show 700 + 15 * PD k ≥ 700; omega
theorem f_law_body {H : Head} (hH : GH H) : ∀ m, BodyP H m := by
  intro m
  induction m with
  | zero => intro n l deep L c ds B _ _ _ _ hm; omega
  | succ m ih =>
    intro n l deep L c ds B hnl hcn hcl hd hm hdeep hB
    have hn := (List.getElem?_eq_some_iff.mp hcn).1
    have hl := (List.getElem?_eq_some_iff.mp hcl).1
    have hr := hH.ok
    have hz : 1 ≤ H.rows.length := List.length_pos_of_mem hH.zz
    have hrl := hH.rl
    have hl1 := hH.l1
    have hl3 := hH.l3
    rw [F__law_body]
    refine wp_cut (wp_bind (wp_eq (cel_lit [] (by simp)) (wp_newC ?_)))
    have hw := walks_eq (tb := stl H.tb) (rows := H.rows) (by omega)
    unfold headD
    rw [hw, pV_bind]
    have hc0 : c = two c n l ds L := (two_self hcn hcl).symm
    rw [show c ++ [some ([] : List D)] = two c n l ds L ++ some [] :: [] by rw [← hc0]]
    generalize hW : ((H.rows.filter Row.lg).map fun r => D.str r.nm) = walks
    -- how much a turn may draw
    have hP := bind_nil_eq deep
    have hturn : ∃ T : Int, (T : Int) ≥ 130 ∧ 1 + 5 * T ≤ PD deep ∧ (1 ≤ deep → 3 * (PD (deep - 1) : Int) + 130 ≤ T) := by
      cases deep with
      | zero => exact ⟨130, by omega, by decide, fun h => by omega⟩
      | succ k => exact ⟨3 * PD k + 130, by omega, by show 1 + 5 * (3 * (PD k : Int) + 130) ≤ ((700 + 15 * PD k : Nat) : Int); omega, fun _ => by simp⟩
    obtain ⟨T, hT0, hT1, hT2⟩ := hturn
    have hB' : B + PD deep ≤ 100000000000 := hB
    refine wp_forE (wp_deck (rng_pick n 1 5 (by omega) (by omega) (by omega) (by omega)) (two_n hn hl hnl _ _ _) hd (by show B + ((1 : Nat) : Int) ≤ 100000000000; omega) fun xs ds1 ⟨cnt, e, hcnt⟩ hd1 => ?_)
    subst e
    rw [two_sn hn hnl]
    have hxl : (rngD 0 (Int.toNat 1 + cnt)).length = 1 + cnt := by
      unfold rngD
      rw [List.length_map, List.length_range]
      rfl
    -- the end
    have fin : ∀ (cs : Cells) (i : Nat), i ≤ 5 → (∃ dsx items M X, cs = two c n l dsx M ++ some items :: X ∧ Dk (B + 1 + T * i) dsx ∧ M < L ∧ GB H deep (pos L - pos M) items ∧ (0 < L → items ≠ [])) → wp (bltM .tuple [pW (.c c.length)]) cs fun w c' => ∃ d, w = .v d ∧ ∃ items ds' L', W.v d = .v (.tup items) ∧ c'.take c.length = two c n l ds' L' ∧ Dk (B + PD deep) ds' ∧ L' < L ∧ GB H deep (pos L - pos L') items ∧ (0 < L → items ≠ []) := by
      intro cs i hi ⟨dsx, items, M, X, e, h1, h2, h3, h4⟩
      subst e
      refine wp_at (at_bltC (two_own _ _ _ _) (tuple_lst items)) ⟨_, rfl, items, dsx, M, rfl, two_take _ _ _, h1.mono ?_, h2, h3, h4⟩
      have : T * i ≤ T * 5 := Int.mul_le_mul_of_nonneg_left (by omega) (by omega)
      omega
    refine wp_forM (I := fun i _ cs => ∃ dsx items M X, cs = two c n l dsx M ++ some items :: X ∧ Dk (B + 1 + T * i) dsx ∧ M ≤ L ∧ (i = 0 → M = L) ∧ (1 ≤ i → M < L) ∧ GB H deep (pos L - pos M) items ∧ items.length = i)
      (R := fun w cs => ∃ items, w = .v (.tup items) ∧ ∃ dsx M X, cs = two c n l dsx M ++ X ∧ Dk (B + PD deep) dsx ∧ M < L ∧ GB H deep (pos L - pos M) items ∧ (0 < L → items ≠ [])) rfl
      ⟨ds1, [], L, [], rfl, hd1.mono (by omega), by omega, fun _ => rfl, fun h => by omega, ⟨⟨(0, 0), rfl, by dsimp only; omega⟩, by simp, by simp⟩, rfl⟩ ?_ ?_ ?_
    · intro i _ cs _ hi ⟨dsx, items, M, X, e, hdx, hML, hM0, hM1, hG, hlen⟩ _
      subst e
      rw [hxl] at hi
      have hTi : T * i ≤ T * 4 := Int.mul_le_mul_of_nonneg_left (by omega) (by omega)
      have hTi1 : T * ((i + 1 : Nat) : Int) = T * i + T := by rw [Int.natCast_add, Int.mul_add]; simp
      have hlt : c.length < c.length + 1 := by omega
      -- what a new item does
      have push : ∀ (d : D) (p : Int × Int) (ds' : List D) (M' : Int) (X' : Cells), Dk (B + 1 + T * i + T) ds' → M' ≤ M - 1 → 1 ≤ M → Val (fI H) deep d p → p.2 ≤ pos M - pos M' → tq (3 + 2 * deep) d →
          ∃ dsx items' M2 X2, two c n l ds' M' ++ some (items ++ [d]) :: X' = two c n l dsx M2 ++ some items' :: X2 ∧ Dk (B + 1 + T * ((i + 1 : Nat) : Int)) dsx ∧ M2 ≤ L ∧ (i + 1 = 0 → M2 = L) ∧ (1 ≤ i + 1 → M2 < L) ∧ GB H deep (pos L - pos M2) items' ∧ items'.length = i + 1 := by
        intro d p ds' M' X' h1 h2 h3 h4 h5 h6
        refine ⟨ds', items ++ [d], M', X', rfl, h1.mono (by omega), by omega, fun h => by omega, fun _ => by omega, ?_, by rw [List.length_append]; simp [hlen]⟩
        obtain ⟨t, ht, hq⟩ := hG.cnt
        refine ⟨⟨addC2 t p, ht.app h4, ?_⟩, fun d' hd' => ?_, by rw [List.length_append]; simp [hlen]; omega⟩
        · unfold addC2; dsimp only; omega
        · rcases List.mem_append.mp hd' with h | h
          · exact hG.tms d' h
          · simp only [List.mem_cons, List.not_mem_nil, or_false] at h
            subst h
            exact h6
      refine wp_bind (wp_deck (pick2 n 20 (by omega) (by omega)) (two_n hn hl hnl _ _ _) hdx (by show B + 1 + T * i + ((1 : Nat) : Int) ≤ 100000000000; omega) fun w ds2 ⟨kind, e, hk⟩ hd2 => ?_)
      subst e
      rw [two_sn hn hnl]
      refine wp_bind (wp_at (at_bin (at_idxC (two_l hn hl _ _ _) (d := .int M) rfl) at_pV (sub_int M 1)) ?_)
      refine wp_bind (wp_pW (wp_bind (wp_pV (wp_setC (two_l hn hl _ _ _) (j := 0) rfl ?_))))
      rw [show (two c n l ds2 M ++ some items :: X).set l (some ([D.int M].set 0 (.int (M - 1)))) = two c n l ds2 (M - 1) ++ some items :: X from two_sl hl _ _ _ _]
      refine wp_ifM (wp_cmp (at_idxC (two_l hn hl _ _ _) (d := .int (M - 1)) rfl) at_pV (lt_int (M - 1) 0) ?_)
      by_cases hneg : M - 1 < 0
      · rw [decide_eq_true hneg, if_pos rfl]
        refine wp_bind (wp_at (at_bltC (two_own _ _ _ _) (tuple_lst items)) (wp_pure ⟨items, rfl, ds2, M - 1, some items :: X, rfl, hd2.mono (by omega), by omega, ?_, fun hL z => ?_⟩))
        · obtain ⟨t, h1, h2⟩ := hG.cnt
          exact ⟨⟨t, h1, by have := pos_le (L := M - 1) (M := M) (by omega); omega⟩, hG.tms, hG.few⟩
        · rw [z] at hlen
          have : i = 0 := by simpa using hlen.symm
          have := hM0 this
          omega
      have hM1' : 1 ≤ M := by omega
      have hpos1 : pos M - pos (M - 1) = 1 := by unfold pos; rw [if_pos (by omega), if_pos (by omega)]; omega
      rw [decide_eq_false hneg, if_neg (by simp), lt_test, lt_test, lt_test, lt_test, lt_test]
      have hT' : B + 1 + T * i + 1 + 129 ≤ 100000000000 := by omega
      refine wp_ifM (wp_pure ?_)
      by_cases k7 : (kind : Int) < 7
      · rw [decide_eq_true k7, if_pos rfl]
        refine wp_bind (wp_appC (wp_deck (f_law_view n hH) (two_n hn hl hnl _ _ _) hd2 (by show B + 1 + T * i + ((1 : Nat) : Int) + ((125 : Nat) : Int) ≤ 100000000000; omega) fun w ds3 ⟨d, e, hv⟩ hd3 => ?_))
        subst e
        rw [two_sn hn hnl]
        refine ⟨d, items, rfl, two_own _ _ _ _, by have := hG.few; omega, ?_⟩
        rw [two_sown]
        exact wp_pure (push d (1, 1) ds3 (M - 1) X (hd3.mono (by omega)) (by omega) hM1' (val_view hv) (by dsimp only; omega) (by obtain ⟨_, _, _, h⟩ := hv; exact h.mono (by omega)))
      rw [decide_eq_false k7, if_neg (by simp)]
      refine wp_ifM (wp_pure ?_)
      by_cases k11 : (kind : Int) < 11
      · rw [decide_eq_true k11, if_pos rfl]
        refine wp_bind (wp_appC (wp_tup (wp_vals_cons (wp_deck (one_change n) (two_n hn hl hnl _ _ _) hd2 (by show B + 1 + T * i + ((1 : Nat) : Int) + ((1 : Nat) : Int) ≤ 100000000000; omega) fun w ds3 ⟨d1, e, x, e1, hx⟩ hd3 => ?_))))
        subst e e1
        rw [two_sn hn hnl]
        refine ⟨_, rfl, wp_vals_cons (wp_deck (one_tab n hH) (two_n hn hl hnl _ _ _) hd3 (by show B + 1 + T * i + ((1 : Nat) : Int) + ((1 : Nat) : Int) + ((1 : Nat) : Int) ≤ 100000000000; omega) fun w ds4 ⟨d2, e, y, hy, e2⟩ hd4 => ?_)⟩
        subst e e2
        rw [two_sn hn hnl]
        refine ⟨_, rfl, wp_vals_nil ⟨by simp, _, items, rfl, two_own _ _ _ _, by have := hG.few; omega, ?_⟩⟩
        rw [two_sown]
        exact wp_pure (push _ (1, 1) ds4 (M - 1) X (hd4.mono (by omega)) (by omega) hM1' (val_change hx hy) (by dsimp only; omega) ((tm2 (k := 0) (tS_item (by rcases hx with h | h | h | h <;> simp [h])).str0 (tS_lab (lab_TB y (hH.tb y hy)) (List.mem_append_left _ (hH.tb y hy))).str0).mono (by omega)))
      rw [decide_eq_false k11, if_neg (by simp)]
      have hdp : cmpT .eq (pW (.v (.int (deep : Int)))) (pV (.int 0)) = pB (decide (deep = 0)) := by
        simp only [pW_v, cmpT_v, eq_int, ofO_sB]
        congr 1
        rw [Bool.eq_iff_iff]
        simp
      rw [hdp, orT_pB2]
      refine wp_ifM (wp_pure ?_)
      by_cases k14 : (kind : Int) < 14 ∨ deep = 0
      · rw [show (decide ((kind : Int) < 14) || decide (deep = 0)) = true by rcases k14 with h | h <;> simp [h], if_pos rfl]
        refine wp_bind (wp_appC (wp_tup (wp_vals_cons (wp_pV ⟨_, rfl, wp_vals_cons (wp_deck (one_name n hz (by omega)) (two_n hn hl hnl _ _ _) hd2 (by show B + 1 + T * i + ((1 : Nat) : Int) + ((1 : Nat) : Int) ≤ 100000000000; omega) fun w ds3 ⟨r, hrm, e⟩ hd3 => ?_)⟩))))
        subst e
        rw [two_sn hn hnl]
        refine ⟨_, rfl, wp_vals_nil ⟨by simp, _, items, rfl, two_own _ _ _ _, by have := hG.few; omega, ?_⟩⟩
        rw [two_sown]
        exact wp_pure (push _ (1, 1) ds3 (M - 1) X (hd3.mono (by omega)) (by omega) hM1' (val_tell hH hrm) (by dsimp only; omega) ((tm2 (k := 0) (tS_item (x := "tell") (by simp)).str0 (hr r hrm).nm.str0).mono (by omega)))
      rw [show (decide ((kind : Int) < 14) || decide (deep = 0)) = false by rw [not_or] at k14; simp [k14.1, k14.2], if_neg (by simp)]
      have hd1' : 1 ≤ deep := by omega
      have hT3 := hT2 hd1'
      have hPD := bind_nil_eq (deep - 1)
      have hdm : binM .sub (pW (.v (.int (deep : Int)))) (pV (.int 1)) = pV (.int ((deep - 1 : Nat) : Int)) := by
        rw [pW_v, binM_v, sub_int, _root_.Q.M.ofO_some, M_pure_pV, show (deep : Int) - 1 = ((deep - 1 : Nat) : Int) by omega]
      -- a body within
      have recB : ∀ (dsy : List D) (My Bx : Int) (X' : Cells), Dk Bx dsy → Bx + PD (deep - 1) ≤ 100000000000 → wp (call4 (F__law_body m) (pW (.c n)) (pW (.v (.tup [stl H.tb, rowsD H.rows]))) (binM .sub (pW (.v (.int (deep : Int)))) (pV (.int 1))) (pW (.c l))) (two c n l dsy My ++ X') fun w c' => ∃ b ds' L', w = .v b ∧ c' = two c n l ds' L' ++ X' ∧ Dk (Bx + PD (deep - 1)) ds' ∧ L' ≤ My ∧ ∃ p, Val (fB H) deep b p ∧ p.2 ≤ pos My - pos L' ∧ tq (3 + 2 * (deep - 1) + 1) b := by
        intro dsy My Bx X' h1 h2
        rw [hdm]
        refine wp_imp (ih n l (deep - 1) My (two c n l dsy My ++ X') dsy Bx hnl (two_n hn hl hnl _ _ _) (two_l hn hl _ _ _) h1 (by omega) (by omega) h2) fun w c' ⟨bs, ds', L', e1, e2, h3, h4, h5, _⟩ => ?_
        obtain ⟨p, hp1, hp2⟩ := h5.val
        rw [show deep - 1 + 1 = deep by omega] at hp1
        exact ⟨_, ds', L', e1, by rw [e2, two_two hn hl hnl], h3, by omega, p, hp1, hp2, h5.tm⟩
      refine wp_ifM (wp_pure ?_)
      by_cases k16 : (kind : Int) < 16
      · rw [decide_eq_true k16, if_pos rfl, ← hW]
        refine wp_bind (wp_appC (wp_tup (wp_vals_cons (wp_pV ⟨_, rfl, wp_vals_cons (wp_deck (one_walk n ⟨_, hH.zz, rfl⟩ (by omega)) (two_n hn hl hnl _ _ _) hd2 (by show B + 1 + T * i + ((1 : Nat) : Int) + ((1 : Nat) : Int) ≤ 100000000000; omega) fun w ds3 ⟨d1, e, r, hrm, hlg, e1⟩ hd3 => ?_)⟩))))
        subst e e1
        rw [two_sn hn hnl]
        refine ⟨_, rfl, wp_vals_cons (wp_imp (recB ds3 (M - 1) _ _ hd3 (by omega)) fun w c' ⟨b, ds4, L', e, ec, hd4, hL', p, hp, hpq, htb⟩ => ?_)⟩
        subst e ec
        refine ⟨_, rfl, wp_vals_nil ⟨by simp, _, items, rfl, two_own _ _ _ _, by have := hG.few; omega, ?_⟩⟩
        rw [two_sown]
        exact wp_pure (push _ (1 + p.1, 1 + p.2) ds4 L' X (hd4.mono (by omega)) hL' hM1' (val_walk hH hrm hlg hp) (by dsimp only; omega) ((tm3 (tS_item (x := "walk") (by simp)).str0 (hr r hrm).nm.str0 htb).mono (by omega)))
      rw [decide_eq_false k16, if_neg (by simp)]
      refine wp_ifM (wp_pure ?_)
      by_cases k18 : (kind : Int) < 18
      · rw [decide_eq_true k18, if_pos rfl]
        refine wp_bind (wp_appC (wp_tup (wp_vals_cons (wp_pV ⟨_, rfl, wp_vals_cons (wp_imp (recB ds2 (M - 1) _ _ hd2 (by omega)) fun w c' ⟨b, ds4, L', e, ec, hd4, hL', p, hp, hpq, htb⟩ => ?_)⟩))))
        subst e ec
        refine ⟨_, rfl, wp_vals_nil ⟨by simp, _, items, rfl, two_own _ _ _ _, by have := hG.few; omega, ?_⟩⟩
        rw [two_sown]
        exact wp_pure (push _ (p.1, 1 + p.2) ds4 L' X (hd4.mono (by omega)) hL' hM1' (val_loop hp) (by dsimp only; omega) ((tm2 (tS_item (x := "loop") (by simp)).str0 htb).mono (by omega)))
      rw [decide_eq_false k18, if_neg (by simp)]
      generalize hPg : (PD (deep - 1) : Int) = P at recB hT3 hPD
      have hP0 : 700 ≤ P := by omega
      refine wp_bind (wp_bind (wp_deck (rng_pick n 2 2 (by omega) (by omega) (by omega) (by omega)) (two_n hn hl hnl _ _ _) hd2 (by show B + 1 + T * i + ((1 : Nat) : Int) + ((1 : Nat) : Int) ≤ 100000000000; omega) fun xs ds3 ⟨cn, e, hcn⟩ hd3 => ?_))
      subst e
      rw [two_sn hn hnl]
      have hxl2 : (rngD 0 (Int.toNat 2 + cn)).length = 2 + cn := by
        unfold rngD
        rw [List.length_map, List.length_range]
        rfl
      refine wp_bind (wp_imp (wp_mapC (I := fun j acc cs => ∃ dsy My, cs = two c n l dsy My ++ some items :: X ∧ Dk (B + 1 + T * i + 2 + P * j) dsy ∧ My ≤ M - 1 ∧ (∃ t, CntL (fB H) deep acc t ∧ t.2 ≤ pos (M - 1) - pos My) ∧ acc.length = j ∧ ∀ b ∈ acc, tq (3 + 2 * (deep - 1) + 1) b) (rngD 0 (Int.toNat 2 + cn)).length (rngD 0 (Int.toNat 2 + cn)) 0 [] _ (by omega) ⟨ds3, M - 1, rfl, hd3.mono (by omega), by omega, ⟨(0, 0), rfl, by dsimp only; omega⟩, rfl, by simp⟩ ?_) ?_)
      · intro j acc cs d hj ⟨dsy, My, e, hdy, hMy, ⟨t, ht, htq⟩, hal, hta⟩ _
        subst e
        rw [hxl2] at hj
        have hPj : P * j ≤ P * 2 := Int.mul_le_mul_of_nonneg_left (by omega) (by omega)
        have hPj1 : P * ((j + 1 : Nat) : Int) = P * j + P := by rw [Int.natCast_add, Int.mul_add]; simp
        show wp (_root_.Q.M.bind (call4 (F__law_body m) (pW (.c n)) (pW (.v (.tup [stl H.tb, rowsD H.rows]))) (binM .sub (pW (.v (.int (deep : Int)))) (pV (.int 1))) (pW (.c l))) fun w => match w with
          | .v d => _root_.Q.M.pure [d]
          | .c _ => _root_.Q.M.bad) _ _
        refine wp_bind (wp_imp (recB dsy My _ (some items :: X) hdy (by omega)) fun w c' ⟨b, ds4, L', e, ec, hd4, hL', p, hp, hpq, htb⟩ => ?_)
        subst e ec
        refine wp_pure ⟨ds4, L', rfl, hd4.mono (by omega), by omega, ⟨_, ht.app hp, ?_⟩, by rw [List.length_append]; simp [hal], ?_⟩
        · unfold addC2; dsimp only; omega
        · intro b' hb'
          rcases List.mem_append.mp hb' with h | h
          · exact hta b' h
          · simp only [List.mem_cons, List.not_mem_nil, or_false] at h
            subst h
            exact htb
      · intro acc cs ⟨dsy, My, e, hdy, hMy, ⟨t, ht, htq⟩, hal, hta⟩
        subst e
        rw [List.nil_append, Nat.zero_add] at *
        rw [hxl2] at hal hdy
        have hPj : P * ((2 + cn : Nat) : Int) ≤ P * 3 := Int.mul_le_mul_of_nonneg_left (by omega) (by omega)
        refine mkL_true (by omega) ?_
        obtain ⟨b0, rest, rfl⟩ : ∃ b0 rest, acc = b0 :: rest := by
          cases acc with
          | nil => rw [List.length_nil] at hal; omega
          | cons a r => exact ⟨a, r, rfl⟩
        generalize hK : (two c n l dsy My ++ some items :: X).length = K
        have hKe : K = c.length + 1 + X.length := by rw [← hK, List.length_append, two_len, List.length_cons]; omega
        have hget : ∀ dsz Mz v, (two c n l dsz Mz ++ (some items :: X ++ [some v]))[K]? = some (some v) := fun dsz Mz v => by
          have := get_own (c := two c n l dsz Mz ++ some items :: X) (v := some v) (X := [])
          rw [show (two c n l dsz Mz ++ some items :: X).length = K by rw [List.length_append, two_len, List.length_cons]; omega, List.append_assoc] at this
          exact this
        have hset : ∀ dsz Mz v u, (two c n l dsz Mz ++ (some items :: X ++ [some v])).set K (some u) = two c n l dsz Mz ++ (some items :: X ++ [some u]) := fun dsz Mz v u => by
          have := set_own (c := two c n l dsz Mz ++ some items :: X) (v := some v) (u := some u) (X := [])
          rw [show (two c n l dsz Mz ++ some items :: X).length = K by rw [List.length_append, two_len, List.length_cons]; omega, List.append_assoc, List.append_assoc] at this
          exact this
        rw [List.append_assoc]
        refine wp_bind (wp_ifM (wp_deck (pick_eq n 2 0 (by omega) (by omega)) (two_n hn hl hnl _ _ _) hdy (by show B + 1 + T * i + 2 + P * ((2 + cn : Nat) : Int) + ((1 : Nat) : Int) ≤ 100000000000; omega) fun k ds5 _ hd5 => ?_))
        rw [two_sn hn hnl]
        -- the rest, whatever stands first
        have rest' : ∀ b' t', CntL (fB H) deep (b' :: rest) t' → t'.2 ≤ t.2 → tq (3 + 2 * (deep - 1) + 1) b' → wp (_root_.Q.M.bind (pW (.c K)) fun w2 => _root_.Q.M.bind (pV (.int 0)) fun w3 => setW w2 w3 (.v b') (_root_.Q.M.bind (appM (pW (.c c.length)) (bltM .tuple [binM .add (lstM [pV (.str "either")]) (pW (.c K))])) fun _ => pN ())) (two c n l ds5 My ++ (some items :: X ++ [some (b0 :: rest)])) (fun (r : St Unit) c' => match r with
            | .nxt s => ∃ dsx items M2 X, c' = two c n l dsx M2 ++ some items :: X ∧ Dk (B + 1 + T * ((i + 1 : Nat) : Int)) dsx ∧ M2 ≤ L ∧ (i + 1 = 0 → M2 = L) ∧ (1 ≤ i + 1 → M2 < L) ∧ GB H deep (pos L - pos M2) items ∧ items.length = i + 1
            | .ret w => ∃ items, w = .v (.tup items) ∧ ∃ dsx M X, c' = two c n l dsx M ++ X ∧ Dk (B + PD deep) dsx ∧ M < L ∧ GB H deep (pos L - pos M) items ∧ (0 < L → items ≠ [])) := by
          intro b' t' ht' htt htb'
          refine wp_bind (wp_pW (wp_bind (wp_pV (wp_setC (hget _ _ _) (j := 0) (by unfold L2.ixN; rw [if_pos (by omega), if_pos (by rw [List.length_cons]; omega)]; rfl) ?_))))
          rw [List.set_cons_zero, hset]
          have hrl2 : (b' :: rest).length = 2 + cn := by rw [List.length_cons] at hal ⊢; exact hal
          have hat : At (bltM .tuple [binM .add (lstM [pV (.str "either")]) (pW (.c K))]) (two c n l ds5 My ++ (some items :: X ++ [some (b' :: rest)])) (.tup (.str "either" :: b' :: rest)) := by
            refine at_blt1 (at_binC (x := .lst [.str "either"]) (by
              rw [show [pV (.str "either")] = ([.str "either"] : List D).map pV from rfl, lst_lit _ (by simp)]
              exact at_pV) (hget _ _ _) (add_lst (xs := [.str "either"]) (by rw [hrl2]; simp; omega))) (tuple_lst _)
          refine wp_bind (wp_appC (wp_at hat ⟨_, items, rfl, two_own _ _ _ _, by have := hG.few; omega, ?_⟩))
          rw [show (two c n l ds5 My ++ (some items :: X ++ [some (b' :: rest)])).set c.length (some (items ++ [D.tup (.str "either" :: b' :: rest)])) = two c n l ds5 My ++ some (items ++ [D.tup (.str "either" :: b' :: rest)]) :: (X ++ [some (b' :: rest)]) from two_sown _ _ _ _ _]
          refine wp_pure (push _ (t'.1, 1 + t'.2) ds5 My _ (hd5.mono (by show B + 1 + T * i + 2 + P * ((2 + cn : Nat) : Int) + ((1 : Nat) : Int) ≤ _; omega)) hMy hM1' (val_either (by omega) (by omega) ht') (by dsimp only; omega) ?_)
          refine (tmN.of_tup (N := 100) (k := 3 + 2 * (deep - 1) + 1) (by simp only [List.length_cons] at hrl2 ⊢; omega) fun d hd => ?_).mono (by omega)
          rcases List.mem_cons.mp hd with rfl | hd
          · exact (tS_item (x := "either") (by simp)).str0
          · rcases List.mem_cons.mp hd with rfl | hd
            · exact htb'
            · exact hta d (.tail _ hd)
        cases k with
        | true =>
          rw [if_pos rfl]
          exact wp_at (at_idxC (hget _ _ _) (d := b0) (idxL_0 _ _)) (wp_imp (rest' b0 t ht (Int.le_refl _) (hta b0 (.head _))) fun r c' h => by cases r <;> exact h)
        | false =>
          rw [if_neg (by simp), tupM_nil]
          obtain ⟨t', ht', htt⟩ := ht.head (val_none hd1')
          exact wp_pV (wp_imp (rest' (.tup []) t' ht' htt (tmN.of_tup (by simp) (by simp))) fun r c' h => by cases r <;> exact h)
    · intro _ cs ⟨dsx, items, M, X, e, h1, h2, h0, h3, h4, h5⟩
      rw [hxl] at h1 h3 h5
      exact fin cs (1 + cnt) (by omega) ⟨dsx, items, M, X, e, h1, h3 (by omega), h4, fun _ z => by rw [z] at h5; simp at h5; omega⟩
    · intro w cs ⟨items, e, dsx, M, X, e2, h1, h2, h3, h4⟩
      subst e e2
      exact wp_pW ⟨_, rfl, items, dsx, M, rfl, two_take _ _ _, h1, h2, h3, h4⟩
end Sh
end
section
set_option autoImplicit false
set_option maxRecDepth 100000
set_option maxHeartbeats 2000000
namespace Sh
open PySem Q
/-- a made program: its head and its items -/
structure GP (L : Int) (H : Head) (items : List D) : Prop where
  head : GH H
  cnt : ∃ t, CntL (fI H) 3 items t ∧ t.2 ≤ L
  tms : ∀ d ∈ items, tq 9 d
  few : items.length ≤ 7
def progD (H : Head) (items : List D) : D := .tup [stl H.tb, rowsD H.rows, .tup items]
theorem Val.mono {f : Nat → D → Option (Int × Int)} {deep deep' : Nat} {d : D} {p : Int × Int} (h : Val f deep d p) (k : deep ≤ deep') : Val f deep' d p := ⟨fun j hj => h.1 j (by omega), h.2⟩
theorem CntL.mono {f : Nat → D → Option (Int × Int)} {deep deep' : Nat} (k : deep ≤ deep') : ∀ {ds : List D} {t : Int × Int}, CntL f deep ds t → CntL f deep' ds t
  | [], _, h => h
  | _ :: _, _, ⟨p, t', h1, h2, e⟩ => ⟨p, t', h1.mono k, h2.mono k, e⟩
theorem CntL.append {f : Nat → D → Option (Int × Int)} {deep : Nat} : ∀ {xs ys : List D} {s t : Int × Int}, CntL f deep xs s → CntL f deep ys t → CntL f deep (xs ++ ys) (addC2 s t)
  | [], ys, s, t, h, g => by
    have h : s = (0, 0) := h
    rw [h, show addC2 (0, 0) t = t by unfold addC2; simp]
    exact g
  | a :: r, ys, s, t, ⟨p, t', h1, h2, e⟩, g => ⟨p, addC2 t' t, h1, h2.append g, by rw [e]; unfold addC2; simp [Int.add_assoc]⟩
theorem GP.body {L : Int} {H : Head} {items : List D} (h : GP L H items) : ∃ p, Val (fB H) 4 (.tup items) p ∧ p.2 ≤ L := by
  obtain ⟨t, h1, h2⟩ := h.cnt
  refine ⟨t, ⟨fun k hk => ?_, h1.bound⟩, h2⟩
  obtain ⟨j, rfl⟩ : ∃ j, k = j + 1 := ⟨k - 1, by omega⟩
  show sumS (itemS (bodyS H.tb H.rows j) H.tb H.rows) items (0, 0) = some t
  rw [h1.sum j (by omega) (0, 0)]
  unfold addC2
  simp
theorem GP.tmb {L : Int} {H : Head} {items : List D} (h : GP L H items) : tq 10 (.tup items) := tmN.of_tup (by have := h.few; omega) h.tms
theorem tq_stl {l : List Str} (h : ∀ x ∈ l, tS x) (hl : l.length ≤ 100) : tq 1 (stl l) := tmN.of_tup (by rw [List.length_map]; exact hl) fun d hd => by
  rw [List.mem_map] at hd
  obtain ⟨x, hx, rfl⟩ := hd
  exact (h x hx).str0
theorem Row.Ok.tq {r : Row} (h : r.Ok) : Sh.tq 2 r.d := tmN.of_tup (by simp) fun d hd => by
  simp only [List.mem_cons, List.not_mem_nil, or_false] at hd
  rcases hd with rfl | rfl | rfl | rfl
  · exact h.nm.str0
  · exact h.kd.str0
  · exact tq_stl h.nms (by have := h.few; omega)
  · exact tm_bl _ _
theorem GH.tmt {H : Head} (h : GH H) : tq 1 (stl H.tb) := tq_stl (fun x hx => tS_lab (lab_TB x (h.tb x hx)) (List.mem_append_left _ (h.tb x hx))) (by have := h.l3; omega)
theorem GH.tmr {H : Head} (h : GH H) : tq 3 (rowsD H.rows) := tmN.of_tup (by rw [List.length_map]; have := h.rl; omega) fun d hd => by
  rw [List.mem_map] at hd
  obtain ⟨r, hr, rfl⟩ := hd
  exact (h.ok r hr).tq
theorem GP.tm {L : Int} {H : Head} {items : List D} (h : GP L H items) : tq 11 (progD H items) := tmN.of_tup (by simp) fun d hd => by
  simp only [List.mem_cons, List.not_mem_nil, or_false] at hd
  rcases hd with rfl | rfl | rfl
  · exact h.head.tmt.mono (by omega)
  · exact h.head.tmr.mono (by omega)
  · exact h.tmb
theorem GP.prog {L : Int} {H : Head} {items : List D} (h : GP L H items) (hL : L ≤ 40) : isProg (progD H items) = true := by
  obtain ⟨p, hp, hq⟩ := h.body
  unfold progD isProg
  dsimp only
  rw [h.head.head, namesOf_stl, rowsOf_rowsD, show bodyS H.tb H.rows 8 (.tup items) = some p from hp.1 8 (by omega)]
  have := hp.2
  simp only [Bool.true_and, Bool.and_eq_true, decide_eq_true_eq]
  omega
theorem PD3 : PD 3 = 2531200 := by decide
theorem PD_le : ∀ d, d ≤ 3 → PD d ≤ 2531200 := by decide
theorem f_law_program (n : Nat) (L : Int) (h0 : 0 < L) (h1 : L ≤ 40) : DeckM n 7600000 (F__law_program (.c n) (.v (.int L))) fun w => ∃ H items, w = .v (progD H items) ∧ GP L H items ∧ items ≠ [] := by
  intro c ds B hc hd hB
  have hn := (List.getElem?_eq_some_iff.mp hc).1
  have hB' : B + 7600000 ≤ 100000000000 := hB
  unfold F__law_program
  refine wp_cut (wp_bind (wp_deck (f_law_head n) hc hd (by show B + ((20 : Nat) : Int) ≤ 100000000000; omega) fun w ds1 ⟨H, e, hH⟩ hd1 => ?_))
  subst e
  have hlen : ∀ v : List D, (c.set n (some v)).length = c.length := fun v => by simp
  refine wp_bind (wp_eq (show celM [pW (.v (.int L))] = newC [.int L] from cel_lit [.int L] (by simp)) (wp_newC ?_))
  rw [hlen]
  have ne : n ≠ c.length := by omega
  have hC : ∀ (v : List D) (x : Int), c.set n (some v) ++ [some [D.int x]] = two (c ++ [some [.int L]]) n c.length v x := fun v x => by
    unfold two
    rw [set_app hn]
    have := set_own (c := c.set n (some v)) (v := some [D.int L]) (u := some [D.int x]) (X := [])
    rw [hlen] at this
    exact this.symm
  have hn1 : n < (c ++ [some [D.int L]]).length := by rw [List.length_append]; simp; omega
  have hl1 : c.length < (c ++ [some [D.int L]]).length := by rw [List.length_append]; simp
  rw [hC]
  generalize hcc : c ++ [some [D.int L]] = cc at hn1 hl1
  have two0 : ∀ v x, two cc n c.length v x = two cc n c.length v x ++ [] := fun v x => by rw [List.append_nil]
  rw [tupM_nil, pV_bind]
  refine wp_whlM (I := fun k s cs => ∃ items dsx M, s = .v (.tup items) ∧ cs = two cc n c.length dsx M ∧ Dk (B + 20 + 2531201 * (3 - k)) dsx ∧ k ≤ 3 ∧ 3 ≤ items.length + k ∧ items.length ≤ 7 ∧ M ≤ L ∧ (∃ t, CntL (fI H) 3 items t ∧ t.2 ≤ pos L - pos M) ∧ (∀ d ∈ items, tq 9 d) ∧ (k < 3 → items ≠ []) ∧ (k = 3 → M = L))
    (J := fun s cs => ∃ items dsx M, s = .v (.tup items) ∧ cs = two cc n c.length dsx M ∧ Dk (B + 7600000) dsx ∧ items.length ≤ 7 ∧ (∃ t, CntL (fI H) 3 items t ∧ t.2 ≤ L) ∧ (∀ d ∈ items, tq 9 d) ∧ items ≠ []) (R := fun _ _ => False) 3 (by omega)
    ⟨[], ds1, L, rfl, rfl, hd1.mono (by omega), by omega, by simp, by simp, by omega, ⟨(0, 0), rfl, by dsimp only; omega⟩, by simp, fun h => by omega, fun _ => rfl⟩ ?_ ?_ (fun _ _ h => h.elim)
  · intro k s cs ⟨items, dsx, M, e, ec, hdx, hk3, hk, hlen7, hML, ⟨t, ht, htq⟩, htm, hne, hM3⟩
    subst e ec
    have hposM : 0 ≤ pos M := by unfold pos; split <;> omega
    have hposL : pos L = L := by unfold pos; rw [if_pos (by omega)]
    have fin : items ≠ [] → ∃ items' dsx' M', W.v (D.tup items) = .v (.tup items') ∧ two cc n c.length dsx M = two cc n c.length dsx' M' ∧ Dk (B + 7600000) dsx' ∧ items'.length ≤ 7 ∧ (∃ t, CntL (fI H) 3 items' t ∧ t.2 ≤ L) ∧ (∀ d ∈ items', tq 9 d) ∧ items' ≠ [] := fun h1 =>
      ⟨items, dsx, M, rfl, rfl, hdx.mono (by omega), hlen7, ⟨t, ht, by omega⟩, htm, h1⟩
    refine wp_andT (wp_cmp (at_blt1 at_pW (len_tup items)) at_pV (lt_int (items.length : Int) 3) ?_)
    by_cases h3 : (items.length : Int) < 3
    · rw [decide_eq_true h3, if_pos rfl]
      rw [two0]
      refine wp_cmp (at_idxC (two_l hn1 hl1 _ _ _) (d := .int M) rfl) at_pV (gt_int M 0) ?_
      by_cases hM : 0 < M
      · rw [decide_eq_true hM, if_pos rfl]
        obtain ⟨j, rfl⟩ : ∃ j, k = j + 1 := ⟨k - 1, by omega⟩
        refine ⟨j, rfl, ?_⟩
        have e4 : binM .add (pW (.v (.tup items))) (call4 (F__law_body 40) (pW (.c n)) (pW (.v (headD H.tb H.rows))) (call2 F__law_pick (pW (.c n)) (pV (.int 4))) (pW (.c c.length))) = _root_.Q.M.bind (call2 F__law_pick (pW (.c n)) (pV (.int 4))) fun z => _root_.Q.M.bind (F__law_body 40 (.c n) (.v (headD H.tb H.rows)) z (.c c.length)) fun y => _root_.Q.M.bind (rdM y) fun y => _root_.Q.M.bind (_root_.Q.M.ofO (opD .add (.tup items) y)) fun d => pV d := by
          simp only [binM, call4, pW_v, pW_bind, pV_bind, ofO_sB, _root_.Q.M.bind_assoc, rdM_v, _root_.Q.M.pure_bind]
        rw [e4]
        refine wp_bind (wp_bind (wp_deck (pick2 n 4 (by omega) (by omega)) (two_n hn1 hl1 ne _ _ _) hdx (by show B + 20 + 2531201 * (3 - ((j + 1 : Nat) : Int)) + ((1 : Nat) : Int) ≤ 100000000000; omega) fun w ds2 ⟨deep, e, hdeep⟩ hd2 => ?_))
        subst e
        rw [two_sn hn1 ne]
        have hPd := PD_le deep (by omega)
        refine wp_bind (wp_imp (f_law_body hH 40 n c.length deep M _ ds2 _ ne (two_n hn1 hl1 ne _ _ _) (two_l hn1 hl1 _ _ _) hd2 (by omega) (by omega) (by show B + 20 + 2531201 * (3 - ((j + 1 : Nat) : Int)) + ((1 : Nat) : Int) + _ ≤ 100000000000; omega)) fun w c' ⟨items2, ds3, M', e, ec, hd3, hM', hG, hne2⟩ => ?_)
        subst e ec
        rw [rdM_v, _root_.Q.M.pure_bind, add_tup (by have := hG.few; omega), _root_.Q.M.ofO_some, _root_.Q.M.pure_bind]
        refine wp_bind (wp_pV ?_)
        refine wp_pure ⟨items ++ items2, ds3, M', rfl, ?_, hd3.mono (by omega), by omega, ?_, ?_, by omega, ?_, ?_, ?_, fun h => by omega⟩
        · rw [two_two hn1 hl1 ne, List.append_nil]
        · rw [List.length_append]
          have : 1 ≤ items2.length := List.length_pos_iff.mpr (hne2 hM)
          omega
        · rw [List.length_append]
          have := hG.few
          omega
        · obtain ⟨t2, ht2, hq2⟩ := hG.cnt
          exact ⟨_, ht.append (ht2.mono (by omega)), by unfold addC2; dsimp only; omega⟩
        · intro d hd
          rcases List.mem_append.mp hd with h | h
          · exact htm d h
          · exact (hG.tms d h).mono (by omega)
        · intro _ z
          have := hne2 hM
          rw [List.append_eq_nil_iff] at z
          exact this z.2
      · rw [decide_eq_false hM, if_neg (by simp), List.append_nil]
        exact fin (hne (by by_cases h : k = 3; have := hM3 h; omega; omega))
    · rw [decide_eq_false h3, if_neg (by simp)]
      rw [if_neg (by simp)]
      exact fin (fun z => by rw [z] at h3; simp at h3)
  · intro s cs ⟨items, dsx, M, e, ec, hdx, hl7, hcnt, htm, hne⟩
    subst e ec
    have e5 : binM .add (pW (.v (headD H.tb H.rows))) (tupM [pW (.v (.tup items))]) = pV (progD H items) := by
      simp only [pW_v, tupM1, headD, binM_v, add_tup (show [stl H.tb, rowsD H.rows].length + [D.tup items].length ≤ 20000 by simp), _root_.Q.M.ofO_some, M_pure_pV]
      rfl
    rw [e5]
    refine wp_pV ⟨_, rfl, ⟨H, items, rfl, ⟨hH, hcnt, htm, hl7⟩, hne⟩, dsx, hdx, ?_⟩
    rw [← hcc, ← hC]
    rw [List.take_append_of_le_length (by rw [hlen]; exact Nat.le_refl _)]
    exact List.take_of_length_le (by rw [hlen]; exact Nat.le_refl _)
end Sh
end
section
set_option autoImplicit false
set_option maxRecDepth 100000
set_option maxHeartbeats 2000000
namespace Sh
open PySem Q
/-! steps -/
def ownS (w : Str) (r : List D) : List D := if w = "walk" then [.tup ((D.str w :: r).take 2)] else if w = "either" ∨ w = "loop" then [] else [.tup (.str w :: r)]
def stepsI (rec : D → List D) : D → List D
  | .tup (.str w :: r) => ownS w r ++ (innerS w r).flatMap rec
  | _ => []
def stepsB : Nat → D → List D
  | k + 1, .tup items => items.flatMap (stepsI (stepsB k))
  | _, _ => []
theorem sum_len {f : D → Option (Int × Int)} {g : D → List D} : ∀ {ds : List D} {t p : Int × Int}, (∀ d q, d ∈ ds → f d = some q → ((g d).length : Int) = q.1) → sumS f ds t = some p → t.1 + ((ds.flatMap g).length : Int) = p.1 ∧ ∀ d ∈ ds, ∃ q, f d = some q
  | [], t, p, _, h => by cases h; exact ⟨by simp, by simp⟩
  | d :: r, t, p, hg, h => by
    unfold sumS at h
    cases e : f d with
    | none => rw [e] at h; cases h
    | some q =>
      rw [e] at h
      obtain ⟨h1, h2⟩ := sum_len (fun d q hd => hg d q (.tail _ hd)) h
      have := hg d q (.head _) e
      refine ⟨?_, fun d' hd => ?_⟩
      · rw [List.flatMap_cons, List.length_append]
        unfold addC2 at h1
        dsimp only at h1
        omega
      · rcases List.mem_cons.mp hd with rfl | hd
        · exact ⟨q, e⟩
        · exact h2 d' hd
/-- a valid item: its form, its parts, its length -/
theorem item_inv {rec : D → Option (Int × Int)} {g : D → List D} {tb : List Str} {rows : List Row} {d : D} {p : Int × Int} (hg : ∀ b q, rec b = some q → ((g b).length : Int) = q.1) (h : itemS rec tb rows d = some p) :
    ∃ w r, d = .tup (.str w :: r) ∧ ((stepsI g d).length : Int) = p.1 ∧ (∀ b ∈ innerS w r, ∃ q, rec b = some q) ∧ ((innerS w r).flatMap g).length + (ownS w r).length = (stepsI g d).length := by
  unfold itemS at h
  split at h
  · rename_i w r
    refine ⟨w, r, rfl, ?_⟩
    have e0 : ((innerS w r).flatMap g).length + (ownS w r).length = (stepsI g (.tup (.str w :: r))).length := by
      show _ = (ownS w r ++ (innerS w r).flatMap g).length
      rw [List.length_append]; omega
    have e1 : (stepsI g (.tup (.str w :: r))).length = (ownS w r).length + ((innerS w r).flatMap g).length := by omega
    by_cases q1 : w = "either"
    · rw [if_pos q1] at h
      subst q1
      split at h
      · obtain ⟨h1, h2⟩ := sum_len (g := g) (fun d q _ e => hg d q e) h
        have hi : innerS (Str.ofString "either") r = r := by simp [innerS]
        refine ⟨?_, by rw [hi]; exact h2, e0⟩
        rw [e1, hi]
        simp [ownS, -List.length_flatMap]
        dsimp only at h1
        omega
      · cases h
    · rw [if_neg q1] at h
      by_cases q2 : w = "loop"
      · rw [if_pos q2] at h
        subst q2
        split at h
        · obtain ⟨h1, h2⟩ := sum_len (g := g) (fun d q _ e => hg d q e) h
          have hi : innerS (Str.ofString "loop") r = r := by simp [innerS]
          refine ⟨?_, by rw [hi]; exact h2, e0⟩
          rw [e1, hi]
          simp [ownS, -List.length_flatMap]
          dsimp only at h1
          omega
        · cases h
      · rw [if_neg q2] at h
        by_cases q3 : w = "walk"
        · rw [if_pos q3] at h
          subst q3
          split at h
          · rename_i x b
            split at h
            · split at h
              · obtain ⟨h1, h2⟩ := sum_len (g := g) (fun d q _ e => hg d q e) h
                have hi : innerS (Str.ofString "walk") [x, b] = [b] := by simp [innerS]
                refine ⟨?_, by rw [hi]; exact h2, e0⟩
                rw [e1, hi]
                simp only [ownS, if_pos, List.length_singleton]
                dsimp only at h1
                omega
              · cases h
            · cases h
          · cases h
        · rw [if_neg q3] at h
          split at h
          · cases h
            have hi : innerS w r = [] := by simp [innerS, q1, q2, q3]
            refine ⟨?_, by rw [hi]; simp, e0⟩
            rw [e1, hi]
            simp [ownS, q1, q2, q3]
          · cases h
  · cases h
theorem body_len {tb : List Str} {rows : List Row} : ∀ (k : Nat) (b : D) (p : Int × Int), bodyS tb rows k b = some p → ((stepsB k b).length : Int) = p.1
  | 0, _, _, h => by cases h
  | k + 1, b, p, h => by
    cases b with
    | tup items =>
      obtain ⟨h1, _⟩ := sum_len (g := stepsI (stepsB k)) (fun d q _ e => by
        obtain ⟨_, _, _, h, _⟩ := item_inv (body_len k) e
        exact h) (show sumS (itemS (bodyS tb rows k) tb rows) items (0, 0) = some p from h)
      show ((items.flatMap (stepsI (stepsB k))).length : Int) = p.1
      dsimp only at h1
      omega
    | _ => cases h
/-- a loop that adds to a list -/
theorem loop_acc {f : W → D → M (St W)} {g : D → List D} {N : Nat} : ∀ (xs acc : List D), (∀ acc d, d ∈ xs → acc.length + (g d).length ≤ N → f (.v (.lst acc)) d = M.pure (.nxt (.v (.lst (acc ++ g d))))) → acc.length + (xs.flatMap g).length ≤ N → loopL f xs (.v (.lst acc)) = M.pure (.nxt (.v (.lst (acc ++ xs.flatMap g))))
  | [], acc, _, _ => by rw [List.flatMap_nil, List.append_nil]; rfl
  | d :: r, acc, h, hN => by
    rw [List.flatMap_cons, List.length_append] at hN
    unfold loopL
    rw [h acc d (.head _) (by omega), M.pure_bind]
    dsimp only
    rw [loop_acc r (acc ++ g d) (fun acc d hd => h acc d (.tail _ hd)) (by rw [List.length_append]; omega), List.flatMap_cons, List.append_assoc]
theorem forM_acc {β : Type} {rt : W → M β} {it : M (List D)} {f : W → D → M (St W)} {k : W → M β} {g : D → List D} {N : Nat} {xs acc : List D} (hi : it = M.pure xs) (h : ∀ acc d, d ∈ xs → acc.length + (g d).length ≤ N → f (.v (.lst acc)) d = M.pure (.nxt (.v (.lst (acc ++ g d))))) (hN : acc.length + (xs.flatMap g).length ≤ N) :
    Q.forM rt it (.v (.lst acc)) f k = k (.v (.lst (acc ++ xs.flatMap g))) := by
  unfold Q.forM
  rw [hi, M.pure_bind, loop_acc xs acc h hN, M.pure_bind]
theorem f_steps_in {tb : List Str} {rows : List Row} : ∀ (k m : Nat) (b : D) (p : Int × Int) (j : Nat), bodyS tb rows k b = some p → tm j b → p.1 ≤ 10000 → k ≤ m → F_steps_in m (.v b) = pV (.lst (stepsB k b))
  | 0, _, _, _, _, h, _, _, _ => by cases h
  | k + 1, m, b, p, j, h, ht, hp, hm => by
    obtain ⟨m, rfl⟩ : ∃ n, m = n + 1 := ⟨m - 1, by omega⟩
    cases b with
    | tup items =>
      have hlen := body_len (k + 1) _ p h
      obtain ⟨_, hval⟩ := sum_len (g := stepsI (stepsB k)) (fun d q _ e => by
        obtain ⟨_, _, _, h, _⟩ := item_inv (body_len k) e
        exact h) (show sumS (itemS (bodyS tb rows k) tb rows) items (0, 0) = some p from h)
      rw [F_steps_in]
      rw [lstM_nil, pV_bind, forM_acc (xs := items) (g := stepsI (stepsB k)) (N := 10000) (by rfl) (fun acc d hd hN => ?_) (by
        show 0 + (stepsB (k + 1) (.tup items)).length ≤ 10000
        omega)]
      · rw [pW_v, cutM_v]
        rfl
      · obtain ⟨q, hq⟩ := hval d hd
        obtain ⟨w, r, rfl, h1, h2, h3⟩ := item_inv (body_len k) hq
        have htd := ht.tup _ hd
        have hw := (htd.tup _ (.head _)).shs
        have hown : (ownS w r).length ≤ 1 := by
          unfold ownS
          split
          · simp
          · split <;> simp
        have inner : ∀ acc2 : List D, acc2.length + ((innerS w r).flatMap (stepsB k)).length ≤ 10000 → Q.forM pR (walkM (call1 F_inner (pV (.tup (.str w :: r))))) (W.v (.lst acc2)) (fun (s3 : W) d2 => M.bind (binM .add (pW s3) (call1 (F_steps_in m) (pV d2))) fun v_found_4 => pN v_found_4) (fun s3 => pN s3) = pN (.v (.lst (acc2 ++ (innerS w r).flatMap (stepsB k)))) := by
          intro acc2 hN2
          rw [forM_acc (xs := innerS w r) (g := stepsB k) (N := 10000) (by simp [f_inner hw]) (fun acc3 b hb hN3 => ?_) hN2]
          obtain ⟨qb, hqb⟩ := h2 b hb
          have hbm : b ∈ r := by
            unfold innerS at hb
            split at hb
            · exact hb
            · split at hb
              · exact List.mem_of_mem_drop hb
              · cases hb
          have hlb := body_len k b qb hqb
          rw [pW_v, call1_v, f_steps_in k m b qb _ hqb (htd.tup b (.tail _ hbm)) (by omega) (by omega), binM_v, add_lst (by omega), M.ofO_some, M_pure_pV, pV_bind]
          rfl
        show _ = M.pure (St.nxt (W.v (.lst (acc ++ (ownS w r ++ (innerS w r).flatMap (stepsB k))))))
        rw [← List.append_assoc]
        have hN' : (acc ++ ownS w r).length + ((innerS w r).flatMap (stepsB k)).length ≤ 10000 := by rw [List.length_append]; omega
        have i0 : idxM (pV (.tup (.str w :: r))) (pV (.int 0)) = pV (.str w) := by simp
        rw [i0]
        have addl : ∀ x : D, binM .add (pW (.v (.lst acc))) (lstM [pV x]) = pV (.lst (acc ++ [x])) := fun x => by
          rw [show [pV x] = [x].map pV from rfl, lst_lit _ (by simp), pW_v, binM_v, add_lst (by simp; omega), M.ofO_some, M_pure_pV]
        by_cases q1 : w = "walk"
        · have ho : ownS w r = [.tup ((D.str w :: r).take 2)] := if_pos q1
          have es : slcM (pV (.tup (.str w :: r))) oN (oS (pV (.int 2))) = pV (.tup ((D.str w :: r).take 2)) := by simp
          rw [ho] at hN' ⊢
          rw [es, addl]
          subst q1
          simp only [cmpT_v, cmp_eq hw (shp_lit _), eqd_str_str, beq_self_eq_true, ofO_sB, ifM_t, pV_bind, joinM_nxt]
          exact inner _ hN'
        · by_cases q2 : w = "either" ∨ w = "loop"
          · have ho : ownS w r = [] := by unfold ownS; rw [if_neg q1, if_pos q2]
            rw [ho] at hN' ⊢
            rw [List.append_nil] at hN' ⊢
            have hq2 : (w == "either" || w == "loop") = true := by rcases q2 with rfl | rfl <;> simp
            simp only [cmpT_v, cmp_eq hw (shp_lit _), eqd_str_str, nb q1, ofO_sB, ifM_f, tupM2, nin2, hq2, Bool.not_true, joinM_nxt]
            exact inner _ hN'
          · have ho : ownS w r = [.tup (.str w :: r)] := by unfold ownS; rw [if_neg q1, if_neg q2]
            rw [ho] at hN' ⊢
            have hq2 : (w == "either" || w == "loop") = false := by rw [not_or] at q2; rw [nb q2.1, nb q2.2]; rfl
            rw [addl]
            simp only [cmpT_v, cmp_eq hw (shp_lit _), eqd_str_str, nb q1, ofO_sB, ifM_f, tupM2, nin2, hq2, Bool.not_false, ifM_t, pV_bind, joinM_nxt]
            exact inner _ hN'
    | _ => cases h
end Sh
end
section
set_option autoImplicit false
set_option maxRecDepth 100000
set_option maxHeartbeats 2000000
namespace Sh
open PySem Q
theorem wp_loopR {σ : Type} {f : σ → D → M (Q.St σ)} {I : List D → σ → Cells → Prop} {R : W → Cells → Prop} (h : ∀ d r s c, I (d :: r) s c → wp (f s d) c fun a c' => match a with
    | .nxt s => I r s c'
    | .ret w => R w c') : ∀ (xs : List D) (s : σ) (c : Cells), I xs s c → wp (loopL f xs s) c fun a c' => match a with
    | .nxt s => I [] s c'
    | .ret w => R w c'
  | [], s, c, hs => wp_pure hs
  | d :: r, s, c, hs => by
    refine wp_bind (wp_imp (h d r s c hs) fun a c' ha => ?_)
    cases a with
    | nxt s' => exact wp_loopR h r s' c' ha
    | ret w => exact wp_pure ha
theorem wp_forR {σ β : Type} {rt : W → M β} {it : M (List D)} {xs : List D} {s : σ} {f : σ → D → M (Q.St σ)} {g : σ → M β} {I : List D → σ → Cells → Prop} {R : W → Cells → Prop} {c : Cells} {Q : β → Cells → Prop} (hi : it = M.pure xs) (hs : I xs s c) (h : ∀ d r s c, I (d :: r) s c → wp (f s d) c fun a c' => match a with
    | .nxt s => I r s c'
    | .ret w => R w c') (hg : ∀ s c, I [] s c → wp (g s) c Q) (hr : ∀ w c, R w c → wp (rt w) c Q) : wp (_root_.Q.forM rt it s f g) c Q := by
  unfold _root_.Q.forM
  rw [hi, M.pure_bind]
  refine wp_bind (wp_imp (wp_loopR h xs s c hs) fun a c' ha => ?_)
  cases a with
  | nxt s => exact hg s c' ha
  | ret w => exact hr w c' ha
theorem wp_mapR {f : D → M (List D)} {I : List D → List D → Cells → Prop} (h : ∀ d r acc c, I (d :: r) acc c → wp (f d) c fun ys c' => I r (acc ++ ys) c') : ∀ (xs : List D) (acc : List D) (c : Cells), I xs acc c → wp (mapC f xs) c fun ys c' => I [] (acc ++ ys) c'
  | [], acc, c, hs => by
    show I [] (acc ++ []) c
    rw [List.append_nil]
    exact hs
  | d :: r, acc, c, hs => by
    obtain ⟨ys, c1, e1, h1⟩ := wp_ok (h d r acc c hs)
    obtain ⟨zs, c2, e2, h2⟩ := wp_ok (wp_mapR h r (acc ++ ys) c1 h1)
    have e : mapC f (d :: r) c = .ok (ys ++ zs) c2 := by
      show (noExc (f d c)).bind _ = _
      rw [e1]
      show (mapC f r c1).bind _ = _
      rw [e2]
      rfl
    unfold wp
    rw [e]
    show I [] (acc ++ (ys ++ zs)) c2
    rw [← List.append_assoc]
    exact h2
theorem mkL_false {ds : List D} (h : ds.length ≤ 5000) : mkLM false ds = pV (.lst ds) := by
  funext c
  exact if_pos (sz h)
theorem wp_join {σ β : Type} {rt : W → M β} {m : M (Q.St σ)} {k : σ → M β} {c : Cells} {Q : β → Cells → Prop} (h : wp m c fun r c' => match r with
    | .nxt s => wp (k s) c' Q
    | .ret w => wp (rt w) c' Q) : wp (joinM rt m k) c Q := wp_bind (wp_imp h fun r c' hr => by cases r <;> exact hr)
theorem wp_frz {c : Cells} {n : Nat} {ds : List D} {Q : W → Cells → Prop} (h : c[n]? = some (some ds)) (q : Q (.v (.lst ds)) (c.set n none)) : wp (frzM (pW (.c n))) c Q := by
  show wp (frzW (.c n)) c Q
  unfold wp frzW
  rw [cell_c h]
  exact q
theorem f_law_inner {w : Str} {r : List D} (hw : shp (.str w)) : F__law_inner (.v (.tup (.str w :: r))) = pV (.tup (innerS w r)) := by
  unfold F__law_inner
  by_cases q : w = "either" ∨ w = "loop"
  · have q' : (w == "either" || w == "loop") = true := by rcases q with rfl | rfl <;> simp
    have q3 : ¬ w = "walk" := by rcases q with rfl | rfl <;> simp
    simp [in2, q', innerS, q, cmp_eq, hw, nb q3]
  · have q' : (w == "either" || w == "loop") = false := by
      rw [not_or] at q
      rw [nb q.1, nb q.2]
      rfl
    by_cases z : w = "walk"
    · subst z
      simp [in2, innerS, cmp_eq]
    · simp [in2, q', innerS, q, z, nb z, cmp_eq, hw]
def All2 (R : D → D → Prop) : List D → List D → Prop
  | [], [] => True
  | a :: r, b :: s => R a b ∧ All2 R r s
  | _, _ => False
theorem All2.app {R : D → D → Prop} : ∀ {xs ys : List D} {a b : D}, All2 R xs ys → R a b → All2 R (xs ++ [a]) (ys ++ [b])
  | [], [], _, _, _, h => ⟨h, trivial⟩
  | [], _ :: _, _, _, h, _ => h.elim
  | _ :: _, [], _, _, h, _ => h.elim
  | _ :: _, _ :: _, _, _, h, g => ⟨h.1, h.2.app g⟩
theorem All2.len {R : D → D → Prop} : ∀ {xs ys : List D}, All2 R xs ys → xs.length = ys.length
  | [], [], _ => rfl
  | [], _ :: _, h => h.elim
  | _ :: _, [], h => h.elim
  | _ :: _, _ :: _, h => congrArg (· + 1) h.2.len
def RowOf (rec : D → D → Prop) (item row : D) : Prop := ∃ w r num ps, item = .tup (.str w :: r) ∧ row = .tup [.str w, num, item, .lst ps] ∧ All2 rec (innerS w r) ps
/-- the law's rows of a body -/
def RowsOf : Nat → D → D → Prop
  | k + 1, .tup items, .lst rs => All2 (RowOf (RowsOf k)) items rs
  | _, _, _ => False
theorem inner_sub {w : Str} {r : List D} {b : D} (hb : b ∈ innerS w r) : b ∈ r := by
  unfold innerS at hb
  split at hb
  · exact hb
  · split at hb
    · exact List.mem_of_mem_drop hb
    · cases hb
theorem inner_len (w : Str) (r : List D) : (innerS w r).length ≤ r.length := by
  unfold innerS
  split
  · exact Nat.le_refl _
  · split
    · rw [List.length_drop]; omega
    · simp
theorem valid_inner {tb : List Str} {rows : List Row} {k : Nat} {items : List D} {p : Int × Int} (h : bodyS tb rows (k + 1) (.tup items) = some p) : ∀ d ∈ items, ∃ w r, d = .tup (.str w :: r) ∧ (∀ b ∈ innerS w r, ∃ q, bodyS tb rows k b = some q) := by
  obtain ⟨_, hval⟩ := sum_len (g := stepsI (stepsB k)) (fun d q _ e => by
    obtain ⟨_, _, _, h, _⟩ := item_inv (body_len k) e
    exact h) (show sumS (itemS (bodyS tb rows k) tb rows) items (0, 0) = some p from h)
  intro d hd
  obtain ⟨q, hq⟩ := hval d hd
  obtain ⟨w, r, e, _, h2, _⟩ := item_inv (body_len k) hq
  exact ⟨w, r, e, h2⟩
def one1' (c : Cells) (a : Nat) (i : Int) : Cells := c.set a (some [.int i])
theorem f_law_rows {tb : List Str} {rows : List Row} : ∀ (k m : Nat) (b : D) (p : Int × Int) (j a : Nat) (i : Int) (c : Cells), bodyS tb rows k b = some p → tm j b → k ≤ m → c[a]? = some (some [.int i]) → wp (F__law_rows m (.v b) (.c a)) c fun w c' => ∃ rs i', w = .v rs ∧ RowsOf k b rs ∧ c' = c.set a (some [.int i'])
  | 0, _, _, _, _, _, _, _, h, _, _, _ => by cases h
  | k + 1, m, b, p, j, a, i, c, h, ht, hm, hc => by
    obtain ⟨m, rfl⟩ : ∃ n, m = n + 1 := ⟨m - 1, by omega⟩
    cases b with
    | tup items =>
      have hval := valid_inner h
      have ha := (List.getElem?_eq_some_iff.mp hc).1
      have hil := ht.len
      rw [F__law_rows]
      refine wp_cut (wp_bind (wp_eq (cel_lit [] (by simp)) (wp_newC ?_)))
      have hlen : ∀ v : List D, (c.set a (some v)).length = c.length := fun v => by simp
      have c0 : c ++ [some ([] : List D)] = c.set a (some [.int i]) ++ [some []] := by rw [set_self hc]
      rw [c0]
      have geta : ∀ (x : Int) (X : Cells), (c.set a (some [.int x]) ++ X)[a]? = some (some [.int x]) := fun x X => by rw [get_app (by rw [hlen]; exact ha), get_set hc]
      have seta : ∀ (x y : Int) (X : Cells), (c.set a (some [.int x]) ++ X).set a (some [.int y]) = c.set a (some [.int y]) ++ X := fun x y X => by rw [set_app (by rw [hlen]; exact ha), List.set_set]
      have geto : ∀ (x : Int) (v : List D) (X : Cells), (c.set a (some [.int x]) ++ some v :: X)[c.length]? = some (some v) := fun x v X => by
        have := get_own (c := c.set a (some [.int x])) (v := some v) (X := X)
        rwa [hlen] at this
      have seto : ∀ (x : Int) (v : List D) (u : Option (List D)) (X : Cells), (c.set a (some [.int x]) ++ some v :: X).set c.length u = c.set a (some [.int x]) ++ u :: X := fun x v u X => by
        have := set_own (c := c.set a (some [.int x])) (v := some v) (u := u) (X := X)
        rwa [hlen] at this
      refine wp_forR (xs := items) (I := fun rest _ cs => ∃ dn rs x, items = dn ++ rest ∧ cs = c.set a (some [.int x]) ++ [some rs] ∧ All2 (RowOf (RowsOf k)) dn rs) (R := fun _ _ => False) rfl ⟨[], [], i, rfl, rfl, trivial⟩ ?_ ?_ (fun _ _ h => h.elim)
      · intro d r _ cs ⟨dn, rs, x, e, ec, hall⟩
        subst ec
        have hd : d ∈ items := by rw [e]; simp
        obtain ⟨w, rr, e2, hin⟩ := hval d hd
        subst e2
        have htd := ht.tup _ hd
        have hw := (htd.tup _ (.head _)).shs
        have i0 : idxM (pV (.tup (.str w :: rr))) (pV (.int 0)) = pV (.str w) := by simp
        refine wp_bind (wp_at (at_idxC (geta _ _) (d := .int x) rfl) ?_)
        rw [i0]
        have rest : ∀ y : Int, wp (M.bind (appM (pW (.c c.length)) (tupM [pV (.str w), pW (.v (.int x)), pV (.tup (.str w :: rr)), lcM false (walkM (call1 F__law_inner (pV (.tup (.str w :: rr))))) (fun d2 => pB true) (fun d2 => call2 (F__law_rows m) (pV d2) (pW (.c a)))])) fun _ => (pN () : M (St Unit))) (c.set a (some [.int y]) ++ [some rs]) fun res c' => match res with
            | .nxt _ => ∃ dn' rs' x', items = dn' ++ r ∧ c' = c.set a (some [.int x']) ++ [some rs'] ∧ All2 (RowOf (RowsOf k)) dn' rs'
            | .ret _ => False := by
          intro y
          refine wp_bind (wp_appC (wp_tup ?_))
          simp only [pW_v, valsM_cons]
          refine wp_bind (wp_bind (wp_bind (wp_vals_cons ?_)))
          rw [show walkM (call1 F__law_inner (pV (.tup (.str w :: rr)))) = M.pure (innerS w rr) by simp [f_law_inner hw]]
          refine wp_bind (wp_pure (wp_bind (wp_imp (wp_mapR (I := fun rest acc cs => ∃ dn2 y', innerS w rr = dn2 ++ rest ∧ cs = c.set a (some [.int y']) ++ [some rs] ∧ All2 (RowsOf k) dn2 acc) ?_ (innerS w rr) [] _ ⟨[], y, rfl, rfl, trivial⟩) ?_)))
          · intro b r2 acc cs ⟨dn2, y', e3, ec, hall2⟩
            subst ec
            have hb : b ∈ innerS w rr := by rw [e3]; simp
            obtain ⟨q, hq⟩ := hin b hb
            have hbm := inner_sub hb
            show wp (M.bind (call2 (F__law_rows m) (pV b) (pW (.c a))) fun w => match w with
              | .v d => M.pure [d]
              | .c _ => M.bad) _ _
            refine wp_bind (wp_imp (f_law_rows k m b q _ a y' _ hq (htd.tup b (.tail _ hbm)) (by omega) (geta _ _)) fun w2 c' ⟨rs2, y2, ew, hrow, ec⟩ => ?_)
            subst ew ec
            rw [seta]
            exact wp_pure ⟨dn2 ++ [b], y2, by rw [e3]; simp, rfl, hall2.app hrow⟩
          · intro acc cs ⟨dn2, y', e3, ec, hall2⟩
            subst ec
            rw [List.nil_append] at *
            rw [List.append_nil] at e3
            have hl2 := hall2.len
            rw [← e3] at hl2
            have := inner_len w rr
            have := htd.len
            rw [List.length_cons] at this
            rw [mkL_false (by omega)]
            refine wp_pV ⟨_, rfl, wp_vals_nil (wp_pure (wp_pure (wp_pure ⟨by simp, _, rs, rfl, geto _ _ _, ?_, ?_⟩)))⟩
            · have := hall.len
              rw [← this]
              have e4 := congrArg List.length e
              rw [List.length_append] at e4
              omega
            · rw [seto]
              refine wp_pure ⟨dn ++ [.tup (.str w :: rr)], _, y', by rw [e]; simp, rfl, hall.app ⟨w, rr, _, acc, rfl, rfl, ?_⟩⟩
              rw [e3]
              exact hall2
        have hr : ∀ y : Int, wp (M.bind (appM (pW (.c c.length)) (tupM [pV (.str w), pW (.v (.int x)), pV (.tup (.str w :: rr)), lcM false (walkM (call1 F__law_inner (pV (.tup (.str w :: rr))))) (fun d2 => pB true) (fun d2 => call2 (F__law_rows m) (pV d2) (pW (.c a)))])) fun _ => (pN () : M (St Unit))) (c.set a (some [.int y]) ++ [some rs]) fun res c' => match res with
            | .nxt s => ∃ dn rs x, items = dn ++ r ∧ c' = c.set a (some [.int x]) ++ [some rs] ∧ All2 (RowOf (RowsOf k)) dn rs
            | .ret w => False := fun y => wp_imp (rest y) fun res c' h => by cases res <;> exact h
        by_cases q2 : w = "either" ∨ w = "loop"
        · have hq2 : (w == "either" || w == "loop") = true := by rcases q2 with rfl | rfl <;> simp
          simp only [tupM2, cmpT_v, nin2, hq2, Bool.not_true, ofO_sB, ifM_f, joinM_nxt]
          exact wp_imp (hr x) fun res c' h => by cases res <;> exact h
        · have hq2 : (w == "either" || w == "loop") = false := by rw [not_or] at q2; rw [nb q2.1, nb q2.2]; rfl
          simp only [tupM2, cmpT_v, nin2, hq2, Bool.not_false, ofO_sB, ifM_t]
          refine wp_join (wp_bind (wp_at (at_bin (at_idxC (geta _ _) (d := .int x) rfl) at_pV (add_int x 1)) ?_))
          refine wp_bind (wp_pW (wp_bind (wp_pV (wp_setC (geta _ _) (j := 0) rfl ?_))))
          rw [show (c.set a (some [.int x]) ++ [some rs]).set a (some ([D.int x].set 0 (.int (x + 1)))) = c.set a (some [.int (x + 1)]) ++ [some rs] from seta _ _ _]
          exact wp_pure (wp_imp (hr (x + 1)) fun res c' h => by cases res <;> exact h)
      · intro _ cs ⟨dn, rs, x, e, ec, hall⟩
        subst ec
        rw [List.append_nil] at e
        refine wp_frz (geto _ _ _) ⟨_, rfl, .lst rs, x, rfl, by rw [e]; exact hall, ?_⟩
        rw [seto, List.take_append_of_le_length (by rw [hlen]; exact Nat.le_refl _)]
        exact List.take_of_length_le (by rw [hlen]; exact Nat.le_refl _)
    | _ => cases h
theorem wp_cad {c : Cells} {n : Nat} {m : M W} {Q : W → Cells → Prop} (h : wp m c fun w c' => ∃ xs ys, w = .v (.lst ys) ∧ c'[n]? = some (some xs) ∧ xs.length + ys.length ≤ 20000 ∧ Q (.c c'.length) (c' ++ [some (xs ++ ys)])) : wp (cadM (pW (.c n)) m) c Q := by
  show wp (M.bind m _) c Q
  refine wp_bind (wp_imp h fun w c' ⟨xs, ys, e, h1, h2, q⟩ => ?_)
  subst e
  have e1 : rdM (.c n) c' = .ok (.lst xs) c' := by
    show rdR (.c n) c' = _
    unfold rdR
    rw [rd_c h1]
    rfl
  refine wp_bind (wp_imp (Q := fun a c2 => a = .lst xs ∧ c2 = c') (by unfold wp; rw [e1]; exact ⟨rfl, rfl⟩) fun a c2 ⟨e2, e3⟩ => ?_)
  subst e2 e3
  rw [rdM_v, M.pure_bind]
  have e4 : addC (.lst xs) (.lst ys) c2 = .ok (.c c2.length) (c2 ++ [some (xs ++ ys)]) := if_pos (Nat.le_trans h2 (by decide +kernel))
  unfold wp
  dsimp only
  rw [e4]
  exact q
theorem f_law_steps {tb : List Str} {rows : List Row} : ∀ (k m : Nat) (b rs : D) (p : Int × Int) (j : Nat) (c : Cells), bodyS tb rows k b = some p → tm j b → p.1 ≤ 5000 → k ≤ m → RowsOf k b rs → wp (F__law_steps m (.v rs)) c fun w c' => w = .v (.lst (stepsB k b)) ∧ c' = c
  | 0, _, _, _, _, _, _, h, _, _, _, _ => by cases h
  | k + 1, m, b, rs, p, j, c, h, ht, hp, hm, hrow => by
    obtain ⟨m, rfl⟩ : ∃ n, m = n + 1 := ⟨m - 1, by omega⟩
    cases b with
    | tup items => cases rs with
      | lst rs =>
        have hall : All2 (RowOf (RowsOf k)) items rs := hrow
        have hval := valid_inner h
        have hlen := body_len (k + 1) _ p h
        rw [F__law_steps]
        refine wp_cut (wp_bind (wp_eq (cel_lit [] (by simp)) (wp_newC ?_)))
        -- what is still to be done
        refine wp_forR (xs := rs) (I := fun rest s cs => ∃ n X found irest, s = .c n ∧ cs = c ++ X ∧ c.length ≤ n ∧ (c ++ X)[n]? = some (some found) ∧ All2 (RowOf (RowsOf k)) irest rest ∧ (∀ d ∈ irest, d ∈ items) ∧ found ++ irest.flatMap (stepsI (stepsB k)) = stepsB (k + 1) (.tup items)) (R := fun _ _ => False) (by rfl) ⟨c.length, [some []], [], items, rfl, rfl, Nat.le_refl _, get_own, hall, fun d h => h, rfl⟩ ?_ ?_ (fun _ _ h => h.elim)
        · intro row rest s cs ⟨n, X, found, irest, es, ec, hn, hget, ha, hsub, hfin⟩
          subst es ec
          match irest, ha with
          | item :: irest, ⟨⟨w, r, num, ps, e1, e2, hps⟩, ha2⟩ =>
            subst e1 e2
            have hd := hsub _ (.head _)
            obtain ⟨w', r', e3, hin⟩ := hval _ hd
            injection e3 with e3
            injection e3 with e4 e5
            injection e4 with e4
            subst e4 e5
            have htd := ht.tup _ hd
            have hw := (htd.tup _ (.head _)).shs
            show wp (joinM pR _ _) _ _
            -- the parts
            have parts : ∀ (n2 : Nat) (X2 found2 : List _), c.length ≤ n2 → (c ++ X2)[n2]? = some (some found2) → found2 ++ ((innerS w r).flatMap (stepsB k) ++ irest.flatMap (stepsI (stepsB k))) = stepsB (k + 1) (.tup items) → wp (Q.forM pR (walkM (pV (.lst ps))) (W.c n2) (fun (s3 : W) d5 => M.bind (cadM (pW s3) (call1 (F__law_steps m) (pV d5))) fun v_found_2 => pN v_found_2) (fun s3 => (pN s3 : M (St W)))) (c ++ X2) fun a c' => match a with
                | .nxt s => ∃ n X found irest, s = .c n ∧ c' = c ++ X ∧ c.length ≤ n ∧ (c ++ X)[n]? = some (some found) ∧ All2 (RowOf (RowsOf k)) irest rest ∧ (∀ d ∈ irest, d ∈ items) ∧ found ++ irest.flatMap (stepsI (stepsB k)) = stepsB (k + 1) (.tup items)
                | .ret _ => False := by
              intro n2 X2 found2 hn2 hget2 hfin2
              refine wp_forR (xs := ps) (I := fun prest s cs => ∃ n X found brest, s = .c n ∧ cs = c ++ X ∧ c.length ≤ n ∧ (c ++ X)[n]? = some (some found) ∧ All2 (RowsOf k) brest prest ∧ (∀ b ∈ brest, b ∈ innerS w r) ∧ found ++ (brest.flatMap (stepsB k) ++ irest.flatMap (stepsI (stepsB k))) = stepsB (k + 1) (.tup items)) (R := fun _ _ => False) (by rfl) ⟨n2, X2, found2, innerS w r, rfl, rfl, hn2, hget2, hps, fun b h => h, hfin2⟩ ?_ ?_ (fun _ _ h => h.elim)
              · intro pr prest s cs ⟨n3, X3, found3, brest, es, ec, hn3, hget3, hb3, hsub3, hfin3⟩
                subst es ec
                match brest, hb3 with
                | b :: brest, ⟨hrb, hb3⟩ =>
                  have hbi := hsub3 b (.head _)
                  obtain ⟨q, hq⟩ := hin b hbi
                  have hlb := body_len k b q hq
                  have hl3 := congrArg List.length hfin3
                  rw [List.flatMap_cons] at hfin3 hl3
                  simp only [List.length_append] at hl3
                  refine wp_bind (wp_cad (wp_imp (f_law_steps k m b pr q _ _ hq (htd.tup b (.tail _ (inner_sub hbi))) (by omega) (by omega) hrb) fun w2 c' ⟨ew, ec⟩ => ?_))
                  subst ew ec
                  refine ⟨found3, stepsB k b, rfl, hget3, by omega, ?_⟩
                  refine wp_pure ⟨(c ++ X3).length, X3 ++ [some (found3 ++ stepsB k b)], found3 ++ stepsB k b, brest, rfl, by rw [List.append_assoc], by rw [List.length_append]; omega, ?_, hb3, fun b h => hsub3 b (.tail _ h), ?_⟩
                  · rw [← List.append_assoc]; exact get_own
                  · rw [List.append_assoc, ← List.append_assoc (stepsB k b)]
                    exact hfin3
              · intro s cs ⟨n3, X3, found3, brest, es, ec, hn3, hget3, hb3, _, hfin3⟩
                subst es ec
                match brest, hb3 with
                | [], _ => exact wp_pure ⟨n3, X3, found3, irest, rfl, rfl, hn3, hget3, ha2, fun d h => hsub d (.tail _ h), hfin3⟩
            have hfin' : found ++ (ownS w r ++ ((innerS w r).flatMap (stepsB k) ++ irest.flatMap (stepsI (stepsB k)))) = stepsB (k + 1) (.tup items) := by
              rw [List.flatMap_cons] at hfin
              rw [← hfin, ← List.append_assoc (ownS w r)]
              rfl
            have hl := congrArg List.length hfin'
            simp only [List.length_append] at hl
            have app : ∀ d : D, ownS w r = [d] → wp (M.bind (appM (pW (.c n)) (pV d)) fun _ => (pN () : M (St Unit))) (c ++ X) fun res c' => match res with
                | .nxt _ => ∃ X2, c' = c ++ X2 ∧ (c ++ X2)[n]? = some (some (found ++ [d]))
                | .ret _ => False := fun d ho => by
              refine wp_bind (wp_appC (wp_pV ⟨d, found, rfl, hget, by omega, ?_⟩))
              have hnl := (List.getElem?_eq_some_iff.mp hget).1
              refine wp_pure ⟨X.set (n - c.length) (some (found ++ [d])), ?_, ?_⟩
              · rw [List.set_append_right _ _ hn]
              · rw [← List.set_append_right _ _ hn, List.getElem?_set_self hnl]
            by_cases q1 : w = "walk"
            · have ho : ownS w r = [.tup ((D.str w :: r).take 2)] := if_pos q1
              have es : slcM (pV (.tup (.str w :: r))) oN (oS (pV (.int 2))) = pV (.tup ((D.str w :: r).take 2)) := by simp
              rw [es]
              have hq2 : (w == "either" || w == "loop") = false := by rw [q1]; simp
              have hq3 : (w == Str.ofString "walk") = true := by rw [q1]; simp
              simp only [tupM2, cmpT_v, nin2, hq2, Bool.not_false, ofO_sB, ifM_t, cmp_eq hw (shp_lit _), eqd_str_str, hq3]
              refine wp_join (wp_imp (app _ ho) fun res c' hres => ?_)
              cases res with
              | ret w => exact hres.elim
              | nxt u =>
                obtain ⟨X2, ec, hg⟩ := hres
                subst ec
                exact wp_imp (parts n X2 _ hn hg (by rw [ho] at hfin'; rw [List.append_assoc]; exact hfin')) fun a c' h => by cases a <;> exact h
            · by_cases q2 : w = "either" ∨ w = "loop"
              · have ho : ownS w r = [] := by unfold ownS; rw [if_neg q1, if_pos q2]
                have hq2 : (w == "either" || w == "loop") = true := by rcases q2 with rfl | rfl <;> simp
                simp only [tupM2, cmpT_v, nin2, hq2, Bool.not_true, ofO_sB, ifM_f, joinM_nxt]
                exact wp_imp (parts n X _ hn hget (by rw [ho] at hfin'; exact hfin')) fun a c' h => by cases a <;> exact h
              · have ho : ownS w r = [.tup (.str w :: r)] := by unfold ownS; rw [if_neg q1, if_neg q2]
                have hq2 : (w == "either" || w == "loop") = false := by rw [not_or] at q2; rw [nb q2.1, nb q2.2]; rfl
                simp only [tupM2, cmpT_v, nin2, hq2, Bool.not_false, ofO_sB, ifM_t, cmp_eq hw (shp_lit _), eqd_str_str, nb q1, ifM_f]
                refine wp_join (wp_imp (app _ ho) fun res c' hres => ?_)
                cases res with
                | ret w => exact hres.elim
                | nxt u =>
                  obtain ⟨X2, ec, hg⟩ := hres
                  subst ec
                  exact wp_imp (parts n X2 _ hn hg (by rw [ho] at hfin'; rw [List.append_assoc]; exact hfin')) fun a c' h => by cases a <;> exact h
        · intro s cs ⟨n, X, found, irest, es, ec, hn, hget, ha, _, hfin⟩
          subst es ec
          match irest, ha with
          | [], _ =>
            rw [List.flatMap_nil, List.append_nil] at hfin
            refine wp_frz hget ⟨_, rfl, by rw [hfin], ?_⟩
            rw [List.set_append_right _ _ hn]
            simp
      | _ => cases hrow
    | _ => cases h
end Sh
end
section
set_option autoImplicit false
set_option maxRecDepth 100000
set_option maxHeartbeats 2000000
namespace Sh
open PySem Q
def odds : List D := [.non, .bl true, .bl false, .int 0, .int 1, .int 9, .int 10, .int (-1), .int (10 ^ 30), .str "", .str "t", .str "a", .str "k", .str "v", .str "zz", .str "A", .str "abcdefgh", .str "abcdefghi"]
  ++ [.str "rows", .str "keys", .str "values", .str "live", .str "once", .str "table", .str "of", .str "view", .str "tell", .str "walk", .str "loop", .tup [], .lst []]
  ++ [.tup [.str "keys"], .tup [.str "back"], .tup [.str "first", .int 1], .tup [.str "in", .str "zz"], .tup [.str "tell", .str "zz"], .tup [.str "t"]]
  ++ [.tup [.str "loop", .tup []]]
theorem odds_tm : ∀ d ∈ odds, tmN 3 2 d := by
  have h : odds.all (fun d => okN 3 d && decide (dep d ≤ 2)) = true := by decide +kernel
  intro d hd
  have := List.all_eq_true.mp h d hd
  rw [Bool.and_eq_true, decide_eq_true_eq] at this
  exact ⟨this.1, this.2⟩
theorem odds_len : odds.length = 38 := by decide +kernel
theorem f_law_odd (n : Nat) : DeckM n 1 (F__law_odd (.c n)) fun w => ∃ d, w = .v d ∧ d ∈ odds := by
  unfold F__law_odd
  refine DeckM.cut (P := fun w => ∃ d, w = .v d ∧ d ∈ odds) ?_ fun w ⟨d, e, _⟩ => ⟨d, e⟩
  have e1 : lstM [(pV .non), (pV (.bl true)), (pV (.bl false)), (pV (.int 0)), (pV (.int 1)), (pV (.int 9)), (pV (.int 10)), (negM (pV (.int 1))), (binM .pow (pV (.int 10)) (pV (.int 30))), (pV (.str "")), (pV (.str "t")), (pV (.str "a")), (pV (.str "k")), (pV (.str "v")), (pV (.str "zz")), (pV (.str "A")), (pV (.str "abcdefgh")), (pV (.str "abcdefghi"))] = pV (.lst [.non, .bl true, .bl false, .int 0, .int 1, .int 9, .int 10, .int (-1), .int (10 ^ 30), .str "", .str "t", .str "a", .str "k", .str "v", .str "zz", .str "A", .str "abcdefgh", .str "abcdefghi"]) := by
    have ep : binM .pow (pV (.int 10)) (pV (.int 30)) = pV (.int (10 ^ 30)) := by
      rw [binM_v, pow_int (by omega) (by omega) (by decide), M.ofO_some, M_pure_pV]
      rfl
    rw [negM_v, ep]
    exact lst_lit [.non, .bl true, .bl false, .int 0, .int 1, .int 9, .int 10, .int (-1), .int (10 ^ 30), .str "", .str "t", .str "a", .str "k", .str "v", .str "zz", .str "A", .str "abcdefgh", .str "abcdefghi"] (by simp)
  have e2 : lstM [(pV (.str "rows")), (pV (.str "keys")), (pV (.str "values")), (pV (.str "live")), (pV (.str "once")), (pV (.str "table")), (pV (.str "of")), (pV (.str "view")), (pV (.str "tell")), (pV (.str "walk")), (pV (.str "loop")), (tupM []), (lstM [])] = pV (.lst [.str "rows", .str "keys", .str "values", .str "live", .str "once", .str "table", .str "of", .str "view", .str "tell", .str "walk", .str "loop", .tup [], .lst []]) := by
    rw [tupM_nil, lstM_nil]
    exact lst_lit [.str "rows", .str "keys", .str "values", .str "live", .str "once", .str "table", .str "of", .str "view", .str "tell", .str "walk", .str "loop", .tup [], .lst []] (by simp)
  have e3 : lstM [(tupM [(pV (.str "keys"))]), (tupM [(pV (.str "back"))]), (tupM [(pV (.str "first")), (pV (.int 1))]), (tupM [(pV (.str "in")), (pV (.str "zz"))]), (tupM [(pV (.str "tell")), (pV (.str "zz"))]), (tupM [(pV (.str "t"))])] = pV (.lst [.tup [.str "keys"], .tup [.str "back"], .tup [.str "first", .int 1], .tup [.str "in", .str "zz"], .tup [.str "tell", .str "zz"], .tup [.str "t"]]) := by
    rw [tupM1, tupM1, tupM2, tupM2, tupM2, tupM1]
    exact lst_lit [.tup [.str "keys"], .tup [.str "back"], .tup [.str "first", .int 1], .tup [.str "in", .str "zz"], .tup [.str "tell", .str "zz"], .tup [.str "t"]] (by simp)
  have e4 : lstM [(tupM [(pV (.str "loop")), (tupM [])])] = pV (.lst [.tup [.str "loop", .tup []]]) := by
    rw [tupM_nil, tupM2]
    exact lst_lit [.tup [.str "loop", .tup []]] (by simp)
  rw [e1, e2, e3, e4]
  simp only [pV_bind, pW_v, binM_v]
  rw [add_lst (by simp), M.ofO_some, M_pure_pV, pV_bind, pW_v, binM_v, add_lst (by simp), M.ofO_some, M_pure_pV, pV_bind, pW_v, binM_v, add_lst (by simp), M.ofO_some, M_pure_pV]
  exact f_one n odds (by rw [odds_len]; omega) (by rw [odds_len]; omega)
end Sh
end
section
set_option autoImplicit false
set_option maxRecDepth 100000
set_option maxHeartbeats 2000000
namespace Sh
open PySem Q
theorem tk_eq (ds : List D) (j : Nat) : slcM (pV (.tup ds)) oN (oS (pV (.int (j : Int)))) = pV (.tup (ds.take j)) := by
  rw [oN_eq, oS_v, slcM_v, slcT_to, M.ofO_some, M_pure_pV]
theorem dr_eq (ds : List D) (j : Nat) : slcM (pV (.tup ds)) (oS (pV (.int (j : Int)))) oN = pV (.tup (ds.drop j)) := by
  rw [oN_eq, oS_v, slcM_v, slcT_from, M.ofO_some, M_pure_pV]
theorem at1_eq (j : Nat) : binM .add (pV (.int (j : Int))) (pV (.int 1)) = pV (.int ((j + 1 : Nat) : Int)) := by
  rw [binM_v, add_int, M.ofO_some, M_pure_pV]
  rfl
theorem addt_eq {xs ys : List D} (h : xs.length + ys.length ≤ 20000) : binM .add (pV (.tup xs)) (pV (.tup ys)) = pV (.tup (xs ++ ys)) := by
  rw [binM_v, add_tup h, M.ofO_some, M_pure_pV]
theorem DeckM.ifM {α : Type} {n k l : Nat} {t : M Bool} {a b : M α} {P : Bool → Prop} {R : α → Prop} (h : DeckM n k t P) (h1 : P true → DeckM n l a R) (h2 : P false → DeckM n l b R) : DeckM n (k + l) (Q.ifM t a b) R := DeckM.bind h fun z hz => by
  cases z with
  | true => exact DeckM.eq (if_pos rfl) (h1 hz)
  | false => exact DeckM.eq (if_neg (by simp)) (h2 hz)
/-- + with a drawn part behind -/
theorem add_deck {n k : Nat} {xs : List D} {m : M W} {R : List D → Prop} (h : DeckM n k m fun w => ∃ ys, w = .v (.tup ys) ∧ R ys) (hl : ∀ ys, R ys → xs.length + ys.length ≤ 20000) : DeckM n k (binM .add (pV (.tup xs)) m) fun w => ∃ ys, w = .v (.tup (xs ++ ys)) ∧ R ys := by
  have e : binM .add (pV (.tup xs)) m = M.bind m fun y => M.bind (rdM y) fun y => M.bind (M.ofO (opD .add (.tup xs) y)) fun d => pV d := by simp [binM]
  rw [e]
  refine DeckM.mono (k := k + 0) (DeckM.bind h fun w ⟨ys, e, hr⟩ => ?_) (by omega) fun _ h => h
  subst e
  rw [rdM_v, M.pure_bind, add_tup (hl ys hr), M.ofO_some, M.pure_bind]
  exact DeckM.pV ⟨ys, rfl, hr⟩
theorem add_deck2 {n k : Nat} {ys : List D} {m : M W} {R : List D → Prop} (h : DeckM n k m fun w => ∃ xs, w = .v (.tup xs) ∧ R xs) (hl : ∀ xs, R xs → xs.length + ys.length ≤ 20000) : DeckM n k (binM .add m (pV (.tup ys))) fun w => ∃ xs, w = .v (.tup (xs ++ ys)) ∧ R xs := by
  have e : binM .add m (pV (.tup ys)) = M.bind m fun x => M.bind (rdM x) fun x => M.bind (M.ofO (opD .add x (.tup ys))) fun d => pV d := by simp [binM]
  rw [e]
  refine DeckM.mono (k := k + 0) (DeckM.bind h fun w ⟨xs, e, hr⟩ => ?_) (by omega) fun _ h => h
  subst e
  rw [rdM_v, M.pure_bind, add_tup (hl xs hr), M.ofO_some, M.pure_bind]
  exact DeckM.pV ⟨xs, rfl, hr⟩
theorem tup1_deck {n k : Nat} {m : M W} {P : D → Prop} (h : DeckM n k m fun w => ∃ d, w = .v d ∧ P d) : DeckM n k (tupM [m]) fun w => ∃ ys, w = .v (.tup ys) ∧ ∃ d, ys = [d] ∧ P d :=
  DeckM.tup (DeckM.mono (k := k + 0) (DeckM.vals_cons h fun d hd => DeckM.vals_nil ⟨by simp, _, rfl, d, rfl, hd⟩) (by omega) fun _ h => h)
theorem f_law_bent (n : Nat) : ∀ (m N k : Nat) (v : D), tmN N k v → 3 ≤ N → N ≤ 4000 → k + 1 ≤ m → k ≤ 50 → DeckM n (4 * m) (F__law_bent m (.c n) (.v v)) fun w => ∃ d, w = .v d ∧ tmN (N + 1) (k + 3) d
  | 0, _, _, _, _, _, _, h, _ => by omega
  | m + 1, N, k, v, hv, h3, hN, hm, hk => by
    rw [F__law_bent]
    refine DeckM.cut (P := fun w => ∃ d, w = .v d ∧ tmN (N + 1) (k + 3) d) ?_ fun w ⟨d, e, _⟩ => ⟨d, e⟩
    refine DeckM.mono (k := 1 + (3 + 4 * m)) (DeckM.ifM (P := fun b => b = false → ∃ ds, v = .tup ds ∧ ds ≠ []) ?_ (fun _ => ?_) fun hb => ?_) (by omega) fun _ h => h
    · -- the test
      cases v with
      | dct ks ds => exact hv.nod.elim
      | tup ds =>
        have hs := hv.shp (by omega)
        simp only [pW_v, isT_v, ty_tuple_tup, ofO_sB, notT_pB, Bool.not_true, orT_f, tupM_nil, cmpT_v, eq_nilT hs]
        cases ds with
        | nil =>
          simp only [List.isEmpty_nil, orT_t]
          exact DeckM.mono (k := 0) (DeckM.pure (P := fun b => b = false → ∃ ds, D.tup [] = .tup ds ∧ ds ≠ []) (by simp)) (by omega) fun _ h => h
        | cons a r =>
          simp only [List.isEmpty_cons, orT_f]
          exact DeckM.mono (k := 1) (pick_eq n 6 0 (by omega) (by omega)) (by omega) fun _ _ _ => ⟨a :: r, rfl, by simp⟩
      | _ =>
        simp only [pW_v, isT_v, ty_tuple_non, ty_tuple_bl, ty_tuple_int, ty_tuple_str, ty_tuple_lst, ofO_sB, notT_pB, Bool.not_false, orT_t]
        exact DeckM.mono (k := 0) (DeckM.pure (P := fun b => b = false → _) (by simp)) (by omega) fun _ h => h
    · -- another value
      refine DeckM.mono (k := 1 + 1) (DeckM.ifM (P := fun b => b = true → (∃ i, v = .int i) ∨ ∃ b, v = .bl b) ?_ (fun hb => ?_) fun _ => ?_) (by omega) fun _ h => h
      · cases v with
        | dct ks ds => exact hv.nod.elim
        | int i =>
          simp only [pW_v, isT_v, ty_int_int, ofO_sB, andT_t]
          exact DeckM.mono (k := 1) (pick_eq n 2 0 (by omega) (by omega)) (by omega) fun _ _ _ => .inl ⟨i, rfl⟩
        | bl b =>
          simp only [pW_v, isT_v, ty_int_bl, ofO_sB, andT_t]
          exact DeckM.mono (k := 1) (pick_eq n 2 0 (by omega) (by omega)) (by omega) fun _ _ _ => .inr ⟨b, rfl⟩
        | _ =>
          simp only [pW_v, isT_v, ty_int_non, ty_int_tup, ty_int_str, ty_int_lst, ofO_sB, andT_f]
          exact DeckM.mono (k := 0) (DeckM.pure (P := fun b => b = true → _) (by simp)) (by omega) fun _ h => h
      · have e : binM .add (pW (.v v)) (call2 F__law_one (pW (.c n)) (lstM [(pV (.int 1)), (negM (pV (.int 1))), (pV (.int 9))])) = M.bind (F__law_one (.c n) (.v (.lst [.int 1, .int (-1), .int 9]))) fun y => M.bind (rdM y) fun y => M.bind (M.ofO (opD .add v y)) fun d => pV d := by
          rw [negM_v, show [pV (.int 1), pV (.int (-1)), pV (.int 9)] = ([.int 1, .int (-1), .int 9] : List D).map pV from rfl, lst_lit _ (by simp)]
          simp [binM, call2]
        rw [e]
        refine DeckM.mono (k := 1 + 0) (DeckM.bind (f_one n _ (by simp) (by simp)) fun w ⟨d, e, hd⟩ => ?_) (by omega) fun _ h => h
        subst e
        obtain ⟨j, rfl⟩ : ∃ j, d = .int j := by
          simp only [List.mem_cons, List.not_mem_nil, or_false] at hd
          rcases hd with rfl | rfl | rfl <;> exact ⟨_, rfl⟩
        rw [rdM_v, M.pure_bind]
        rcases hb rfl with ⟨i, rfl⟩ | ⟨b, rfl⟩
        · rw [add_int, M.ofO_some, M.pure_bind]
          exact DeckM.pV ⟨_, rfl, tm_int _ _⟩
        · rw [show opD .add (.bl b) (.int j) = some (.int ((if b then 1 else 0) + j)) from rfl, M.ofO_some, M.pure_bind]
          exact DeckM.pV ⟨_, rfl, tm_int _ _⟩
      · refine DeckM.mono (k := 1) (f_law_odd n) (by omega) fun w ⟨d, e, hd⟩ => ⟨d, e, ((odds_tm d hd).up (by omega)).mono (by omega)⟩
    · -- a tuple
      obtain ⟨ds, rfl, hne⟩ := hb rfl
      have hpos : 0 < ds.length := List.length_pos_iff.mpr hne
      have hlen := hv.len
      have hk1 : 1 ≤ k := by have := hv.de; unfold dep at this; omega
      have own : ∀ d ∈ ds, tmN (N + 1) (k + 2) d := fun d hd => ((hv.tup d hd).up (by omega)).mono (by omega)
      have mk : ∀ es : List D, es.length ≤ N + 1 → (∀ e ∈ es, tmN (N + 1) (k + 2) e) → tmN (N + 1) (k + 3) (.tup es) := fun es h1 h2 => tmN.of_tup h1 h2
      have e1 : call2 F__law_pick (pW (.c n)) (bltM .len [pW (.v (.tup ds))]) = call2 F__law_pick (pW (.c n)) (pV (.int (ds.length : Int))) := by simp
      rw [e1]
      refine DeckM.mono (k := 1 + (1 + (1 + 4 * m))) (DeckM.bind (pick2 n _ (by omega) (by omega)) fun w ⟨i, e, hi⟩ => ?_) (by omega) fun _ h => h
      subst e
      refine DeckM.bind (pick2 n 10 (by omega) (by omega)) fun w ⟨way, e, hway⟩ => ?_
      subst e
      simp only [pW_v, at1_eq, tk_eq, dr_eq]
      have hi' : i < ds.length := by omega
      have tks : ∀ j, ∀ e ∈ ds.take j, tmN (N + 1) (k + 2) e := fun j e he => own e (List.mem_of_mem_take he)
      have drs : ∀ j, ∀ e ∈ ds.drop j, tmN (N + 1) (k + 2) e := fun j e he => own e (List.mem_of_mem_drop he)
      have two : ∀ xs ys : List D, (∀ e ∈ xs, tmN (N + 1) (k + 2) e) → (∀ e ∈ ys, tmN (N + 1) (k + 2) e) → xs.length + ys.length ≤ N + 1 → DeckM n (1 + 4 * m) (binM .add (pV (.tup xs)) (pV (.tup ys))) fun w => ∃ d, w = .v d ∧ tmN (N + 1) (k + 3) d := fun xs ys h1 h2 h3 => by
        rw [addt_eq (by omega)]
        exact DeckM.mono (k := 0) (DeckM.pV ⟨_, rfl, mk _ (by rw [List.length_append]; exact h3) fun e he => (List.mem_append.mp he).elim (h1 e) (h2 e)⟩) (by omega) fun _ h => h
      have tst : ∀ j : Int, cmpT .eq (pV (.int (way : Int))) (pV (.int j)) = pB ((way : Int) == j) := fun j => by rw [cmpT_v, eq_int, ofO_sB]
      rw [tst, tst, tst, tst, tst]
      have ifw : ∀ (j : Int) (a b : M W) (R : W → Prop), DeckM n (1 + 4 * m) a R → DeckM n (1 + 4 * m) b R → DeckM n (1 + 4 * m) (Q.ifM (pB ((way : Int) == j)) a b) R := fun j a b R h1 h2 => by
        cases z : ((way : Int) == j) with
        | true => rw [ifM_t]; exact h1
        | false => rw [ifM_f]; exact h2
      refine ifw _ _ _ _ (two _ _ (tks _) (drs _) (by rw [List.length_take, List.length_drop]; omega)) ?_
      refine ifw _ _ _ _ (two _ _ (tks _) (drs _) (by rw [List.length_take, List.length_drop]; omega)) ?_
      refine ifw _ _ _ _ ?_ ?_
      · refine DeckM.mono (k := 1) (add_deck2 (R := fun xs => xs.length + (ds.drop i).length ≤ N + 1 ∧ ∀ e ∈ xs, tmN (N + 1) (k + 2) e) (DeckM.mono (k := 1) (add_deck (tup1_deck (P := fun d => d ∈ odds) (f_law_odd n)) (fun ys ⟨d, e, _⟩ => by rw [e]; rw [List.length_take]; simp; omega)) (by omega) fun w ⟨ys, e, d, ey, hd⟩ => ⟨_, e, ?_, ?_⟩) (fun xs h => by omega)) (by omega) fun w ⟨xs, e, h1, h2⟩ => ⟨_, e, mk _ (by rw [List.length_append]; exact h1) fun e he => (List.mem_append.mp he).elim (h2 e) (drs _ e)⟩
        · rw [ey, List.length_append, List.length_take, List.length_drop]; simp; omega
        · intro e he
          rw [ey] at he
          rcases List.mem_append.mp he with he | he
          · exact tks _ e he
          · simp only [List.mem_cons, List.not_mem_nil, or_false] at he
            subst he
            exact ((odds_tm e hd).up (by omega)).mono (by omega)
      refine ifw _ _ _ _ ?_ ?_
      · rw [blt1, list_tup, M.ofO_some, M_pure_pV]
        exact DeckM.mono (k := 0) (DeckM.pV ⟨_, rfl, tmN.of_lst (by omega) own⟩) (by omega) fun _ h => h
      refine ifw _ _ _ _ (two _ _ (drs _) (tks _) (by rw [List.length_take, List.length_drop]; omega)) ?_
      have hix : idxM (pV (.tup ds)) (pV (.int (i : Int))) = pV ds[i] := by
        rw [idxM_v, idx_at (List.getElem?_eq_getElem hi'), M.ofO_some, M_pure_pV]
      rw [hix]
      have hrec := f_law_bent n m N (k - 1) ds[i] (hv.tup _ (List.getElem_mem hi')) h3 hN (by omega) (by omega)
      rw [show k - 1 + 3 = k + 2 by omega] at hrec
      refine DeckM.mono (k := 4 * m) (add_deck2 (R := fun xs => xs.length + (ds.drop (i + 1)).length ≤ N + 1 ∧ ∀ e ∈ xs, tmN (N + 1) (k + 2) e) (DeckM.mono (k := 4 * m) (add_deck (tup1_deck (P := fun d => tmN (N + 1) (k + 2) d) hrec) (fun ys ⟨d, e, _⟩ => by rw [e]; rw [List.length_take]; simp; omega)) (by omega) fun w ⟨ys, e, d, ey, hd⟩ => ⟨_, e, ?_, ?_⟩) (fun xs h => by omega)) (by omega) fun w ⟨xs, e, h1, h2⟩ => ⟨_, e, mk _ (by rw [List.length_append]; exact h1) fun e he => (List.mem_append.mp he).elim (h2 e) (drs _ e)⟩
      · rw [ey, List.length_append, List.length_take, List.length_drop]; simp; omega
      · intro e he
        rw [ey] at he
        rcases List.mem_append.mp he with he | he
        · exact tks _ e he
        · simp only [List.mem_cons, List.not_mem_nil, or_false] at he
          subst he
          exact hd
end Sh
end
section
set_option autoImplicit false
set_option maxRecDepth 100000
set_option maxHeartbeats 2000000
namespace Sh
open PySem Q
theorem f_law_deck (cell : Int) (turn : Int) (h0 : 0 ≤ turn) (c : Cells) : wp (F__law_deck (.v (.int cell)) (.v (.int turn))) c fun w c' => w = .c c.length ∧ ∃ ds, Dk turn ds ∧ c' = c ++ [some ds] := by
  unfold F__law_deck
  have ep : binM .pow (pV (.int 10)) (pV (.int 18)) = pV (.int (10 ^ 18)) := by
    rw [binM_v, pow_int (by omega) (by omega) (by decide), M.ofO_some, M_pure_pV]
    rfl
  have em : binM .mod (bltM .int [pW (.v (.int cell))]) (pV (.int 2147483579)) = pV (.int (cell % 2147483579)) := by
    rw [pW_v, blt1, int_int, M.ofO_some, M_pure_pV, binM_v, mod_int (by omega), M.ofO_some, M_pure_pV]
  rw [ep, em]
  have h1 : 0 ≤ cell % 2147483579 := Int.emod_nonneg _ (by omega)
  have h2 : cell % 2147483579 < 2147483579 := Int.emod_lt_of_pos _ (by omega)
  have fin : ∀ a : Int, wp (newC [.int a, .int (cell % 2147483579), .int turn]) c fun w c' => ∃ n ds, w = .c n ∧ c.length ≤ n ∧ c'[n]? = some (some ds) ∧ ((W.c c.length) = .c c.length ∧ ∃ ds', Dk turn ds' ∧ c'.take c.length ++ [some ds] = c ++ [some ds']) := fun a =>
    wp_newC ⟨c.length, _, rfl, Nat.le_refl _, get_own, rfl, [.int a, .int (cell % 2147483579), .int turn], ⟨a, _, turn, rfl, h1, h2, h0, Int.le_refl _⟩, by simp⟩
  refine wp_cutC ?_
  have e1 : binM .sub (pW (.v (.int cell))) (pV (.int (10 ^ 18))) = pV (.int (cell - 10 ^ 18)) := by
    rw [pW_v, binM_v, sub_int, M.ofO_some, M_pure_pV]
  rw [e1, pW_v, pW_v, cmpT_v, ge_int, ofO_sB]
  cases z : decide ((10 : Int) ^ 18 ≤ cell) with
  | true =>
    rw [ifM_t, show [pV (.int (cell - 10 ^ 18)), pV (.int (cell % 2147483579)), pV (.int turn)] = ([.int (cell - 10 ^ 18), .int (cell % 2147483579), .int turn] : List D).map pV from rfl, cel_lit _ (by simp)]
    exact fin _
  | false =>
    rw [ifM_f, show [pV (.int 0), pV (.int (cell % 2147483579)), pV (.int turn)] = ([.int 0, .int (cell % 2147483579), .int turn] : List D).map pV from rfl, cel_lit _ (by simp)]
    exact fin _
mutual
theorem eqd_refl {N : Nat} : ∀ d : D, okN N d = true → eqd d d = true
  | .non, _ => rfl
  | .bl b, _ => by simp
  | .int i, _ => by simp
  | .str x, _ => by simp
  | .tup ds, h => by
    have h1 : (decide (ds.length ≤ N) && okNs N ds) = true := h
    rw [Bool.and_eq_true] at h1
    exact eqds_refl ds h1.2
  | .lst ds, h => by
    have h1 : (decide (ds.length ≤ N) && okNs N ds) = true := h
    rw [Bool.and_eq_true] at h1
    exact eqds_refl ds h1.2
  | .dct _ _, h => by cases h
theorem eqds_refl {N : Nat} : ∀ ds : List D, okNs N ds = true → eqds ds ds = true
  | [], _ => rfl
  | d :: r, h => by
    have h1 : (okN N d && okNs N r) = true := h
    rw [Bool.and_eq_true] at h1
    rw [eqds_cons, eqd_refl d h1.1, eqds_refl r h1.2]
    rfl
end
theorem steps_tm {N j : Nat} : ∀ (k : Nat) (b : D), tmN N j b → ∀ d ∈ stepsB k b, tmN N j d
  | 0, _, _, d, h => by cases h
  | k + 1, b, hb, d, h => by
    cases b with
    | tup items =>
      have h : d ∈ items.flatMap (stepsI (stepsB k)) := h
      rw [List.mem_flatMap] at h
      obtain ⟨it, hit, hd⟩ := h
      have ht := (hb.tup it hit).mono (show j - 1 ≤ j by omega)
      unfold stepsI at hd
      split at hd
      · rename_i w r
        rcases List.mem_append.mp hd with hd | hd
        · unfold ownS at hd
          split at hd
          · simp only [List.mem_cons, List.not_mem_nil, or_false] at hd
            subst hd
            have hj : 1 ≤ j := by have := ht.de; unfold dep at this; omega
            have := tmN.of_tup (N := N) (k := j - 1) (ds := (D.str w :: r).take 2) (by have := ht.len; rw [List.length_take]; omega) fun e he => ht.tup e (List.mem_of_mem_take he)
            exact this.mono (by omega)
          · split at hd
            · cases hd
            · simp only [List.mem_cons, List.not_mem_nil, or_false] at hd
              subst hd
              exact ht
        · rw [List.mem_flatMap] at hd
          obtain ⟨b2, hb2, hd⟩ := hd
          exact steps_tm k b2 ((ht.tup b2 (.tail _ (inner_sub hb2))).mono (by omega)) d hd
      · cases hd
    | _ => cases h
/-- a made program: is_program, steps -/
theorem f_steps {L : Int} {H : Head} {items : List D} (h : GP L H items) (hL : L ≤ 40) : F_steps (.v (progD H items)) = pV (.lst (stepsB 8 (.tup items))) := by
  have hp := f_is_program (h.tm.up (by omega)) (by omega)
  rw [h.prog hL] at hp
  obtain ⟨p, hv, hq⟩ := h.body
  have hb := hv.1 8 (by omega)
  have := hv.2
  have hs := f_steps_in (tb := H.tb) (rows := H.rows) 8 40 (.tup items) p 10 hb (h.tmb.up (by omega)) (by omega) (by omega)
  unfold F_steps F_need_program
  have i2 : idxM (pW (.v (progD H items))) (pV (.int 2)) = pV (.tup items) := by
    unfold progD
    simp
  rw [i2]
  simp only [pW_v, call1_v, hp, tst_pV, notT_pB, Bool.not_true, ifM_f, cutM_v, pV_bind, hs]
/-- the two lists of steps are the same -/
theorem steps_same {L : Int} {H : Head} {items : List D} (h : GP L H items) (hL : L ≤ 40) (c : Cells) : wp (cmpT .ne (call1 F_steps (pW (.v (progD H items)))) (call1 (F__law_steps 40) (call2 (F__law_rows 40) (idxM (pW (.v (progD H items))) (pV (.int 2))) (celM [(pV (.int 0))])))) c fun b c' => b = false ∧ ∃ i : Int, c' = c ++ [some [.int i]] := by
  obtain ⟨p, hv, hq⟩ := h.body
  have hb := hv.1 8 (by omega)
  have := hv.2
  have i2 : idxM (pW (.v (progD H items))) (pV (.int 2)) = pV (.tup items) := by
    unfold progD
    simp
  rw [i2]
  rw [pW_v, show call1 F_steps (pV (progD H items)) = F_steps (.v (progD H items)) from rfl, f_steps h hL]
  refine wp_bind (wp_pV (wp_bind ?_))
  refine wp_bind (wp_bind (wp_pV (wp_bind (wp_eq (cel_lit [.int 0] (by simp)) (wp_newC ?_)))))
  refine wp_imp (f_law_rows (tb := H.tb) (rows := H.rows) 8 40 (.tup items) p 10 c.length 0 _ hb (h.tmb.up (by omega)) (by omega) get_own) fun w c1 ⟨rs, i', e, hrow, ec⟩ => ?_
  subst e ec
  rw [set_own]
  refine wp_imp (f_law_steps (tb := H.tb) (rows := H.rows) 8 40 (.tup items) rs p 10 _ hb (h.tmb.up (by omega)) (by omega) (by omega) hrow) fun w c2 ⟨e, ec⟩ => ?_
  subst e ec
  have hl := body_len 8 _ p hb
  have hsl : (stepsB 8 (.tup items)).length ≤ 5000 := by omega
  have ht := tmN.of_lst (N := 5000) (k := 10) hsl fun d hd => (steps_tm 8 _ h.tmb d hd).up (by omega)
  rw [rdM_v, M.pure_bind, M.pure_bind, cmp_ne (ht.shp (by omega)) (ht.shp (by omega)), eqd_refl _ ht.ok]
  exact wp_pure ⟨rfl, i', rfl⟩
end Sh
end
section
set_option autoImplicit false
set_option maxRecDepth 100000
set_option maxHeartbeats 2000000
namespace Sh
open PySem Q
/-- one cell's part of the law k01: nothing is found, only cells are added -/
theorem k01_cell (cell : Int) (c : Cells) : wp (M.bind (call2 F__law_deck (pV (.int cell)) (pV (.int 3))) fun v_deck =>
    (M.bind (call2 F__law_program (pW v_deck) (pV (.int 14))) fun v_program =>
    (ifM (orT (cmpT .notT (call1 F_is_program (pW v_program)) (pV (.bl true))) (cmpT .ne (call1 F_steps (pW v_program)) (call1 (F__law_steps 40) (call2 (F__law_rows 40) (idxM (pW v_program) (pV (.int 2))) (celM [(pV (.int 0))])))))
    (M.bind (pV (.bl false)) pR)
    (forM pR (rngM (pV (.int 8))) () (fun (s2 : Unit) d2 =>
    (M.bind (pW v_program) fun v_value =>
    (forM pR (rngM (pV (.int 3))) v_value (fun (s3 : W) d3 =>
    (M.bind (call2 (F__law_bent 40) (pW v_deck) (pW s3)) fun v_value_2 =>
    (ifM (notT (tst (call1 F__law_told (pW v_value_2))))
    (M.bind (pV (.bl false)) pR)
    (pN v_value_2)))) fun s3 =>
    (pN ())))) fun s2 =>
    (ifM (orT (notT (tst (call1 F__law_told (call1 F__law_odd (pW v_deck))))) (notT (tst (call1 F__law_told (binM .add (slcM (pW v_program) oN (oS (pV (.int 2)))) (tupM [(binM .add (idxM (pW v_program) (pV (.int 2))) (tupM [(tupM [(pV (.str "tell")), (pV (.str "none"))])]))]))))))
    (M.bind (pV (.bl false)) pR)
    (pN () : M (St Unit))))))) c fun r _ => match r with
      | .nxt _ => True
      | .ret _ => False := by
  refine wp_bind (wp_imp (f_law_deck cell 3 (by omega) c) fun w c1 ⟨e, ds0, hd0, ec⟩ => ?_)
  subst e ec
  have get : ∀ (ds : List D) (X : Cells), (c ++ some ds :: X)[c.length]? = some (some ds) := fun ds X => get_own
  have set' : ∀ (ds ds' : List D) (X : Cells), (c ++ some ds :: X).set c.length (some ds') = c ++ some ds' :: X := fun ds ds' X => set_own
  refine wp_bind (wp_deck (f_law_program c.length 14 (by omega) (by omega)) (get _ _) hd0 (by show (3 : Int) + ((7600000 : Nat) : Int) ≤ 100000000000; omega) fun w ds1 ⟨H, items, e, hG, _⟩ hd1 => ?_)
  subst e
  rw [set']
  have hp := f_is_program (hG.tm.up (M := 5000) (by omega)) (by omega)
  rw [hG.prog (by omega)] at hp
  have ht1 : cmpT .notT (call1 F_is_program (pW (.v (progD H items)))) (pV (.bl true)) = pB false := by
    rw [pW_v, call1_v, hp, cmpT_v]
    rfl
  rw [ht1, orT_f]
  refine wp_ifM (wp_imp (steps_same hG (by omega) _) fun b c2 ⟨e, i0, ec⟩ => ?_)
  subst e ec
  rw [if_neg (by simp), List.append_assoc]
  show wp _ (c ++ some ds1 :: [some [D.int i0]]) _
  -- bent values
  have told : ∀ {k : Nat} {v : D}, tmN 5000 k v → k ≤ 60 → notT (tst (call1 F__law_told (pV v))) = pB false := fun {k v} h hk => by
    rw [call1_v, f_law_told h hk]
    rfl
  have turn3 : DeckM c.length 500 (M.bind (pW (.v (progD H items))) fun v_value =>
    (forM pR (rngM (pV (.int 3))) v_value (fun (s3 : W) d3 =>
    (M.bind (call2 (F__law_bent 40) (pW (.c c.length)) (pW s3)) fun v_value_2 =>
    (ifM (notT (tst (call1 F__law_told (pW v_value_2))))
    (M.bind (pV (.bl false)) pR)
    (pN v_value_2)))) fun s3 =>
    (pN () : M (St Unit)))) fun r => match r with
      | .nxt _ => True
      | .ret _ => False := by
    rw [pW_v, pV_bind]
    refine DeckM.mono (k := 160 * (rngD 0 3).length + 0) (DeckM.forI (I := fun i s => ∃ v, s = .v v ∧ tmN (100 + i) (11 + 3 * i) v) (R := fun _ => False) (rng_ok (n := 3) (by omega)) ⟨_, rfl, hG.tm⟩ ?_ (fun _ _ => DeckM.pure trivial) (fun _ h => h.elim)) (by show 160 * 3 + 0 ≤ 500; omega) fun _ h => h
    intro i s d hi ⟨v, e, hv⟩ _
    subst e
    have hi3 : i < 3 := hi
    refine DeckM.mono (k := 4 * 40 + 0) (DeckM.bind (f_law_bent c.length 40 (100 + i) (11 + 3 * i) v hv (by omega) (by omega) (by omega) (by omega)) fun w ⟨d2, e, h2⟩ => ?_) (by omega) fun _ h => h
    subst e
    rw [pW_v, told (h2.up (by omega)) (by omega), ifM_f]
    exact DeckM.pure ⟨d2, rfl, by rw [show 100 + (i + 1) = 100 + i + 1 by omega, show 11 + 3 * (i + 1) = 11 + 3 * i + 3 by omega]; exact h2⟩
  have turn8 : DeckM c.length 4002 (forM pR (rngM (pV (.int 8))) () (fun (s2 : Unit) d2 =>
    (M.bind (pW (.v (progD H items))) fun v_value =>
    (forM pR (rngM (pV (.int 3))) v_value (fun (s3 : W) d3 =>
    (M.bind (call2 (F__law_bent 40) (pW (.c c.length)) (pW s3)) fun v_value_2 =>
    (ifM (notT (tst (call1 F__law_told (pW v_value_2))))
    (M.bind (pV (.bl false)) pR)
    (pN v_value_2)))) fun s3 =>
    (pN ())))) fun s2 =>
    (ifM (orT (notT (tst (call1 F__law_told (call1 F__law_odd (pW (.c c.length)))))) (notT (tst (call1 F__law_told (binM .add (slcM (pW (.v (progD H items))) oN (oS (pV (.int 2)))) (tupM [(binM .add (idxM (pW (.v (progD H items))) (pV (.int 2))) (tupM [(tupM [(pV (.str "tell")), (pV (.str "none"))])]))]))))))
    (M.bind (pV (.bl false)) pR)
    (pN () : M (St Unit)))) fun r => match r with
      | .nxt _ => True
      | .ret _ => False := by
    refine DeckM.mono (k := 500 * (rngD 0 8).length + 1) (DeckM.forI (I := fun _ _ => True) (R := fun _ => False) (rng_ok (n := 8) (by omega)) trivial (fun _ _ _ _ _ _ => DeckM.mono (k := 500) turn3 (by omega) fun r h => by cases r <;> exact h) ?_ (fun _ h => h.elim)) (by show 500 * 8 + 1 ≤ 4002; omega) fun _ h => h
    intro _ _
    have e1 : notT (tst (call1 F__law_told (call1 F__law_odd (pW (.c c.length))))) = M.bind (F__law_odd (.c c.length)) fun w => notT (tst (F__law_told w)) := by
      simp [call1, tst, notT, M.bind_assoc]
    have e2 : binM .add (slcM (pW (.v (progD H items))) oN (oS (pV (.int 2)))) (tupM [(binM .add (idxM (pW (.v (progD H items))) (pV (.int 2))) (tupM [(tupM [(pV (.str "tell")), (pV (.str "none"))])]))]) = pV (.tup [stl H.tb, rowsD H.rows, .tup (items ++ [.tup [.str "tell", .str "none"]])]) := by
      have hf := hG.few
      simp [progD, add_tup (show items.length + [D.tup [.str (Str.ofString "tell"), .str (Str.ofString "none")]].length ≤ 20000 by simp; omega), add_tup]
    have ht2 : tmN 5000 12 (.tup [stl H.tb, rowsD H.rows, .tup (items ++ [.tup [.str "tell", .str "none"]])]) := tmN.of_tup (k := 11) (by simp) fun d hd => by
      simp only [List.mem_cons, List.not_mem_nil, or_false] at hd
      rcases hd with rfl | rfl | rfl
      · exact (hG.head.tmt.mono (by omega)).up (by omega)
      · exact (hG.head.tmr.mono (by omega)).up (by omega)
      · refine tmN.of_tup (k := 10) (by rw [List.length_append]; have := hG.few; simp; omega) fun d hd => ?_
        rcases List.mem_append.mp hd with h | h
        · exact ((hG.tms d h).mono (by omega)).up (by omega)
        · simp only [List.mem_cons, List.not_mem_nil, or_false] at h
          subst h
          refine tmN.of_tup (k := 9) (by simp) fun d hd => ?_
          simp only [List.mem_cons, List.not_mem_nil, or_false] at hd
          rcases hd with rfl | rfl <;> exact tm_lit _ _ (by decide +kernel)
    rw [e1, e2, told ht2 (by omega)]
    refine DeckM.mono (k := (1 + 0) + 0) (DeckM.ifM (P := fun b => b = false) (k := 1 + 0) (t := orT _ _) ?_ (fun h => by cases h) fun _ => DeckM.pure trivial) (by omega) fun _ h => h
    refine DeckM.mono (k := (1 + 0) + 0) (DeckM.bind (P := fun b => b = false) (DeckM.bind (f_law_odd c.length) fun w ⟨d, e, hd⟩ => ?_) fun b hb => ?_) (by omega) fun _ h => h
    · subst e
      have := told (v := d) ((odds_tm d hd).up (M := 5000) (by omega)) (by omega)
      rw [call1_v] at this
      rw [this]
      exact DeckM.pure rfl
    · subst hb
      exact DeckM.pure rfl
  refine wp_deck turn8 (get _ _) hd1 (by show (3 : Int) + ((7600000 : Nat) : Int) + ((4002 : Nat) : Int) ≤ 100000000000; omega) fun r ds2 hr _ => ?_
  cases r <;> exact hr
end Sh
end
section
set_option autoImplicit false
set_option maxRecDepth 100000
set_option maxHeartbeats 2000000
namespace Sh
open PySem Q
/-- a cell whose items are tame -/
def TC (c : Cells) (n : Nat) (q : Nat) : Prop := ∃ ds, c[n]? = some (some ds) ∧ ds.length ≤ q ∧ ∀ d ∈ ds, tm 30 d
theorem mul_tup {xs : List D} {k : Int} (h1 : xs.length ≤ 1000) (h2 : xs ≠ []) (h3 : 2 ≤ k) (h4 : k ≤ 1000) : opD .mul (.tup xs) (.int k) = some (.tup (repD xs k.toNat)) := if_pos ⟨h1, h2, h3, h4⟩
theorem rep1 (x : D) (n : Nat) : repD [x] n = List.replicate n x := by
  unfold repD
  induction n with
  | zero => rfl
  | succ n ih => rw [List.replicate_succ, List.flatten_cons, ih]; rfl
theorem tm_rep {x : D} {n : Nat} (h : tm 29 x) (hn : n ≤ 5000) : tm 30 (.tup (List.replicate n x)) := tmN.of_tup (by rw [List.length_replicate]; exact hn) fun d hd => by
  rw [List.eq_of_mem_replicate hd]
  exact h
theorem tm_ok {d : D} {k : Nat} (h : (okN 5000 d && decide (dep d ≤ k)) = true) : tm k d := by
  rw [Bool.and_eq_true, decide_eq_true_eq] at h
  exact ⟨h.1, h.2⟩
/-- list + list: a new cell -/
theorem wp_cadL {c : Cells} {n q : Nat} {m : M W} {ys : List D} {Q : W → Cells → Prop} (h : TC c n q) (hm : m = pV (.lst ys)) (hq : q + ys.length ≤ 1000) (hy : ∀ y ∈ ys, tm 30 y) (k : ∀ c', TC c' c.length (q + ys.length) → Q (.c c.length) c') : wp (cadM (pW (.c n)) m) c Q := by
  obtain ⟨ds, h1, h2, h3⟩ := h
  rw [hm]
  refine wp_cad (wp_pV ⟨ds, ys, rfl, h1, by omega, k _ ⟨ds ++ ys, get_own, by rw [List.length_append]; omega, fun d hd => (List.mem_append.mp hd).elim (h3 d) (hy d)⟩⟩)
/-- list.append -/
theorem wp_appT {c : Cells} {n q : Nat} {m : M W} {d : D} {Q : W → Cells → Prop} (h : TC c n q) (hm : m = pV d) (hq : q + 1 ≤ 1000) (hd : tm 30 d) (k : ∀ c', TC c' n (q + 1) → Q (.v .non) c') : wp (appM (pW (.c n)) m) c Q := by
  obtain ⟨ds, h1, h2, h3⟩ := h
  rw [hm]
  have hl := (List.getElem?_eq_some_iff.mp h1).1
  refine wp_appC (wp_pV ⟨d, ds, rfl, h1, by omega, k _ ⟨ds ++ [d], by rw [List.getElem?_set_self hl], by rw [List.length_append]; simp; omega, fun e he => (List.mem_append.mp he).elim (h3 e) fun h => ?_⟩⟩)
  simp only [List.mem_cons, List.not_mem_nil, or_false] at h
  subst h
  exact hd
def headK : D := .tup [.tup [.str "t"], .tup [.tup [.str "k", .str "keys", .tup [.str "t"], .bl true], .tup [.str "v", .str "values", .tup [.str "t"], .bl false]]]
/-- the written programs of the law k01 -/
theorem k01_rest (c : Cells) : wp (M.bind (tupM [(tupM [(pV (.str "t"))]), (tupM [(tupM [(pV (.str "k")), (pV (.str "keys")), (tupM [(pV (.str "t"))]), (pV (.bl true))]), (tupM [(pV (.str "v")), (pV (.str "values")), (tupM [(pV (.str "t"))]), (pV (.bl false))])])]) fun v_head =>
    (M.bind (celM []) fun v_rows =>
    (M.bind (tupM []) fun v_deep =>
    (forM pW (walkM (tupM [(pV (.int 39)), (pV (.int 40)), (pV (.int 41)), (pV (.int 80)), (pV (.int 81))])) v_rows (fun (s4 : W) d4 =>
    (M.bind (cadM (pW s4) (lstM [(binM .mul (tupM [(tupM [(pV (.str "tell")), (pV (.str "v"))])]) (pV d4)), (binM .mul (tupM [(tupM [(pV (.str "loop")), (tupM [])])]) (pV d4)), (binM .mul (tupM [(tupM [(pV (.str "walk")), (pV (.str "k")), (tupM [])])]) (pV d4))])) fun v_rows_2 =>
    (pN v_rows_2))) fun s4 =>
    (forM pW (rngM (pV (.int 9))) v_deep (fun (s5 : W) d5 =>
    (M.bind (tupM [(idxM (lstM [(tupM [(pV (.str "loop")), (pW s5)]), (tupM [(pV (.str "walk")), (pV (.str "k")), (pW s5)]), (tupM [(pV (.str "either")), (pW s5), (tupM [])])]) (binM .mod (bltM .int [(pV d5)]) (pV (.int 3))))]) fun v_deep_2 =>
    (M.bind (appM (pW s4) (pW v_deep_2)) fun _ =>
    (pN v_deep_2)))) fun s5 =>
    (M.bind (lstM [(binM .mul (tupM [(tupM [(pV (.str "keys"))])]) (pV (.int 2))), (tupM [(tupM [(pV (.str "values"))]), (tupM [(pV (.str "bykey"))])]), (tupM [(tupM [(pV (.str "keys"))]), (tupM [(pV (.str "byvalue"))])]), (tupM [(tupM [(pV (.str "first")), (pV (.int 10))])]), (tupM [(tupM [(pV (.str "in")), (pV (.str "k"))])])]) fun v_some =>
    (forM pW (walkM (pW v_some)) () (fun (s6 : Unit) d6 =>
    (M.bind (appM (pW s4) (tupM [(tupM [(pV (.str "view")), (pV (.str "k")), (pV (.str "live")), (tupM [(pV (.str "table")), (pV (.str "t"))]), (pV d6)])])) fun _ =>
    (pN ()))) fun s6 =>
    (M.bind (cadM (pW s4) (lstM [(tupM [(tupM [(pV (.str "view")), (pV (.str "k")), (pV (.str "once")), (tupM [(pV (.str "of")), (pV (.str "k"))]), (tupM [(tupM [(pV (.str "first")), (pV (.int 1))])])])]), (tupM [(tupM [(pV (.str "view")), (pV (.str "k")), (pV (.str "live")), (tupM [(pV (.str "of")), (pV (.str "k"))]), (tupM [])])])])) fun v_rows_3 =>
    (M.bind (appM (pW v_rows_3) (tupM [(tupM [(pV (.str "view")), (pV (.str "v")), (pV (.str "live")), (tupM [(pV (.str "table")), (pV (.str "t"))]), (tupM [(tupM [(pV (.str "byvalue"))]), (tupM [(pV (.str "values"))]), (tupM [(pV (.str "last")), (pV (.int 9))]), (tupM [(pV (.str "pass")), (pV (.str "x"))])])])])) fun _ =>
    (bV (cmpT .eq (lcM false (walkM (frzM (pW v_rows_3))) (fun d7 => (notT (tst (call1 F__law_told (binM .add (pW v_head) (tupM [(pV d7)])))))) (fun d7 => (pV d7))) (lstM [])))))))))))) c fun w _ => w = .v (.bl true) := by
  have eh : tupM [(tupM [(pV (.str "t"))]), (tupM [(tupM [(pV (.str "k")), (pV (.str "keys")), (tupM [(pV (.str "t"))]), (pV (.bl true))]), (tupM [(pV (.str "v")), (pV (.str "values")), (tupM [(pV (.str "t"))]), (pV (.bl false))])])] = pV headK := by
    rw [tupM1, tupM4, tupM4, tupM2, tupM2]
    rfl
  rw [eh, pV_bind]
  refine wp_bind (wp_eq (cel_lit [] (by simp)) (wp_newC ?_))
  rw [tupM_nil, pV_bind]
  have tT : ∀ s : String, (Str.ofString s).length ≤ 1000 → ∀ k, tm k (.str (Str.ofString s)) := fun s h k => tm_lit k s h
  -- repeated items
  refine wp_forR (xs := [.int 39, .int 40, .int 41, .int 80, .int 81]) (I := fun rest s cs => ∃ n, s = .c n ∧ TC cs n (15 - 3 * rest.length) ∧ rest.length ≤ 5 ∧ ∀ d ∈ rest, ∃ i : Int, d = .int i ∧ 2 ≤ i ∧ i ≤ 1000) (R := fun _ _ => False) (by rw [tupM5, walkM_v]; rfl)
    ⟨c.length, rfl, ⟨[], get_own, by simp, by simp⟩, by simp, ?_⟩ ?_ ?_ (fun _ _ h => h.elim)
  · intro d hd
    simp only [List.mem_cons, List.not_mem_nil, or_false] at hd
    rcases hd with rfl | rfl | rfl | rfl | rfl <;> exact ⟨_, rfl, by omega, by omega⟩
  · intro d r s cs ⟨n, e, hT, hl, hr⟩
    subst e
    obtain ⟨i, rfl, h2, h3⟩ := hr d (.head _)
    rw [List.length_cons] at hT hl
    have em : ∀ x : D, binM .mul (pV (.tup [x])) (pV (.int i)) = pV (.tup (List.replicate i.toNat x)) := fun x => by
      rw [binM_v, mul_tup (by simp) (by simp) h2 h3, rep1, M.ofO_some, M_pure_pV]
    refine wp_bind (wp_cadL hT (ys := [.tup (List.replicate i.toNat (.tup [.str "tell", .str "v"])), .tup (List.replicate i.toNat (.tup [.str "loop", .tup []])), .tup (List.replicate i.toNat (.tup [.str "walk", .str "k", .tup []]))]) ?_ (by simp; omega) ?_ fun c' hT' => ?_)
    · rw [tupM2, tupM2, tupM3, tupM1, tupM1, tupM1, em, em, em]
      exact lst_lit [_, _, _] (by simp)
    · intro y hy
      simp only [List.mem_cons, List.not_mem_nil, or_false] at hy
      rcases hy with rfl | rfl | rfl
      · exact tm_rep (tm_ok (by decide +kernel)) (by omega)
      · exact tm_rep (tm_ok (by decide +kernel)) (by omega)
      · exact tm_rep (tm_ok (by decide +kernel)) (by omega)
    · exact wp_pure ⟨_, rfl, by
        obtain ⟨ds, a1, a2, a3⟩ := hT'
        exact ⟨ds, a1, by simp at a2; omega, a3⟩, by omega, fun d hd => hr d (.tail _ hd)⟩
  intro s4 cs ⟨n, e, hT, _, _⟩
  subst e
  have hT : TC cs n 15 := hT
  -- deeper and deeper
  refine wp_forM (I := fun i s cs => ∃ v, s = .v v ∧ tm (1 + 2 * i) v ∧ TC cs n (15 + i)) (R := fun _ _ => False) (rng_ok (n := 9) (by omega)) ⟨_, rfl, tm_ok (by decide +kernel), hT⟩ ?_ ?_ (fun _ _ h => h.elim)
  · intro i s cs d hi ⟨v, e, hv, hT⟩ hd
    subst e
    have hi9 : i < 9 := hi
    obtain ⟨j, rfl⟩ : ∃ j : Nat, d = .int j := by
      rw [rngD_range, List.mem_map] at hd
      obtain ⟨j, _, rfl⟩ := hd
      exact ⟨j, rfl⟩
    have key : ∃ x, idxM (lstM [(tupM [(pV (.str "loop")), (pW (.v v))]), (tupM [(pV (.str "walk")), (pV (.str "k")), (pW (.v v))]), (tupM [(pV (.str "either")), (pW (.v v)), (pV (.tup []))])]) (binM .mod (bltM .int [(pV (.int (j : Int)))]) (pV (.int 3))) = pV x ∧ tm (1 + 2 * i + 1) x := by
      have e1 : binM .mod (bltM .int [(pV (.int (j : Int)))]) (pV (.int 3)) = pV (.int ((j % 3 : Nat) : Int)) := by
        rw [blt1, int_int, M.ofO_some, M_pure_pV, binM_v, mod_int (by omega), M.ofO_some, M_pure_pV]
        rfl
      have e2 : lstM [(tupM [(pV (.str "loop")), (pW (.v v))]), (tupM [(pV (.str "walk")), (pV (.str "k")), (pW (.v v))]), (tupM [(pV (.str "either")), (pW (.v v)), (pV (.tup []))])] = pV (.lst [.tup [.str "loop", v], .tup [.str "walk", .str "k", v], .tup [.str "either", v, .tup []]]) := by
        rw [pW_v, tupM2, tupM3, tupM3]
        exact lst_lit [_, _, _] (by simp)
      have hj : j % 3 < 3 := Nat.mod_lt _ (by omega)
      rw [e1, e2]
      have hx : ∀ x ∈ [D.tup [.str "loop", v], .tup [.str "walk", .str "k", v], .tup [.str "either", v, .tup []]], tm (1 + 2 * i + 1) x := by
        intro x hx
        simp only [List.mem_cons, List.not_mem_nil, or_false] at hx
        rcases hx with rfl | rfl | rfl
        · refine tmN.of_tup (by simp) fun d hd => ?_
          simp only [List.mem_cons, List.not_mem_nil, or_false] at hd
          rcases hd with rfl | rfl
          · exact tm_lit _ _ (by decide +kernel)
          · exact hv
        · refine tmN.of_tup (by simp) fun d hd => ?_
          simp only [List.mem_cons, List.not_mem_nil, or_false] at hd
          rcases hd with rfl | rfl | rfl
          · exact tm_lit _ _ (by decide +kernel)
          · exact tm_lit _ _ (by decide +kernel)
          · exact hv
        · refine tmN.of_tup (by simp) fun d hd => ?_
          simp only [List.mem_cons, List.not_mem_nil, or_false] at hd
          rcases hd with rfl | rfl | rfl
          · exact tm_lit _ _ (by decide +kernel)
          · exact hv
          · exact (tm_ok (k := 1) (by decide +kernel) : tm 1 (.tup [])).mono (by omega)
      generalize hL : [D.tup [.str "loop", v], .tup [.str "walk", .str "k", v], .tup [.str "either", v, .tup []]] = L at hx ⊢
      have hLl : L.length = 3 := by rw [← hL]; rfl
      refine ⟨L[j % 3], ?_, hx _ (List.getElem_mem (by omega))⟩
      rw [idxM_v, idxL_at (List.getElem?_eq_getElem (by omega)), M.ofO_some, M_pure_pV]
    obtain ⟨x, ex, hx⟩ := key
    rw [ex, tupM1, pV_bind]
    have ht : tm (1 + 2 * (i + 1)) (.tup [x]) := by
      have := tmN.of_tup (N := 5000) (k := 1 + 2 * i + 1) (ds := [x]) (by simp) (by simpa using hx)
      exact this.mono (by omega)
    refine wp_bind (wp_appT hT (pW_v _) (by omega) (ht.mono (by omega)) fun c' hT' => ?_)
    exact wp_pure ⟨_, rfl, ht, hT'⟩
  intro _ cs ⟨_, _, _, hT⟩
  have hT : TC cs n 24 := hT
  have e5 : lstM [(binM .mul (tupM [(tupM [(pV (.str "keys"))])]) (pV (.int 2))), (tupM [(tupM [(pV (.str "values"))]), (tupM [(pV (.str "bykey"))])]), (tupM [(tupM [(pV (.str "keys"))]), (tupM [(pV (.str "byvalue"))])]), (tupM [(tupM [(pV (.str "first")), (pV (.int 10))])]), (tupM [(tupM [(pV (.str "in")), (pV (.str "k"))])])] = pV (.lst [.tup [.tup [.str "keys"], .tup [.str "keys"]], .tup [.tup [.str "values"], .tup [.str "bykey"]], .tup [.tup [.str "keys"], .tup [.str "byvalue"]], .tup [.tup [.str "first", .int 10]], .tup [.tup [.str "in", .str "k"]]]) := by
    have em : binM .mul (tupM [(tupM [(pV (.str "keys"))])]) (pV (.int 2)) = pV (.tup [.tup [.str "keys"], .tup [.str "keys"]]) := by
      rw [tupM1, tupM1, binM_v, mul_tup (by simp) (by simp) (by omega) (by omega), rep1, M.ofO_some, M_pure_pV]
      rfl
    rw [em]
    simp only [tupM1, tupM2]
    exact lst_lit [_, _, _, _, _] (by simp)
  rw [e5, pV_bind]
  have hsome : ∀ d ∈ [D.tup [.tup [.str "keys"], .tup [.str "keys"]], .tup [.tup [.str "values"], .tup [.str "bykey"]], .tup [.tup [.str "keys"], .tup [.str "byvalue"]], .tup [.tup [.str "first", .int 10]], .tup [.tup [.str "in", .str "k"]]], tm 5 d := by
    have h : [D.tup [.tup [.str "keys"], .tup [.str "keys"]], .tup [.tup [.str "values"], .tup [.str "bykey"]], .tup [.tup [.str "keys"], .tup [.str "byvalue"]], .tup [.tup [.str "first", .int 10]], .tup [.tup [.str "in", .str "k"]]].all (fun d => okN 5000 d && decide (dep d ≤ 5)) = true := by decide +kernel
    exact fun d hd => tm_ok (List.all_eq_true.mp h d hd)
  generalize hS : [D.tup [.tup [.str "keys"], .tup [.str "keys"]], .tup [.tup [.str "values"], .tup [.str "bykey"]], .tup [.tup [.str "keys"], .tup [.str "byvalue"]], .tup [.tup [.str "first", .int 10]], .tup [.tup [.str "in", .str "k"]]] = S at hsome
  have hSl : S.length = 5 := by rw [← hS]; rfl
  refine wp_forM (xs := S) (I := fun i _ cs => TC cs n (24 + i)) (R := fun _ _ => False) (by rfl) hT ?_ ?_ (fun _ _ h => h.elim)
  · intro i _ cs d hi hT hd
    rw [hSl] at hi
    refine wp_bind (wp_appT (d := .tup [.tup [.str "view", .str "k", .str "live", .tup [.str "table", .str "t"], d]]) hT (by rw [tupM2, tupM5, tupM1]) (by omega) ?_ fun c' hT' => wp_pure hT')
    refine (tmN.of_tup (N := 5000) (k := 6) (by simp) fun e he => ?_).mono (by omega)
    simp only [List.mem_cons, List.not_mem_nil, or_false] at he
    subst he
    refine tmN.of_tup (k := 5) (by simp) fun e he => ?_
    simp only [List.mem_cons, List.not_mem_nil, or_false] at he
    rcases he with rfl | rfl | rfl | rfl | rfl
    · exact tm_lit _ _ (by decide +kernel)
    · exact tm_lit _ _ (by decide +kernel)
    · exact tm_lit _ _ (by decide +kernel)
    · exact tm_ok (by decide +kernel)
    · exact hsome e hd
  intro _ cs hT
  rw [hSl] at hT
  refine wp_bind (wp_cadL hT (ys := [.tup [.tup [.str "view", .str "k", .str "once", .tup [.str "of", .str "k"], .tup [.tup [.str "first", .int 1]]]], .tup [.tup [.str "view", .str "k", .str "live", .tup [.str "of", .str "k"], .tup []]]]) ?_ (by simp) ?_ fun c' hT' => ?_)
  · simp only [tupM_nil, tupM1, tupM2, tupM5]
    exact lst_lit [_, _] (by simp)
  · have h : [D.tup [.tup [.str "view", .str "k", .str "once", .tup [.str "of", .str "k"], .tup [.tup [.str "first", .int 1]]]], .tup [.tup [.str "view", .str "k", .str "live", .tup [.str "of", .str "k"], .tup []]]].all (fun d => okN 5000 d && decide (dep d ≤ 30)) = true := by decide +kernel
    exact fun d hd => tm_ok (List.all_eq_true.mp h d hd)
  refine wp_bind (wp_appT (d := .tup [.tup [.str "view", .str "v", .str "live", .tup [.str "table", .str "t"], .tup [.tup [.str "byvalue"], .tup [.str "values"], .tup [.str "last", .int 9], .tup [.str "pass", .str "x"]]]]) hT' (by simp only [tupM1, tupM2, tupM4, tupM5]) (by simp) (tm_ok (by decide +kernel)) fun c2 ⟨ds, g1, g2, g3⟩ => ?_)
  simp at g2
  -- the last comprehension
  refine wp_bind (wp_bind (wp_bind (wp_bind (wp_frz g1 ?_))))
  show wp (M.pure ds) _ _
  have hh : tm 29 headK := tm_ok (by decide +kernel)
  have e7 : mapC (fun d7 => one1 (notT (tst (call1 F__law_told (binM .add (pW (.v headK)) (tupM [pV d7]))))) (pV d7)) ds = M.pure (ds.flatMap fun _ => []) := mapC_pure fun d hd => by
    have ea : binM .add (pW (.v headK)) (tupM [pV d]) = pV (.tup ([.tup [.str "t"], .tup [.tup [.str "k", .str "keys", .tup [.str "t"], .bl true], .tup [.str "v", .str "values", .tup [.str "t"], .bl false]]] ++ [d])) := by
      rw [tupM1, pW_v]
      exact addt_eq (by simp)
    have ht : tm 31 (.tup ([.tup [.str "t"], .tup [.tup [.str "k", .str "keys", .tup [.str "t"], .bl true], .tup [.str "v", .str "values", .tup [.str "t"], .bl false]]] ++ [d])) := tmN.of_tup (k := 30) (by simp) fun e he => by
      rcases List.mem_append.mp he with he | he
      · exact (hh.tup e he).mono (by omega)
      · simp only [List.mem_cons, List.not_mem_nil, or_false] at he
        subst he
        exact g3 e hd
    rw [ea, call1_v, f_law_told ht (by omega)]
    rfl
  refine wp_pure (wp_bind (wp_eq e7 (wp_pure ?_)))
  have hnil : ∀ l : List D, l.flatMap (fun _ => ([] : List D)) = [] := fun l => by induction l with
    | nil => rfl
    | cons a r ih => rw [List.flatMap_cons, ih]; rfl
  rw [hnil, mkL_false (by simp)]
  refine wp_pV (wp_bind (wp_eq lstM_nil (wp_pV ?_)))
  rw [rdM_v, M.pure_bind, M.pure_bind, eq_nilL (by rfl)]
  exact wp_pure rfl
end Sh
end
section
set_option autoImplicit false
set_option maxRecDepth 100000
set_option maxHeartbeats 4000000
/-! # the shallow defs follow the evaluator (printed by mksh.py) -/
namespace K01
open PySem Q Sh
theorem l_is_whole (n : Nat) (v_value : W) (v_low : W) (v_high : W) : LeM (F_is_whole v_value v_low v_high) (ev Γ 100 (n + 1) 0 [v_value, v_low, v_high]) :=
  def_le (d := i_is_whole) (n := n + 0) rfl rfl (b_retW (sE_b (sB_and (sT_b (sB_isi (sE_var rfl))) (sT_b (sB_and (sT_b (sB_not (sT_b (sB_isi (sE_var rfl))))) (sT_b (sB_chn (sE_var rfl) (sE_var rfl) (sE_var rfl))))))))
theorem l_is_label (n : Nat) (v_value : W) : LeM (F_is_label v_value) (ev Γ 100 (n + 1) 1 [v_value]) :=
  def_le (d := i_is_label) (n := n + 0) rfl rfl (b_ife (sT_b (sB_or (sT_b (sB_not (sT_b (sB_isi (sE_var rfl))))) (sT_b (sB_not (sT_b (sB_chn sE_con (sE_blt (ss_cons (sE_var rfl) ss_nil)) sE_con))))))
    (b_retW sE_con)
    (b_nil (b_retW (sE_blt (ss_cons (sE_lc1 (ltE rfl) (sI_val (sE_var rfl)) (fun d1 => sOT_non) (fun d1 => (sE_b (sB_cmp (sE_var rfl) (sE_glo rfl))))) ss_nil)))))
theorem l_are_labels (n : Nat) (v_value : W) (v_least : W) (v_most : W) : LeM (F_are_labels v_value v_least v_most) (ev Γ 100 (n + 2) 2 [v_value, v_least, v_most]) :=
  def_le (d := i_are_labels) (n := n + 1) rfl rfl (b_ife (sT_b (sB_or (sT_b (sB_not (sT_b (sB_isi (sE_var rfl))))) (sT_b (sB_or (sT_b (sB_not (sT_b (sB_chn (sE_var rfl) (sE_blt (ss_cons (sE_var rfl) ss_nil)) (sE_var rfl))))) (sT_b (sB_not (sT_e (sE_blt (ss_cons (sE_lc1 (ltE rfl) (sI_val (sE_var rfl)) (fun d1 => sOT_non) (fun d1 => (sc1 (fun x0 => l_is_label (n + 0) x0) (sE_var rfl)))) ss_nil)))))))))
    (b_retW sE_con)
    (b_nil (b_retW (sE_blt (ss_cons (sE_lc2 rfl (sI_zip (sE_var rfl) (sE_slc (sE_var rfl) (sO_som sE_con) sO_non)) (fun d2 d3 => sOT_non) (fun d2 d3 => (sE_b (sB_cmp (sE_var rfl) (sE_var rfl))))) ss_nil)))))
theorem l_is_declared (n : Nat) (v_tables : W) (v_value : W) : LeM (F_is_declared v_tables v_value) (ev Γ 100 (n + 3) 3 [v_tables, v_value]) :=
  def_le (d := i_is_declared) (n := n + 2) rfl rfl (b_ife (sT_b (sB_or (sT_b (sB_not (sT_b (sB_isi (sE_var rfl))))) (sT_b (sB_or (sT_b (sB_cmp (sE_blt (ss_cons (sE_var rfl) ss_nil)) sE_con)) (sT_b (sB_or (sT_b (sB_not (sT_e (sc1 (fun x0 => l_is_label (n + 1) x0) (sE_idx (sE_var rfl) sE_con))))) (sT_b (sB_cmp (sE_idx (sE_var rfl) sE_con) (sE_var rfl)))))))))
    (b_retW sE_con)
    (b_nil (b_ife (sT_b (sB_or (sT_b (sB_not (sT_b (sB_isi (sE_idx (sE_var rfl) sE_con))))) (sT_b (sB_or (sT_b (sB_cmp (sE_idx (sE_var rfl) sE_con) (sE_glo rfl))) (sT_b (sB_not (sT_b (sB_isi (sE_idx (sE_var rfl) sE_con)))))))))
    (b_retW sE_con)
    (b_nil (b_retW (sE_b (sB_and (sT_e (sc3 (fun x0 x1 x2 => l_are_labels (n + 0) x0 x1 x2) (sE_idx (sE_var rfl) sE_con) sE_con (sE_glo rfl))) (sT_e (sE_blt (ss_cons (sE_lc1 (ltE rfl) (sI_val (sE_idx (sE_var rfl) sE_con)) (fun d1 => sOT_non) (fun d1 => (sE_b (sB_cmp (sE_var rfl) (sE_var rfl))))) ss_nil))))))))))
theorem l_is_head (n : Nat) (v_tables : W) (v_views : W) : LeM (F_is_head v_tables v_views) (ev Γ 100 (n + 4) 4 [v_tables, v_views]) :=
  def_le (d := i_is_head) (n := n + 3) rfl rfl (b_ife (sT_b (sB_or (sT_b (sB_not (sT_e (sc3 (fun x0 x1 x2 => l_are_labels (n + 1) x0 x1 x2) (sE_var rfl) sE_con (sE_glo rfl))))) (sT_b (sB_or (sT_b (sB_not (sT_b (sB_isi (sE_var rfl))))) (sT_b (sB_not (sT_b (sB_chn sE_con (sE_blt (ss_cons (sE_var rfl) ss_nil)) (sE_glo rfl)))))))))
    (b_retW sE_con)
    (b_nil (b_ife (sT_b (sB_not (sT_e (sE_blt (ss_cons (sE_lc1 (ltE rfl) (sI_val (sE_var rfl)) (fun d1 => sOT_non) (fun d1 => (sc2 (fun x0 x1 => l_is_declared (n + 0) x0 x1) (sE_var rfl) (sE_var rfl)))) ss_nil)))))
    (b_retW sE_con)
    (b_nil (b_retW (sE_blt (ss_cons (sE_lc2 rfl (sI_zip (sE_var rfl) (sE_slc (sE_var rfl) (sO_som sE_con) sO_non)) (fun d2 d3 => sOT_non) (fun d2 d3 => (sE_b (sB_cmp (sE_idx (sE_var rfl) sE_con) (sE_idx (sE_var rfl) sE_con))))) ss_nil)))))))
theorem l_told_of (n : Nat) (v_views : W) (v_name : W) : LeM (F_told_of v_views v_name) (ev Γ 100 (n + 1) 5 [v_views, v_name]) :=
  def_le (d := i_told_of) (n := n + 0) rfl rfl (b_set (ltE rfl) (sE_lc1 (ltE rfl) (sI_val (sE_var rfl)) (fun d1 => (sOT_som (sT_b (sB_and (sT_b (sB_isi (sE_var rfl))) (sT_b (sB_cmp (sE_idx (sE_var rfl) sE_con) (sE_var rfl))))))) (fun d1 => (sE_var rfl))) fun v_found =>
    (b_retW (sE_ite (sT_b (sB_cmp (sE_var rfl) (sE_lst ss_nil))) (sE_idx (sE_var rfl) sE_con) sE_con)))
theorem l_begun (n : Nat) (v_tables : W) (v_views : W) (v_source : W) : LeM (F_begun v_tables v_views v_source) (ev Γ 100 (n + 2) 6 [v_tables, v_views, v_source]) :=
  def_le (d := i_begun) (n := n + 1) rfl rfl (b_ife (sT_b (sB_or (sT_b (sB_not (sT_b (sB_isi (sE_var rfl))))) (sT_b (sB_or (sT_b (sB_cmp (sE_blt (ss_cons (sE_var rfl) ss_nil)) sE_con)) (sT_b (sB_not (sT_b (sB_isi (sE_idx (sE_var rfl) sE_con)))))))))
    (b_retW sE_con)
    (b_nil (b_ife (sT_b (sB_and (sT_b (sB_cmp (sE_idx (sE_var rfl) sE_con) sE_con)) (sT_b (sB_and (sT_b (sB_isi (sE_idx (sE_var rfl) sE_con))) (sT_b (sB_cmp (sE_idx (sE_var rfl) sE_con) (sE_var rfl)))))))
    (b_retW (sE_tup (ss_cons sE_con (ss_cons (sE_tup (ss_cons (sE_idx (sE_var rfl) sE_con) ss_nil)) (ss_cons sE_con ss_nil)))))
    (b_nil (b_set (ltE rfl) (sE_ite (sT_b (sB_cmp (sE_idx (sE_var rfl) sE_con) sE_con)) (sc2 (fun x0 x1 => l_told_of (n + 0) x0 x1) (sE_var rfl) (sE_idx (sE_var rfl) sE_con)) sE_con) fun v_view =>
    (b_retW (sE_ite (sT_b (sB_cmp (sE_var rfl) sE_con)) sE_con (sE_slc (sE_var rfl) (sO_som sE_con) sO_non))))))))
theorem l_with_op (n : Nat) (v_views : W) (v_state : W) (v_op : W) : LeM (F_with_op v_views v_state v_op) (ev Γ 100 (n + 2) 7 [v_views, v_state, v_op]) :=
  def_le (d := i_with_op) (n := n + 1) rfl rfl (b_un3 rfl (sE_var rfl) fun v_kind v_names v_long =>
    (b_ife (sT_b (sB_or (sT_b (sB_not (sT_b (sB_isi (sE_var rfl))))) (sT_b (sB_or (sT_b (sB_cmp (sE_var rfl) (sE_tup ss_nil))) (sT_b (sB_not (sT_b (sB_isi (sE_idx (sE_var rfl) sE_con)))))))))
    (b_retW sE_con)
    (b_nil (b_set (ltE rfl) (sE_idx (sE_var rfl) sE_con) fun v_word =>
    (b_ife (sT_b (sB_and (sT_b (sB_cmp (sE_var rfl) sE_con)) (sT_b (sB_cmp (sE_blt (ss_cons (sE_var rfl) ss_nil)) sE_con))))
    (b_retW (sE_var rfl))
    (b_nil (b_ife (sT_b (sB_and (sT_b (sB_cmp (sE_var rfl) (sE_glo rfl))) (sT_b (sB_cmp (sE_blt (ss_cons (sE_var rfl) ss_nil)) sE_con))))
    (b_retW (sE_ite (sT_b (sB_cmp (sE_var rfl) (sE_idx (sE_glo rfl) (sE_var rfl)))) (sE_tup (ss_cons (sE_ite (sT_b (sB_cmp (sE_var rfl) (sE_glo rfl))) (sE_var rfl) (sE_var rfl)) (ss_cons (sE_var rfl) (ss_cons (sE_var rfl) ss_nil)))) sE_con))
    (b_nil (b_ife (sT_b (sB_and (sT_b (sB_cmp (sE_var rfl) (sE_tup (ss_cons sE_con (ss_cons sE_con ss_nil))))) (sT_b (sB_cmp (sE_blt (ss_cons (sE_var rfl) ss_nil)) sE_con))))
    (b_retW (sE_ite (sT_e (sc3 (fun x0 x1 x2 => l_is_whole (n + 0) x0 x1 x2) (sE_idx (sE_var rfl) sE_con) sE_con (sE_glo rfl))) (sE_tup (ss_cons (sE_var rfl) (ss_cons (sE_var rfl) (ss_cons sE_con ss_nil)))) sE_con))
    (b_nil (b_ife (sT_b (sB_and (sT_b (sB_cmp (sE_var rfl) (sE_glo rfl))) (sT_b (sB_cmp (sE_blt (ss_cons (sE_var rfl) ss_nil)) sE_con))))
    (b_retW (sE_ite (sT_b (sB_and (sT_e (sc1 (fun x0 => l_is_label (n + 0) x0) (sE_idx (sE_var rfl) sE_con))) (sT_b (sB_cmp (sE_var rfl) (sE_idx (sE_glo rfl) (sE_var rfl)))))) (sE_var rfl) sE_con))
    (b_nil (b_ife (sT_b (sB_or (sT_b (sB_cmp (sE_var rfl) (sE_tup (ss_cons sE_con (ss_cons sE_con ss_nil))))) (sT_b (sB_or (sT_b (sB_cmp (sE_blt (ss_cons (sE_var rfl) ss_nil)) sE_con)) (sT_b (sB_cmp (sE_var rfl) sE_con))))))
    (b_retW sE_con)
    (b_nil (b_set (ltE rfl) (sc2 (fun x0 x1 => l_told_of (n + 0) x0 x1) (sE_var rfl) (sE_idx (sE_var rfl) sE_con)) fun v_view =>
    (b_ife (sT_b (sB_or (sT_b (sB_cmp (sE_var rfl) sE_con)) (sT_b (sB_or (sT_b (sB_cmp (sE_idx (sE_var rfl) sE_con) sE_con)) (sT_b (sB_or (sT_b (sB_not (sT_e (sE_idx (sE_var rfl) sE_con)))) (sT_b (sB_not (sT_e (sE_blt (ss_cons (sE_lc1 (ltE rfl) (sI_val (sE_idx (sE_var rfl) sE_con)) (fun d1 => sOT_non) (fun d1 => (sE_b (sB_cmp (sE_var rfl) (sE_var rfl))))) ss_nil)))))))))))
    (b_retW sE_con)
    (b_nil (b_retW (sE_tup (ss_cons (sE_var rfl) (ss_cons (sE_blt (ss_cons (sE_blt (ss_cons (sE_bin (sE_var rfl) (sE_idx (sE_var rfl) sE_con)) ss_nil)) ss_nil)) (ss_cons (sE_var rfl) ss_nil))))))))))))))))))))))
theorem l_shape_of (n : Nat) (v_tables : W) (v_views : W) (v_source : W) (v_ops : W) : LeM (F_shape_of v_tables v_views v_source v_ops) (ev Γ 100 (n + 3) 8 [v_tables, v_views, v_source, v_ops]) :=
  def_le (d := i_shape_of) (n := n + 2) rfl rfl (b_set (ltE rfl) (sc3 (fun x0 x1 x2 => l_begun (n + 0) x0 x1 x2) (sE_var rfl) (sE_var rfl) (sE_var rfl)) fun v_state =>
    (b_ife (sT_b (sB_or (sT_b (sB_not (sT_b (sB_isi (sE_var rfl))))) (sT_b (sB_cmp (sE_blt (ss_cons (sE_var rfl) ss_nil)) (sE_glo rfl)))))
    (b_retW sE_con)
    (b_nil (b_for1 (fun (s1 : W) (j1 : Option W) => [some v_tables, some v_views, some v_source, some v_ops, some s1, j1]) (s0 := v_state) (j0 := none) (fun _ _ => ltE rfl) rtW (sI_val (sE_var rfl)) (fun s1 j1 d1 =>
    (b_ife (sT_b (sB_cmp (sE_var rfl) sE_con))
    (b_set (ltE rfl) (sc3 (fun x0 x1 x2 => l_with_op (n + 0) x0 x1 x2) (sE_var rfl) (sE_var rfl) (sE_var rfl)) fun v_state_2 =>
    (b_nil (b_nil (b_endL ⟨(some (.v d1)), rfl⟩))))
    (b_nil (b_nil (b_endL ⟨(some (.v d1)), rfl⟩))))) fun s1 j1 =>
    (b_retW (sE_var rfl))))))
theorem l_is_view_step (n : Nat) (v_tables : W) (v_views : W) (v_item : W) : LeM (F_is_view_step v_tables v_views v_item) (ev Γ 100 (n + 4) 9 [v_tables, v_views, v_item]) :=
  def_le (d := i_is_view_step) (n := n + 3) rfl rfl (b_ife (sT_b (sB_or (sT_b (sB_cmp (sE_blt (ss_cons (sE_var rfl) ss_nil)) sE_con)) (sT_b (sB_or (sT_b (sB_not (sT_b (sB_isi (sE_idx (sE_var rfl) sE_con))))) (sT_b (sB_cmp (sE_idx (sE_var rfl) sE_con) (sE_glo rfl)))))))
    (b_retW sE_con)
    (b_nil (b_par2 rfl (sc2 (fun x0 x1 => l_told_of (n + 2) x0 x1) (sE_var rfl) (sE_idx (sE_var rfl) sE_con)) (sc4 (fun x0 x1 x2 x3 => l_shape_of (n + 0) x0 x1 x2 x3) (sE_var rfl) (sE_var rfl) (sE_idx (sE_var rfl) sE_con) (sE_idx (sE_var rfl) sE_con)) fun v_view v_state =>
    (b_ife (sT_b (sB_or (sT_b (sB_cmp (sE_var rfl) sE_con)) (sT_b (sB_cmp (sE_var rfl) sE_con))))
    (b_retW sE_con)
    (b_nil (b_retW (sE_b (sB_and (sT_b (sB_cmp (sE_slc (sE_var rfl) (sO_som sE_con) (sO_som sE_con)) (sE_slc (sE_var rfl) sO_non (sO_som sE_con)))) (sT_b (sB_or (sT_e (sE_idx (sE_var rfl) sE_con)) (sT_b (sB_not (sT_e (sE_idx (sE_var rfl) sE_con))))))))))))))
theorem l_is_simple (n : Nat) (v_tables : W) (v_views : W) (v_item : W) : LeM (F_is_simple v_tables v_views v_item) (ev Γ 100 (n + 5) 10 [v_tables, v_views, v_item]) :=
  def_le (d := i_is_simple) (n := n + 4) rfl rfl (b_ife (sT_b (sB_cmp (sE_idx (sE_var rfl) sE_con) sE_con))
    (b_retW (sc3 (fun x0 x1 x2 => l_is_view_step (n + 0) x0 x1 x2) (sE_var rfl) (sE_var rfl) (sE_var rfl)))
    (b_nil (b_ife (sT_b (sB_or (sT_b (sB_cmp (sE_blt (ss_cons (sE_var rfl) ss_nil)) sE_con)) (sT_b (sB_not (sT_b (sB_isi (sE_idx (sE_var rfl) sE_con)))))))
    (b_retW sE_con)
    (b_nil (b_ife (sT_b (sB_cmp (sE_idx (sE_var rfl) sE_con) (sE_glo rfl)))
    (b_retW (sE_b (sB_cmp (sE_idx (sE_var rfl) sE_con) (sE_var rfl))))
    (b_nil (b_retW (sE_b (sB_and (sT_b (sB_cmp (sE_idx (sE_var rfl) sE_con) sE_con)) (sT_b (sB_cmp (sc2 (fun x0 x1 => l_told_of (n + 3) x0 x1) (sE_var rfl) (sE_idx (sE_var rfl) sE_con)) sE_con)))))))))))
theorem l_inner (n : Nat) (v_item : W) : LeM (F_inner v_item) (ev Γ 100 (n + 1) 11 [v_item]) :=
  def_le (d := i_inner) (n := n + 0) rfl rfl (b_ife (sT_b (sB_cmp (sE_idx (sE_var rfl) sE_con) (sE_tup (ss_cons sE_con (ss_cons sE_con ss_nil)))))
    (b_retW (sE_slc (sE_var rfl) (sO_som sE_con) sO_non))
    (b_nil (b_retW (sE_ite (sT_b (sB_cmp (sE_idx (sE_var rfl) sE_con) sE_con)) (sE_slc (sE_var rfl) (sO_som sE_con) sO_non) (sE_tup ss_nil)))))
theorem l_measured_item (n : Nat) : ∀ m : Nat, (∀ v_tables v_views v_item v_deep : W, LeM (F_measured_item m v_tables v_views v_item v_deep) (ev Γ 100 (n + m + 5) 12 [v_tables, v_views, v_item, v_deep])) ∧ (∀ v_tables v_views v_body v_deep : W, LeM (F_measured m v_tables v_views v_body v_deep) (ev Γ 100 (n + m + 5) 13 [v_tables, v_views, v_body, v_deep])) := by
  intro m
  induction m with
  | zero => exact ⟨fun _ _ _ _ => bad_ev, fun _ _ _ _ => bad_ev⟩
  | succ m ih => exact ⟨fun v_tables v_views v_item v_deep => def_le (d := i_measured_item) (n := n + m + 5) rfl rfl (b_ife (sT_b (sB_or (sT_b (sB_not (sT_b (sB_isi (sE_var rfl))))) (sT_b (sB_or (sT_b (sB_cmp (sE_var rfl) (sE_tup ss_nil))) (sT_b (sB_not (sT_b (sB_isi (sE_idx (sE_var rfl) sE_con)))))))))
    (b_retW sE_con)
    (b_nil (b_ife (sT_b (sB_cmp (sE_idx (sE_var rfl) sE_con) (sE_tup (ss_cons sE_con (ss_cons sE_con (ss_cons sE_con ss_nil))))))
    (b_retW (sE_ite (sT_e (sc3 (fun x0 x1 x2 => l_is_simple (n + m + 0) x0 x1 x2) (sE_var rfl) (sE_var rfl) (sE_var rfl))) (sE_tup (ss_cons sE_con (ss_cons sE_con ss_nil))) sE_con))
    (b_nil (b_ife (sT_b (sB_or (sT_b (sB_and (sT_b (sB_cmp (sE_idx (sE_var rfl) sE_con) sE_con)) (sT_b (sB_not (sT_b (sB_chn sE_con (sE_blt (ss_cons (sE_var rfl) ss_nil)) sE_con)))))) (sT_b (sB_and (sT_b (sB_cmp (sE_idx (sE_var rfl) sE_con) sE_con)) (sT_b (sB_cmp (sE_blt (ss_cons (sE_var rfl) ss_nil)) sE_con))))))
    (b_retW sE_con)
    (b_nil (b_join (fun (s1 : Unit) (j1 : Option W) => [some v_tables, some v_views, some v_item, some v_deep, j1, none, none, none]) rtW (sT_b (sB_cmp (sE_idx (sE_var rfl) sE_con) sE_con))
    (b_set (ltE rfl) (sE_ite (sT_b (sB_cmp (sE_blt (ss_cons (sE_var rfl) ss_nil)) sE_con)) (sc2 (fun x0 x1 => l_told_of (n + m + 4) x0 x1) (sE_var rfl) (sE_idx (sE_var rfl) sE_con)) sE_con) fun v_view =>
    (b_ife (sT_b (sB_or (sT_b (sB_cmp (sE_var rfl) sE_con)) (sT_b (sB_not (sT_e (sE_idx (sE_var rfl) sE_con))))))
    (b_ret rtL sE_con)
    (b_nil (b_nil (b_endL ⟨(some v_view), rfl⟩)))))
    (b_nil (b_endL ⟨none, rfl⟩)) fun s1 j1 =>
    (b_set (ltE rfl) (sE_tup (ss_cons (sE_blt (ss_cons (sE_b (sB_cmp (sE_idx (sE_var rfl) sE_con) sE_con)) ss_nil)) (ss_cons sE_con ss_nil))) fun v_found =>
    (b_for1 (fun (s2 : W) (j2 : Option W × Option W) => [some v_tables, some v_views, some v_item, some v_deep, j1, some s2, j2.1, j2.2]) (s0 := v_found) (j0 := (none, none)) (fun _ _ => ltE rfl) rtW (sI_val (sc1 (fun x0 => l_inner (n + m + 4) x0) (sE_var rfl))) (fun s2 j2 d1 =>
    (b_set (ltE rfl) (sc4 (fun x0 x1 x2 x3 => ih.2 x0 x1 x2 x3) (sE_var rfl) (sE_var rfl) (sE_var rfl) (sE_bin (sE_var rfl) sE_con)) fun v_more =>
    (b_ife (sT_b (sB_cmp (sE_var rfl) sE_con))
    (b_ret rtL sE_con)
    (b_nil (b_set (ltE rfl) (sE_tup (ss_cons (sE_bin (sE_idx (sE_var rfl) sE_con) (sE_idx (sE_var rfl) sE_con)) (ss_cons (sE_bin (sE_idx (sE_var rfl) sE_con) (sE_idx (sE_var rfl) sE_con)) ss_nil))) fun v_found_2 =>
    (b_nil (b_endL ⟨((some (.v d1)), (some v_more)), rfl⟩))))))) fun s2 j2 =>
    (b_retW (sE_var rfl))))))))))),
    fun v_tables v_views v_body v_deep => def_le (d := i_measured) (n := n + m + 5) rfl rfl (b_ife (sT_b (sB_or (sT_b (sB_not (sT_b (sB_isi (sE_var rfl))))) (sT_b (sB_cmp (sE_var rfl) (sE_glo rfl)))))
    (b_retW sE_con)
    (b_nil (b_set (ltE rfl) (sE_tup (ss_cons sE_con (ss_cons sE_con ss_nil))) fun v_found =>
    (b_for1 (fun (s1 : W) (j1 : Option W × Option W) => [some v_tables, some v_views, some v_body, some v_deep, some s1, j1.1, j1.2]) (s0 := v_found) (j0 := (none, none)) (fun _ _ => ltE rfl) rtW (sI_val (sE_var rfl)) (fun s1 j1 d1 =>
    (b_set (ltE rfl) (sc4 (fun x0 x1 x2 x3 => ih.1 x0 x1 x2 x3) (sE_var rfl) (sE_var rfl) (sE_var rfl) (sE_var rfl)) fun v_more =>
    (b_ife (sT_b (sB_cmp (sE_var rfl) sE_con))
    (b_ret rtL sE_con)
    (b_nil (b_set (ltE rfl) (sE_tup (ss_cons (sE_bin (sE_idx (sE_var rfl) sE_con) (sE_idx (sE_var rfl) sE_con)) (ss_cons (sE_bin (sE_idx (sE_var rfl) sE_con) (sE_idx (sE_var rfl) sE_con)) ss_nil))) fun v_found_2 =>
    (b_nil (b_endL ⟨((some (.v d1)), (some v_more)), rfl⟩))))))) fun s1 j1 =>
    (b_retW (sE_var rfl))))))⟩
theorem l_is_program (n : Nat) (v_value : W) : LeM (F_is_program v_value) (ev Γ 100 (n + 46) 14 [v_value]) :=
  def_le (d := i_is_program) (n := n + 45) rfl rfl (b_ife (sT_b (sB_or (sT_b (sB_not (sT_b (sB_isi (sE_var rfl))))) (sT_b (sB_or (sT_b (sB_cmp (sE_blt (ss_cons (sE_var rfl) ss_nil)) sE_con)) (sT_b (sB_not (sT_e (sc2 (fun x0 x1 => l_is_head (n + 41) x0 x1) (sE_idx (sE_var rfl) sE_con) (sE_idx (sE_var rfl) sE_con)))))))))
    (b_retW sE_con)
    (b_nil (b_set (ltE rfl) (sc4 (fun x0 x1 x2 x3 => (l_measured_item (n + 0) 40).2 x0 x1 x2 x3) (sE_idx (sE_var rfl) sE_con) (sE_idx (sE_var rfl) sE_con) (sE_idx (sE_var rfl) sE_con) sE_con) fun v_found =>
    (b_retW (sE_b (sB_and (sT_b (sB_cmp (sE_var rfl) sE_con)) (sT_b (sB_and (sT_b (sB_cmp (sE_idx (sE_var rfl) sE_con) (sE_glo rfl))) (sT_b (sB_cmp (sE_idx (sE_var rfl) sE_con) (sE_glo rfl)))))))))))
theorem l_need_program (n : Nat) (v_program : W) : LeM (F_need_program v_program) (ev Γ 100 (n + 47) 15 [v_program]) :=
  def_le (d := i_need_program) (n := n + 46) rfl rfl (b_ife (sT_b (sB_not (sT_e (sc1 (fun x0 => l_is_program (n + 0) x0) (sE_var rfl)))))
    b_rse
    (b_nil (b_nil b_endW)))
theorem l_steps_in (n : Nat) : ∀ m : Nat, (∀ v_body : W, LeM (F_steps_in m v_body) (ev Γ 100 (n + m + 1) 16 [v_body])) := by
  intro m
  induction m with
  | zero => exact fun _ => bad_ev
  | succ m ih => exact fun v_body => def_le (d := i_steps_in) (n := n + m + 1) rfl rfl (b_set (ltE rfl) (sE_lst ss_nil) fun v_found =>
    (b_for1 (fun (s1 : W) (j1 : Option W × Option W) => [some v_body, some s1, j1.1, j1.2]) (s0 := v_found) (j0 := (none, none)) (fun _ _ => ltE rfl) rtW (sI_val (sE_var rfl)) (fun s1 j1 d1 =>
    (b_join (fun (s2 : W) (j2 : Unit) => [some v_body, some s2, some (.v d1), j1.2]) rtL (sT_b (sB_cmp (sE_idx (sE_var rfl) sE_con) sE_con))
    (b_set (ltE rfl) (sE_bin (sE_var rfl) (sE_lst (ss_cons (sE_slc (sE_var rfl) sO_non (sO_som sE_con)) ss_nil))) fun v_found_2 =>
    (b_nil (b_endL ⟨(), rfl⟩)))
    (b_ife (sT_b (sB_cmp (sE_idx (sE_var rfl) sE_con) (sE_tup (ss_cons sE_con (ss_cons sE_con ss_nil)))))
    (b_set (ltE rfl) (sE_bin (sE_var rfl) (sE_lst (ss_cons (sE_var rfl) ss_nil))) fun v_found_3 =>
    (b_nil (b_nil (b_endL ⟨(), rfl⟩))))
    (b_nil (b_nil (b_endL ⟨(), rfl⟩)))) fun s2 j2 =>
    (b_for1 (fun (s3 : W) (j3 : Option W) => [some v_body, some s3, some (.v d1), j3]) (s0 := s2) (j0 := j1.2) (fun _ _ => ltE rfl) rtL (sI_val (sc1 (fun x0 => l_inner (n + m + 0) x0) (sE_var rfl))) (fun s3 j3 d2 =>
    (b_set (ltE rfl) (sE_bin (sE_var rfl) (sc1 (fun x0 => ih x0) (sE_var rfl))) fun v_found_4 =>
    (b_nil (b_endL ⟨(some (.v d2)), rfl⟩)))) fun s3 j3 =>
    (b_nil (b_endL ⟨((some (.v d1)), j3), rfl⟩))))) fun s1 j1 =>
    (b_retW (sE_var rfl))))
theorem l_steps (n : Nat) (v_program : W) : LeM (F_steps v_program) (ev Γ 100 (n + 48) 17 [v_program]) :=
  def_le (d := i_steps) (n := n + 47) rfl rfl (b_exp (sc1 (fun x0 => l_need_program (n + 0) x0) (sE_var rfl))
    (b_retW (sc1 (fun x0 => (l_steps_in (n + 6) 40) x0) (sE_idx (sE_var rfl) sE_con))))
theorem l__law_deck (n : Nat) (v_cell : W) (v_turn : W) : LeM (F__law_deck v_cell v_turn) (ev Γ 100 (n + 1) 18 [v_cell, v_turn]) :=
  def_le (d := i__law_deck) (n := n + 0) rfl rfl (b_ife (sT_b (sB_cmp (sE_var rfl) (sE_bin sE_con sE_con)))
    (b_retW (sE_cel (ss_cons (sE_bin (sE_var rfl) (sE_bin sE_con sE_con)) (ss_cons (sE_bin (sE_blt (ss_cons (sE_var rfl) ss_nil)) sE_con) (ss_cons (sE_var rfl) ss_nil)))))
    (b_nil (b_retW (sE_cel (ss_cons sE_con (ss_cons (sE_bin (sE_blt (ss_cons (sE_var rfl) ss_nil)) sE_con) (ss_cons (sE_var rfl) ss_nil)))))))
theorem l__law_pick (n : Nat) (v_deck : W) (v_limit : W) : LeM (F__law_pick v_deck v_limit) (ev Γ 100 (n + 1) 19 [v_deck, v_limit]) :=
  def_le (d := i__law_pick) (n := n + 0) rfl rfl (b_ife (sT_b (sB_cmp (sE_idx (sE_var rfl) sE_con) sE_con))
    (b_set (ltE rfl) (sE_bin (sE_blt (ss_cons (sE_idx (sE_var rfl) sE_con) ss_nil)) (sE_var rfl)) fun v_got =>
    (b_item (sE_bin (sE_idx (sE_var rfl) sE_con) (sE_var rfl)) (sE_var rfl) sE_con
    (b_retW (sE_var rfl))))
    (b_nil (b_item (sE_bin (sE_idx (sE_var rfl) sE_con) sE_con) (sE_var rfl) sE_con
    (b_set (ltE rfl) (sE_bin (sE_blt (ss_cons (sE_bin (sE_blt (ss_cons (sE_bin (sE_idx (sE_var rfl) sE_con) (sE_bin sE_con (sE_idx (sE_var rfl) sE_con))) ss_nil)) sE_con) ss_nil)) sE_con) fun v_number =>
    (b_set (ltE rfl) (sE_bin (sE_bin (sE_blt (ss_cons (sE_bin (sE_blt (ss_cons (sE_bin (sE_var rfl) (sE_bin sE_con (sE_idx (sE_var rfl) sE_con))) ss_nil)) sE_con) ss_nil)) sE_con) sE_con) fun v_got_2 =>
    (b_retW (sE_bin (sE_blt (ss_cons (sE_var rfl) ss_nil)) (sE_var rfl))))))))
theorem l__law_one (n : Nat) (v_deck : W) (v_items : W) : LeM (F__law_one v_deck v_items) (ev Γ 100 (n + 2) 20 [v_deck, v_items]) :=
  def_le (d := i__law_one) (n := n + 1) rfl rfl (b_retW (sE_idx (sE_var rfl) (sc2 (fun x0 x1 => l__law_pick (n + 0) x0 x1) (sE_var rfl) (sE_blt (ss_cons (sE_var rfl) ss_nil)))))
theorem l__law_head (n : Nat) (v_deck : W) : LeM (F__law_head v_deck) (ev Γ 100 (n + 3) 21 [v_deck]) :=
  def_le (d := i__law_head) (n := n + 2) rfl rfl (b_set (ltE rfl) (sE_slc (sE_lst (ss_cons sE_con (ss_cons sE_con (ss_cons sE_con (ss_cons sE_con ss_nil))))) (sO_som (sc2 (fun x0 x1 => l__law_pick (n + 1) x0 x1) (sE_var rfl) sE_con)) sO_non) fun v_pool =>
    (b_set (ltE rfl) (sE_blt (ss_cons (sE_blt (ss_cons (sE_slc (sE_var rfl) sO_non (sO_som (sE_bin sE_con (sc2 (fun x0 x1 => l__law_pick (n + 1) x0 x1) (sE_var rfl) sE_con)))) ss_nil)) ss_nil)) fun v_tables =>
    (b_par2 rfl (sE_cel (ss_cons sE_con (ss_cons sE_con (ss_cons sE_con (ss_cons sE_con (ss_cons sE_con (ss_cons sE_con ss_nil))))))) (sE_cel ss_nil) fun v_names v_found =>
    (b_for1 (fun (s1 : Unit) (j1 : Option W × Option W × Option W × Option W) => [some v_deck, some v_pool, some v_tables, some v_names, some v_found, j1.1, j1.2.1, j1.2.2.1, j1.2.2.2]) (s0 := ()) (j0 := (none, none, none, none)) (fun _ _ => ltE rfl) rtW (sI_rng (sE_bin sE_con (sc2 (fun x0 x1 => l__law_pick (n + 1) x0 x1) (sE_var rfl) sE_con))) (fun s1 j1 d1 =>
    (b_set (ltE rfl) (sE_pop (sE_var rfl) (sc2 (fun x0 x1 => l__law_pick (n + 1) x0 x1) (sE_var rfl) (sE_blt (ss_cons (sE_var rfl) ss_nil)))) fun v_name =>
    (b_set (ltE rfl) (sc2 (fun x0 x1 => l__law_one (n + 0) x0 x1) (sE_var rfl) (sE_lst (ss_cons (sE_var rfl) (ss_cons (sE_slc (sE_var rfl) sO_non (sO_som sE_con)) (ss_cons (sE_slc (sE_var rfl) (sO_som (sE_neg sE_con)) sO_non) (ss_cons (sE_slc (sE_var rfl) sO_non (sO_som sE_con)) ss_nil)))))) fun v_some =>
    (b_set (ltE rfl) (sc2 (fun x0 x1 => l__law_one (n + 0) x0 x1) (sE_var rfl) (sE_lst (ss_cons sE_con (ss_cons sE_con (ss_cons sE_con (ss_cons sE_con (ss_cons sE_con ss_nil))))))) fun v_kind =>
    (b_exp (sE_app (sE_var rfl) (sE_tup (ss_cons (sE_var rfl) (ss_cons (sE_var rfl) (ss_cons (sE_var rfl) (ss_cons (sE_b (sB_cmp (sc2 (fun x0 x1 => l__law_pick (n + 1) x0 x1) (sE_var rfl) sE_con) sE_con)) ss_nil))))))
    (b_nil (b_endL ⟨((some (.v d1)), (some v_name), (some v_some), (some v_kind)), rfl⟩))))))) fun s1 j1 =>
    (b_exp (sE_app (sE_var rfl) (sE_tup (ss_cons sE_con (ss_cons sE_con (ss_cons (sE_slc (sE_var rfl) sO_non (sO_som sE_con)) (ss_cons sE_con ss_nil))))))
    (b_retW (sE_tup (ss_cons (sE_var rfl) (ss_cons (sE_blt (ss_cons (sE_blt (ss_cons (sE_var rfl) ss_nil)) ss_nil)) ss_nil)))))))))
theorem l__law_list (n : Nat) (v_head : W) (v_name : W) : LeM (F__law_list v_head v_name) (ev Γ 100 (n + 1) 22 [v_head, v_name]) :=
  def_le (d := i__law_list) (n := n + 0) rfl rfl (b_set (ltE rfl) (sE_lc1 (ltE rfl) (sI_val (sE_idx (sE_var rfl) sE_con)) (fun d1 => (sOT_som (sT_b (sB_and (sT_b (sB_isi (sE_var rfl))) (sT_b (sB_cmp (sE_idx (sE_var rfl) sE_con) (sE_var rfl))))))) (fun d1 => (sE_var rfl))) fun v_found =>
    (b_retW (sE_ite (sT_b (sB_cmp (sE_var rfl) (sE_lst ss_nil))) (sE_idx (sE_var rfl) sE_con) sE_con)))
theorem l__law_source (n : Nat) (v_head : W) (v_source : W) : LeM (F__law_source v_head v_source) (ev Γ 100 (n + 2) 23 [v_head, v_source]) :=
  def_le (d := i__law_source) (n := n + 1) rfl rfl (b_ife (sT_b (sB_or (sT_b (sB_not (sT_b (sB_isi (sE_var rfl))))) (sT_b (sB_or (sT_b (sB_cmp (sE_blt (ss_cons (sE_var rfl) ss_nil)) sE_con)) (sT_b (sB_not (sT_b (sB_isi (sE_idx (sE_var rfl) sE_con)))))))))
    (b_retW sE_con)
    (b_nil (b_ife (sT_b (sB_cmp (sE_idx (sE_var rfl) sE_con) sE_con))
    (b_retW (sE_ite (sT_b (sB_cmp (sE_idx (sE_var rfl) sE_con) (sE_idx (sE_var rfl) sE_con))) (sE_tup (ss_cons sE_con (ss_cons (sE_tup (ss_cons (sE_idx (sE_var rfl) sE_con) ss_nil)) (ss_cons sE_con ss_nil)))) sE_con))
    (b_nil (b_set (ltE rfl) (sc2 (fun x0 x1 => l__law_list (n + 0) x0 x1) (sE_var rfl) (sE_idx (sE_var rfl) sE_con)) fun v_row =>
    (b_retW (sE_ite (sT_b (sB_and (sT_b (sB_cmp (sE_idx (sE_var rfl) sE_con) sE_con)) (sT_b (sB_cmp (sE_var rfl) sE_con)))) (sE_slc (sE_var rfl) (sO_som sE_con) sO_non) sE_con)))))))
theorem l__law_is_label (n : Nat) (v_value : W) : LeM (F__law_is_label v_value) (ev Γ 100 (n + 1) 25 [v_value]) :=
  def_le (d := i__law_is_label) (n := n + 0) rfl rfl (b_ife (sT_b (sB_or (sT_b (sB_not (sT_b (sB_isi (sE_var rfl))))) (sT_b (sB_not (sT_b (sB_chn sE_con (sE_blt (ss_cons (sE_var rfl) ss_nil)) sE_con))))))
    (b_retW sE_con)
    (b_nil (b_retW (sE_b (sB_cmp (sE_lc1 (ltE rfl) (sI_val (sE_var rfl)) (fun d1 => (sOT_som (sT_b (sB_cmp (sE_var rfl) sE_con)))) (fun d1 => (sE_var rfl))) (sE_lst ss_nil))))))
theorem l__law_with (n : Nat) (v_head : W) (v_state : W) (v_op : W) : LeM (F__law_with v_head v_state v_op) (ev Γ 100 (n + 2) 24 [v_head, v_state, v_op]) :=
  def_le (d := i__law_with) (n := n + 1) rfl rfl (b_un3 rfl (sE_var rfl) fun v_kind v_names v_is_long =>
    (b_ife (sT_b (sB_or (sT_b (sB_not (sT_b (sB_isi (sE_var rfl))))) (sT_b (sB_or (sT_b (sB_not (sT_b (sB_chn sE_con (sE_blt (ss_cons (sE_var rfl) ss_nil)) sE_con)))) (sT_b (sB_not (sT_b (sB_isi (sE_idx (sE_var rfl) sE_con)))))))))
    (b_retW sE_con)
    (b_nil (b_ife (sT_b (sB_and (sT_b (sB_cmp (sE_blt (ss_cons (sE_var rfl) ss_nil)) sE_con)) (sT_b (sB_cmp (sE_idx (sE_var rfl) sE_con) (sE_tup (ss_cons sE_con (ss_cons sE_con ss_nil)))))))
    (b_retW (sE_ite (sT_b (sB_cmp (sE_var rfl) sE_con)) (sE_tup (ss_cons (sE_idx (sE_var rfl) sE_con) (ss_cons (sE_var rfl) (ss_cons (sE_var rfl) ss_nil)))) sE_con))
    (b_nil (b_ife (sT_b (sB_cmp (sE_blt (ss_cons (sE_var rfl) ss_nil)) sE_con))
    (b_set (ltE rfl) (sE_dic (ss_cons sE_con (ss_cons sE_con (ss_cons sE_con ss_nil)))) fun v_bad =>
    (b_retW (sE_ite (sT_b (sB_and (sT_b (sB_cmp (sE_idx (sE_var rfl) sE_con) (sE_var rfl))) (sT_b (sB_cmp (sE_var rfl) (sE_idx (sE_var rfl) (sE_idx (sE_var rfl) sE_con)))))) (sE_var rfl) sE_con)))
    (b_nil (b_ife (sT_b (sB_cmp (sE_idx (sE_var rfl) sE_con) (sE_tup (ss_cons sE_con (ss_cons sE_con ss_nil)))))
    (b_set (ltE rfl) (sE_b (sB_and (sT_b (sB_isi (sE_idx (sE_var rfl) sE_con))) (sT_b (sB_and (sT_b (sB_not (sT_b (sB_isi (sE_idx (sE_var rfl) sE_con))))) (sT_b (sB_chn sE_con (sE_idx (sE_var rfl) sE_con) sE_con)))))) fun v_fine =>
    (b_retW (sE_ite (sT_e (sE_var rfl)) (sE_tup (ss_cons (sE_var rfl) (ss_cons (sE_var rfl) (ss_cons sE_con ss_nil)))) sE_con)))
    (b_nil (b_ife (sT_b (sB_or (sT_b (sB_and (sT_b (sB_cmp (sE_idx (sE_var rfl) sE_con) sE_con)) (sT_b (sB_cmp (sE_var rfl) sE_con)))) (sT_b (sB_and (sT_b (sB_cmp (sE_idx (sE_var rfl) sE_con) sE_con)) (sT_b (sB_cmp (sE_var rfl) sE_con))))))
    (b_retW (sE_ite (sT_e (sc1 (fun x0 => l__law_is_label (n + 0) x0) (sE_idx (sE_var rfl) sE_con))) (sE_var rfl) sE_con))
    (b_nil (b_set (ltE rfl) (sc2 (fun x0 x1 => l__law_list (n + 0) x0 x1) (sE_var rfl) (sE_idx (sE_var rfl) sE_con)) fun v_row =>
    (b_ife (sT_b (sB_or (sT_b (sB_cmp (sE_idx (sE_var rfl) sE_con) (sE_tup (ss_cons sE_con (ss_cons sE_con ss_nil))))) (sT_b (sB_or (sT_b (sB_cmp (sE_var rfl) sE_con)) (sT_b (sB_or (sT_b (sB_cmp (sE_var rfl) sE_con)) (sT_b (sB_or (sT_b (sB_cmp (sE_idx (sE_var rfl) sE_con) sE_con)) (sT_b (sB_not (sT_e (sE_idx (sE_var rfl) sE_con))))))))))))
    (b_retW sE_con)
    (b_nil (b_ife (sT_b (sB_cmp (sE_lc1 (ltE rfl) (sI_val (sE_idx (sE_var rfl) sE_con)) (fun d1 => (sOT_som (sT_b (sB_cmp (sE_var rfl) (sE_var rfl))))) (fun d1 => (sE_var rfl))) (sE_lst ss_nil)))
    (b_retW sE_con)
    (b_nil (b_retW (sE_tup (ss_cons (sE_var rfl) (ss_cons (sE_blt (ss_cons (sE_blt (ss_cons (sE_bin (sE_var rfl) (sE_idx (sE_var rfl) sE_con)) ss_nil)) ss_nil)) (ss_cons (sE_var rfl) ss_nil)))))))))))))))))))))
theorem l__law_shape (n : Nat) (v_head : W) (v_source : W) (v_ops : W) : LeM (F__law_shape v_head v_source v_ops) (ev Γ 100 (n + 3) 26 [v_head, v_source, v_ops]) :=
  def_le (d := i__law_shape) (n := n + 2) rfl rfl (b_set (ltE rfl) (sc2 (fun x0 x1 => l__law_source (n + 0) x0 x1) (sE_var rfl) (sE_var rfl)) fun v_state =>
    (b_for1 (fun (s1 : W) (j1 : Option W) => [some v_head, some v_source, some v_ops, some s1, j1]) (s0 := v_state) (j0 := none) (fun _ _ => ltE rfl) rtW (sI_val (sE_var rfl)) (fun s1 j1 d1 =>
    (b_ife (sT_b (sB_cmp (sE_var rfl) sE_con))
    (b_set (ltE rfl) (sc3 (fun x0 x1 x2 => l__law_with (n + 0) x0 x1 x2) (sE_var rfl) (sE_var rfl) (sE_var rfl)) fun v_state_2 =>
    (b_nil (b_nil (b_endL ⟨(some (.v d1)), rfl⟩))))
    (b_nil (b_nil (b_endL ⟨(some (.v d1)), rfl⟩))))) fun s1 j1 =>
    (b_retW (sE_var rfl))))
theorem l__law_op (n : Nat) (v_deck : W) (v_head : W) (v_state : W) : LeM (F__law_op v_deck v_head v_state) (ev Γ 100 (n + 3) 27 [v_deck, v_head, v_state]) :=
  def_le (d := i__law_op) (n := n + 2) rfl rfl (b_set (ltE rfl) (sc2 (fun x0 x1 => l__law_one (n + 0) x0 x1) (sE_var rfl) (sE_lst (ss_cons sE_con (ss_cons sE_con (ss_cons sE_con (ss_cons sE_con (ss_cons sE_con (ss_cons sE_con (ss_cons sE_con (ss_cons sE_con (ss_cons sE_con (ss_cons sE_con (ss_cons sE_con ss_nil))))))))))))) fun v_word =>
    (b_par2 rfl (sc2 (fun x0 x1 => l__law_one (n + 0) x0 x1) (sE_var rfl) (sE_lst (ss_cons sE_con (ss_cons sE_con (ss_cons sE_con (ss_cons (sE_bin sE_con (sc2 (fun x0 x1 => l__law_pick (n + 1) x0 x1) (sE_var rfl) sE_con)) ss_nil)))))) (sc2 (fun x0 x1 => l__law_one (n + 0) x0 x1) (sE_var rfl) (sE_lst (ss_cons sE_con (ss_cons sE_con ss_nil)))) fun v_number v_test =>
    (b_par2 rfl (sE_idx (sc2 (fun x0 x1 => l__law_one (n + 0) x0 x1) (sE_var rfl) (sE_idx (sE_var rfl) sE_con)) sE_con) (sE_dic (ss_cons (sE_tup (ss_cons (sE_var rfl) ss_nil)) (ss_cons (sE_tup (ss_cons (sE_var rfl) ss_nil)) (ss_cons (sE_tup (ss_cons (sE_var rfl) ss_nil)) (ss_cons (sE_tup (ss_cons (sE_var rfl) ss_nil)) ss_nil))))) fun v_other v_more =>
    (b_set (ltE rfl) (sE_bin (sE_tup (ss_cons (sE_var rfl) ss_nil)) (sE_get (sE_var rfl) (sE_var rfl) (sE_ite (sT_b (sB_cmp (sE_var rfl) (sE_tup (ss_cons sE_con (ss_cons sE_con ss_nil))))) (sE_tup (ss_cons (sE_var rfl) ss_nil)) (sE_tup ss_nil)))) fun v_op =>
    (b_retW (sE_ite (sT_b (sB_cmp (sc3 (fun x0 x1 x2 => l__law_with (n + 0) x0 x1 x2) (sE_var rfl) (sE_var rfl) (sE_var rfl)) sE_con)) (sE_var rfl) (sE_tup (ss_cons sE_con ss_nil))))))))
theorem l__law_view (n : Nat) (v_deck : W) (v_head : W) : LeM (F__law_view v_deck v_head) (ev Γ 100 (n + 4) 28 [v_deck, v_head]) :=
  def_le (d := i__law_view) (n := n + 3) rfl rfl (b_set (ltE rfl) (sc2 (fun x0 x1 => l__law_one (n + 1) x0 x1) (sE_var rfl) (sE_lst (ss_cons sE_con (ss_cons sE_con (ss_cons sE_con (ss_cons sE_con ss_nil)))))) fun v_how =>
    (b_for1 (fun (s1 : Unit) (j1 : Option W × Option W × Option W × Option W × Option W × Option W × Option W) => [some v_deck, some v_head, some v_how, j1.1, j1.2.1, j1.2.2.1, j1.2.2.2.1, j1.2.2.2.2.1, j1.2.2.2.2.2.1, j1.2.2.2.2.2.2, none]) (s0 := ()) (j0 := (none, none, none, none, none, none, none)) (fun _ _ => ltE rfl) rtW (sI_rng sE_con) (fun s1 j1 d1 =>
    (b_set (ltE rfl) (sc2 (fun x0 x1 => l__law_one (n + 1) x0 x1) (sE_var rfl) (sE_lst (ss_cons (sE_tup (ss_cons sE_con (ss_cons (sc2 (fun x0 x1 => l__law_one (n + 1) x0 x1) (sE_var rfl) (sE_idx (sE_var rfl) sE_con)) ss_nil))) (ss_cons (sE_tup (ss_cons sE_con (ss_cons (sE_idx (sc2 (fun x0 x1 => l__law_one (n + 1) x0 x1) (sE_var rfl) (sE_idx (sE_var rfl) sE_con)) sE_con) ss_nil))) ss_nil)))) fun v_source =>
    (b_pav2 rfl (sc2 (fun x0 x1 => l__law_source (n + 1) x0 x1) (sE_var rfl) (sE_var rfl)) (sE_tup ss_nil) fun v_state v_ops =>
    (b_for1 (fun (s2 : W × W) (j2 : Option W × Option W) => [some v_deck, some v_head, some v_how, some (.v d1), some v_source, some s2.1, some s2.2, j2.1, j2.2, j1.2.2.2.2.2.2, none]) (s0 := (v_state, v_ops)) (j0 := (j1.2.2.2.2.1, j1.2.2.2.2.2.1)) (fun _ _ => ltE rfl) rtL (sI_rng (sc2 (fun x0 x1 => l__law_one (n + 1) x0 x1) (sE_var rfl) (sE_lst (ss_cons sE_con (ss_cons sE_con (ss_cons sE_con (ss_cons sE_con (ss_cons sE_con (ss_cons sE_con ss_nil))))))))) (fun s2 j2 d2 =>
    (b_set (ltE rfl) (sc3 (fun x0 x1 x2 => l__law_op (n + 0) x0 x1 x2) (sE_var rfl) (sE_var rfl) (sE_var rfl)) fun v_op =>
    (b_pav2 rfl (sc3 (fun x0 x1 x2 => l__law_with (n + 1) x0 x1 x2) (sE_var rfl) (sE_var rfl) (sE_var rfl)) (sE_bin (sE_var rfl) (sE_tup (ss_cons (sE_var rfl) ss_nil))) fun v_state_2 v_ops_2 =>
    (b_nil (b_endL ⟨((some (.v d2)), (some v_op)), rfl⟩))))) fun s2 j2 =>
    (b_set (ltE rfl) (sE_lc1 (ltE rfl) (sI_val (sE_idx (sE_var rfl) sE_con)) (fun d3 => (sOT_som (sT_b (sB_and (sT_b (sB_cmp (sE_slc (sE_var rfl) (sO_som sE_con) (sO_som sE_con)) (sE_slc (sE_var rfl) sO_non (sO_som sE_con)))) (sT_b (sB_or (sT_e (sE_idx (sE_var rfl) sE_con)) (sT_b (sB_not (sT_e (sE_idx (sE_var rfl) sE_con)))))))))) (fun d3 => (sE_idx (sE_var rfl) sE_con))) fun v_fits =>
    (b_ife (sT_b (sB_cmp (sE_var rfl) (sE_lst ss_nil)))
    (b_ret rtL (sE_tup (ss_cons sE_con (ss_cons (sc2 (fun x0 x1 => l__law_one (n + 1) x0 x1) (sE_var rfl) (sE_var rfl)) (ss_cons (sE_var rfl) (ss_cons (sE_var rfl) (ss_cons (sE_var rfl) ss_nil)))))))
    (b_nil (b_nil (b_endL ⟨((some (.v d1)), (some v_source), (some s2.1), (some s2.2), j2.1, j2.2, (some v_fits)), rfl⟩))))))))) fun s1 j1 =>
    (b_retW (sE_tup (ss_cons sE_con (ss_cons sE_con (ss_cons (sE_var rfl) (ss_cons (sE_tup (ss_cons sE_con (ss_cons (sE_idx (sE_idx (sE_var rfl) sE_con) sE_con) ss_nil))) (ss_cons (sE_tup ss_nil) ss_nil)))))))))
theorem l__law_body (n : Nat) : ∀ m : Nat, (∀ v_deck v_head v_deep v_left : W, LeM (F__law_body m v_deck v_head v_deep v_left) (ev Γ 100 (n + m + 4) 29 [v_deck, v_head, v_deep, v_left])) := by
  intro m
  induction m with
  | zero => exact fun _ _ _ _ => bad_ev
  | succ m ih => exact fun v_deck v_head v_deep v_left => def_le (d := i__law_body) (n := n + m + 4) rfl rfl (b_par2 rfl (sE_cel ss_nil) (sE_lc1 (ltE rfl) (sI_val (sE_idx (sE_var rfl) sE_con)) (fun d1 => (sOT_som (sT_e (sE_idx (sE_var rfl) sE_con)))) (fun d1 => (sE_idx (sE_var rfl) sE_con))) fun v_items v_walks =>
    (b_for1 (fun (s1 : Unit) (j1 : Option W × Option W × Option W) => [some v_deck, some v_head, some v_deep, some v_left, some v_items, some v_walks, none, j1.1, j1.2.1, j1.2.2, none]) (s0 := ()) (j0 := (none, none, none)) (fun _ _ => ltE rfl) rtW (sI_rng (sE_bin sE_con (sc2 (fun x0 x1 => l__law_pick (n + m + 3) x0 x1) (sE_var rfl) sE_con))) (fun s1 j1 d2 =>
    (b_set (ltE rfl) (sc2 (fun x0 x1 => l__law_pick (n + m + 3) x0 x1) (sE_var rfl) sE_con) fun v_kind =>
    (b_item (sE_bin (sE_idx (sE_var rfl) sE_con) sE_con) (sE_var rfl) sE_con
    (b_ife (sT_b (sB_cmp (sE_idx (sE_var rfl) sE_con) sE_con))
    (b_ret rtL (sE_blt (ss_cons (sE_var rfl) ss_nil)))
    (b_nil (b_ife (sT_b (sB_cmp (sE_var rfl) sE_con))
    (b_exp (sE_app (sE_var rfl) (sc2 (fun x0 x1 => l__law_view (n + m + 0) x0 x1) (sE_var rfl) (sE_var rfl)))
    (b_nil (b_nil (b_endL ⟨((some (.v d2)), (some v_kind), j1.2.2), rfl⟩))))
    (b_ife (sT_b (sB_cmp (sE_var rfl) sE_con))
    (b_exp (sE_app (sE_var rfl) (sE_tup (ss_cons (sc2 (fun x0 x1 => l__law_one (n + m + 2) x0 x1) (sE_var rfl) (sE_lst (ss_cons sE_con (ss_cons sE_con (ss_cons sE_con (ss_cons sE_con ss_nil)))))) (ss_cons (sc2 (fun x0 x1 => l__law_one (n + m + 2) x0 x1) (sE_var rfl) (sE_idx (sE_var rfl) sE_con)) ss_nil))))
    (b_nil (b_nil (b_nil (b_endL ⟨((some (.v d2)), (some v_kind), j1.2.2), rfl⟩)))))
    (b_ife (sT_b (sB_or (sT_b (sB_cmp (sE_var rfl) sE_con)) (sT_b (sB_cmp (sE_var rfl) sE_con))))
    (b_exp (sE_app (sE_var rfl) (sE_tup (ss_cons sE_con (ss_cons (sE_idx (sc2 (fun x0 x1 => l__law_one (n + m + 2) x0 x1) (sE_var rfl) (sE_idx (sE_var rfl) sE_con)) sE_con) ss_nil))))
    (b_nil (b_nil (b_nil (b_nil (b_endL ⟨((some (.v d2)), (some v_kind), j1.2.2), rfl⟩))))))
    (b_ife (sT_b (sB_cmp (sE_var rfl) sE_con))
    (b_exp (sE_app (sE_var rfl) (sE_tup (ss_cons sE_con (ss_cons (sc2 (fun x0 x1 => l__law_one (n + m + 2) x0 x1) (sE_var rfl) (sE_var rfl)) (ss_cons (sc4 (fun x0 x1 x2 x3 => ih x0 x1 x2 x3) (sE_var rfl) (sE_var rfl) (sE_bin (sE_var rfl) sE_con) (sE_var rfl)) ss_nil)))))
    (b_nil (b_nil (b_nil (b_nil (b_nil (b_endL ⟨((some (.v d2)), (some v_kind), j1.2.2), rfl⟩)))))))
    (b_ife (sT_b (sB_cmp (sE_var rfl) sE_con))
    (b_exp (sE_app (sE_var rfl) (sE_tup (ss_cons sE_con (ss_cons (sc4 (fun x0 x1 x2 x3 => ih x0 x1 x2 x3) (sE_var rfl) (sE_var rfl) (sE_bin (sE_var rfl) sE_con) (sE_var rfl)) ss_nil))))
    (b_nil (b_nil (b_nil (b_nil (b_nil (b_nil (b_endL ⟨((some (.v d2)), (some v_kind), j1.2.2), rfl⟩))))))))
    (b_set (ltE rfl) (sE_lc1 (ltE rfl) (sI_rng (sE_bin sE_con (sc2 (fun x0 x1 => l__law_pick (n + m + 3) x0 x1) (sE_var rfl) sE_con))) (fun d3 => sOT_non) (fun d3 => (sc4 (fun x0 x1 x2 x3 => ih x0 x1 x2 x3) (sE_var rfl) (sE_var rfl) (sE_bin (sE_var rfl) sE_con) (sE_var rfl)))) fun v_some =>
    (b_item (sE_ite (sT_b (sB_cmp (sc2 (fun x0 x1 => l__law_pick (n + m + 3) x0 x1) (sE_var rfl) sE_con) sE_con)) (sE_idx (sE_var rfl) sE_con) (sE_tup ss_nil)) (sE_var rfl) sE_con
    (b_exp (sE_app (sE_var rfl) (sE_blt (ss_cons (sE_bin (sE_lst (ss_cons sE_con ss_nil)) (sE_var rfl)) ss_nil)))
    (b_nil (b_nil (b_nil (b_nil (b_nil (b_nil (b_endL ⟨((some (.v d2)), (some v_kind), (some v_some)), rfl⟩)))))))))))))))))))) fun s1 j1 =>
    (b_retW (sE_blt (ss_cons (sE_var rfl) ss_nil)))))
theorem l__law_program (n : Nat) (v_deck : W) (v_limit : W) : LeM (F__law_program v_deck v_limit) (ev Γ 100 (n + 45) 30 [v_deck, v_limit]) :=
  def_le (d := i__law_program) (n := n + 44) rfl rfl (b_par3 rfl (sc1 (fun x0 => l__law_head (n + 41) x0) (sE_var rfl)) (sE_cel (ss_cons (sE_var rfl) ss_nil)) (sE_tup ss_nil) fun v_head v_left v_body =>
    (b_whl (fun (s1 : W) (j1 : Unit) => [some v_deck, some v_limit, some v_head, some v_left, some s1]) (s0 := v_body) (j0 := ()) rtW (fun s1 j1 => (sT_b (sB_and (sT_b (sB_cmp (sE_blt (ss_cons (sE_var rfl) ss_nil)) sE_con)) (sT_b (sB_cmp (sE_idx (sE_var rfl) sE_con) sE_con))))) (fun s1 j1 =>
    (b_set (ltE rfl) (sE_bin (sE_var rfl) (sc4 (fun x0 x1 x2 x3 => (l__law_body (n + 0) 40) x0 x1 x2 x3) (sE_var rfl) (sE_var rfl) (sc2 (fun x0 x1 => l__law_pick (n + 43) x0 x1) (sE_var rfl) sE_con) (sE_var rfl))) fun v_body_2 =>
    (b_nil (b_endL ⟨(), rfl⟩)))) fun s1 j1 =>
    (b_retW (sE_bin (sE_var rfl) (sE_tup (ss_cons (sE_var rfl) ss_nil))))))
theorem l__law_inner (n : Nat) (v_item : W) : LeM (F__law_inner v_item) (ev Γ 100 (n + 1) 31 [v_item]) :=
  def_le (d := i__law_inner) (n := n + 0) rfl rfl (b_ife (sT_b (sB_cmp (sE_idx (sE_var rfl) sE_con) sE_con))
    (b_retW (sE_slc (sE_var rfl) (sO_som sE_con) sO_non))
    (b_nil (b_retW (sE_ite (sT_b (sB_cmp (sE_idx (sE_var rfl) sE_con) (sE_tup (ss_cons sE_con (ss_cons sE_con ss_nil))))) (sE_slc (sE_var rfl) (sO_som sE_con) sO_non) (sE_tup ss_nil)))))
theorem l__law_rows (n : Nat) : ∀ m : Nat, (∀ v_body v_at : W, LeM (F__law_rows m v_body v_at) (ev Γ 100 (n + m + 1) 32 [v_body, v_at])) := by
  intro m
  induction m with
  | zero => exact fun _ _ => bad_ev
  | succ m ih => exact fun v_body v_at => def_le (d := i__law_rows) (n := n + m + 1) rfl rfl (b_set (ltE rfl) (sE_cel ss_nil) fun v_rows =>
    (b_for1 (fun (s1 : Unit) (j1 : Option W × Option W) => [some v_body, some v_at, some v_rows, j1.1, j1.2, none]) (s0 := ()) (j0 := (none, none)) (fun _ _ => ltE rfl) rtW (sI_val (sE_var rfl)) (fun s1 j1 d1 =>
    (b_set (ltE rfl) (sE_idx (sE_var rfl) sE_con) fun v_number =>
    (b_join (fun (s2 : Unit) (j2 : Unit) => [some v_body, some v_at, some v_rows, some (.v d1), some v_number, none]) rtL (sT_b (sB_cmp (sE_idx (sE_var rfl) sE_con) (sE_tup (ss_cons sE_con (ss_cons sE_con ss_nil)))))
    (b_item (sE_bin (sE_idx (sE_var rfl) sE_con) sE_con) (sE_var rfl) sE_con
    (b_nil (b_endL ⟨(), rfl⟩)))
    (b_nil (b_endL ⟨(), rfl⟩)) fun s2 j2 =>
    (b_exp (sE_app (sE_var rfl) (sE_tup (ss_cons (sE_idx (sE_var rfl) sE_con) (ss_cons (sE_var rfl) (ss_cons (sE_var rfl) (ss_cons (sE_lc1 (ltE rfl) (sI_val (sc1 (fun x0 => l__law_inner (n + m + 0) x0) (sE_var rfl))) (fun d2 => sOT_non) (fun d2 => (sc2 (fun x0 x1 => ih x0 x1) (sE_var rfl) (sE_var rfl)))) ss_nil))))))
    (b_nil (b_endL ⟨((some (.v d1)), (some v_number)), rfl⟩)))))) fun s1 j1 =>
    (b_retW (sE_frz (sE_var rfl)))))
theorem l__law_steps (n : Nat) : ∀ m : Nat, (∀ v_rows : W, LeM (F__law_steps m v_rows) (ev Γ 100 (n + m + 0) 33 [v_rows])) := by
  intro m
  induction m with
  | zero => exact fun _ => bad_ev
  | succ m ih => exact fun v_rows => def_le (d := i__law_steps) (n := n + m + 0) rfl rfl (b_set (ltE rfl) (sE_cel ss_nil) fun v_found =>
    (b_for4 (fun (s1 : W) (j1 : Option W × Option W × Option W × Option W × Option W) => [some v_rows, some s1, j1.1, j1.2.1, j1.2.2.1, j1.2.2.2.1, j1.2.2.2.2]) (s0 := v_found) (j0 := (none, none, none, none, none)) (fun _ _ => rfl) rtW (sI_val (sE_var rfl)) (fun s1 j1 d1 d2 d3 d4 =>
    (b_join (fun (s2 : Unit) (j2 : Unit) => [some v_rows, some s1, some (.v d1), some (.v d2), some (.v d3), some (.v d4), j1.2.2.2.2]) rtL (sT_b (sB_cmp (sE_var rfl) (sE_tup (ss_cons sE_con (ss_cons sE_con ss_nil)))))
    (b_exp (sE_app (sE_var rfl) (sE_ite (sT_b (sB_cmp (sE_var rfl) sE_con)) (sE_slc (sE_var rfl) sO_non (sO_som sE_con)) (sE_var rfl)))
    (b_nil (b_endL ⟨(), rfl⟩)))
    (b_nil (b_endL ⟨(), rfl⟩)) fun s2 j2 =>
    (b_for1 (fun (s3 : W) (j3 : Option W) => [some v_rows, some s3, some (.v d1), some (.v d2), some (.v d3), some (.v d4), j3]) (s0 := s1) (j0 := j1.2.2.2.2) (fun _ _ => ltE rfl) rtL (sI_val (sE_var rfl)) (fun s3 j3 d5 =>
    (b_set (ltE rfl) (sE_cad (sE_var rfl) (sc1 (fun x0 => ih x0) (sE_var rfl))) fun v_found_2 =>
    (b_nil (b_endL ⟨(some (.v d5)), rfl⟩)))) fun s3 j3 =>
    (b_nil (b_endL ⟨((some (.v d1)), (some (.v d2)), (some (.v d3)), (some (.v d4)), j3), rfl⟩))))) fun s1 j1 =>
    (b_retW (sE_frz (sE_var rfl)))))
theorem l__law_labels (n : Nat) (v_value : W) (v_least : W) (v_most : W) : LeM (F__law_labels v_value v_least v_most) (ev Γ 100 (n + 2) 34 [v_value, v_least, v_most]) :=
  def_le (d := i__law_labels) (n := n + 1) rfl rfl (b_ife (sT_b (sB_or (sT_b (sB_not (sT_b (sB_isi (sE_var rfl))))) (sT_b (sB_not (sT_b (sB_chn (sE_var rfl) (sE_blt (ss_cons (sE_var rfl) ss_nil)) (sE_var rfl)))))))
    (b_retW sE_con)
    (b_nil (b_ife (sT_b (sB_cmp (sE_lc1 (ltE rfl) (sI_val (sE_var rfl)) (fun d1 => (sOT_som (sT_b (sB_not (sT_e (sc1 (fun x0 => l__law_is_label (n + 0) x0) (sE_var rfl))))))) (fun d1 => (sE_var rfl))) (sE_lst ss_nil)))
    (b_retW sE_con)
    (b_nil (b_retW (sE_b (sB_cmp (sE_lc1 (ltE rfl) (sI_rng2 sE_con (sE_blt (ss_cons (sE_var rfl) ss_nil))) (fun d2 => (sOT_som (sT_b (sB_cmp (sE_idx (sE_var rfl) (sE_bin (sE_var rfl) sE_con)) (sE_idx (sE_var rfl) (sE_var rfl)))))) (fun d2 => (sE_var rfl))) (sE_lst ss_nil))))))))
theorem l__law_is_head (n : Nat) (v_tables : W) (v_lists : W) : LeM (F__law_is_head v_tables v_lists) (ev Γ 100 (n + 3) 35 [v_tables, v_lists]) :=
  def_le (d := i__law_is_head) (n := n + 2) rfl rfl (b_ife (sT_b (sB_or (sT_b (sB_not (sT_e (sc3 (fun x0 x1 x2 => l__law_labels (n + 0) x0 x1 x2) (sE_var rfl) sE_con sE_con)))) (sT_b (sB_or (sT_b (sB_not (sT_b (sB_isi (sE_var rfl))))) (sT_b (sB_not (sT_b (sB_chn sE_con (sE_blt (ss_cons (sE_var rfl) ss_nil)) sE_con))))))))
    (b_retW sE_con)
    (b_nil (b_for1 (fun (s1 : Unit) (j1 : Option W) => [some v_tables, some v_lists, j1, none, none]) (s0 := ()) (j0 := none) (fun _ _ => ltE rfl) rtW (sI_val (sE_var rfl)) (fun s1 j1 d1 =>
    (b_ife (sT_b (sB_or (sT_b (sB_not (sT_b (sB_isi (sE_var rfl))))) (sT_b (sB_or (sT_b (sB_cmp (sE_blt (ss_cons (sE_var rfl) ss_nil)) sE_con)) (sT_b (sB_or (sT_b (sB_not (sT_e (sc1 (fun x0 => l__law_is_label (n + 1) x0) (sE_idx (sE_var rfl) sE_con))))) (sT_b (sB_cmp (sE_idx (sE_var rfl) sE_con) (sE_var rfl)))))))))
    (b_ret rtL sE_con)
    (b_nil (b_ife (sT_b (sB_or (sT_b (sB_not (sT_b (sB_isi (sE_idx (sE_var rfl) sE_con))))) (sT_b (sB_or (sT_b (sB_cmp (sE_idx (sE_var rfl) sE_con) (sE_tup (ss_cons sE_con (ss_cons sE_con (ss_cons sE_con ss_nil)))))) (sT_b (sB_not (sT_b (sB_isi (sE_idx (sE_var rfl) sE_con)))))))))
    (b_ret rtL sE_con)
    (b_nil (b_ife (sT_b (sB_or (sT_b (sB_not (sT_e (sc3 (fun x0 x1 x2 => l__law_labels (n + 0) x0 x1 x2) (sE_idx (sE_var rfl) sE_con) sE_con sE_con)))) (sT_b (sB_cmp (sE_lc1 (ltE rfl) (sI_val (sE_idx (sE_var rfl) sE_con)) (fun d2 => (sOT_som (sT_b (sB_cmp (sE_var rfl) (sE_var rfl))))) (fun d2 => (sE_var rfl))) (sE_lst ss_nil)))))
    (b_ret rtL sE_con)
    (b_nil (b_nil (b_endL ⟨(some (.v d1)), rfl⟩))))))))) fun s1 j1 =>
    (b_retW (sE_b (sB_cmp (sE_lc1 (ltE rfl) (sI_rng2 sE_con (sE_blt (ss_cons (sE_var rfl) ss_nil))) (fun d3 => (sOT_som (sT_b (sB_cmp (sE_idx (sE_idx (sE_var rfl) (sE_bin (sE_var rfl) sE_con)) sE_con) (sE_idx (sE_idx (sE_var rfl) (sE_var rfl)) sE_con))))) (fun d3 => (sE_var rfl))) (sE_lst ss_nil)))))))
theorem l__law_is_simple (n : Nat) (v_head : W) (v_item : W) : LeM (F__law_is_simple v_head v_item) (ev Γ 100 (n + 4) 36 [v_head, v_item]) :=
  def_le (d := i__law_is_simple) (n := n + 3) rfl rfl (b_ife (sT_b (sB_cmp (sE_idx (sE_var rfl) sE_con) sE_con))
    (b_ife (sT_b (sB_or (sT_b (sB_cmp (sE_blt (ss_cons (sE_var rfl) ss_nil)) sE_con)) (sT_b (sB_or (sT_b (sB_not (sT_b (sB_isi (sE_idx (sE_var rfl) sE_con))))) (sT_b (sB_cmp (sE_idx (sE_var rfl) sE_con) (sE_tup (ss_cons sE_con (ss_cons sE_con ss_nil)))))))))
    (b_retW sE_con)
    (b_nil (b_set (ltE rfl) (sc2 (fun x0 x1 => l__law_list (n + 2) x0 x1) (sE_var rfl) (sE_idx (sE_var rfl) sE_con)) fun v_row =>
    (b_ife (sT_b (sB_or (sT_b (sB_cmp (sE_var rfl) sE_con)) (sT_b (sB_or (sT_b (sB_not (sT_b (sB_isi (sE_idx (sE_var rfl) sE_con))))) (sT_b (sB_cmp (sE_blt (ss_cons (sE_idx (sE_var rfl) sE_con) ss_nil)) sE_con))))))
    (b_retW sE_con)
    (b_nil (b_set (ltE rfl) (sc3 (fun x0 x1 x2 => l__law_shape (n + 0) x0 x1 x2) (sE_var rfl) (sE_idx (sE_var rfl) sE_con) (sE_idx (sE_var rfl) sE_con)) fun v_state =>
    (b_retW (sE_b (sB_and (sT_b (sB_cmp (sE_var rfl) sE_con)) (sT_b (sB_and (sT_b (sB_cmp (sE_slc (sE_var rfl) sO_non (sO_som sE_con)) (sE_slc (sE_var rfl) (sO_som sE_con) (sO_som sE_con)))) (sT_b (sB_or (sT_e (sE_idx (sE_var rfl) sE_con)) (sT_b (sB_not (sT_e (sE_idx (sE_var rfl) sE_con)))))))))))))))))
    (b_nil (b_ife (sT_b (sB_or (sT_b (sB_cmp (sE_blt (ss_cons (sE_var rfl) ss_nil)) sE_con)) (sT_b (sB_not (sT_b (sB_isi (sE_idx (sE_var rfl) sE_con)))))))
    (b_retW sE_con)
    (b_nil (b_ife (sT_b (sB_cmp (sE_idx (sE_var rfl) sE_con) (sE_tup (ss_cons sE_con (ss_cons sE_con (ss_cons sE_con (ss_cons sE_con ss_nil)))))))
    (b_retW (sE_b (sB_cmp (sE_idx (sE_var rfl) sE_con) (sE_idx (sE_var rfl) sE_con))))
    (b_nil (b_retW (sE_b (sB_and (sT_b (sB_cmp (sE_idx (sE_var rfl) sE_con) sE_con)) (sT_b (sB_cmp (sc2 (fun x0 x1 => l__law_list (n + 2) x0 x1) (sE_var rfl) (sE_idx (sE_var rfl) sE_con)) sE_con)))))))))))
theorem l__law_size (n : Nat) : ∀ m : Nat, (∀ v_head v_body v_deep : W, LeM (F__law_size m v_head v_body v_deep) (ev Γ 100 (n + m + 4) 37 [v_head, v_body, v_deep])) := by
  intro m
  induction m with
  | zero => exact fun _ _ _ => bad_ev
  | succ m ih => exact fun v_head v_body v_deep => def_le (d := i__law_size) (n := n + m + 4) rfl rfl (b_ife (sT_b (sB_or (sT_b (sB_not (sT_b (sB_isi (sE_var rfl))))) (sT_b (sB_cmp (sE_var rfl) sE_con))))
    (b_retW sE_con)
    (b_nil (b_pav2 rfl sE_con sE_con fun v_many v_items =>
    (b_for1 (fun (s1 : W × W) (j1 : Option W × Option W × Option W × Option W × Option W) => [some v_head, some v_body, some v_deep, some s1.1, some s1.2, j1.1, j1.2.1, j1.2.2.1, j1.2.2.2.1, j1.2.2.2.2]) (s0 := (v_many, v_items)) (j0 := (none, none, none, none, none)) (fun _ _ => ltE rfl) rtW (sI_val (sE_var rfl)) (fun s1 j1 d1 =>
    (b_ife (sT_b (sB_or (sT_b (sB_not (sT_b (sB_isi (sE_var rfl))))) (sT_b (sB_or (sT_b (sB_cmp (sE_var rfl) (sE_tup ss_nil))) (sT_b (sB_not (sT_b (sB_isi (sE_idx (sE_var rfl) sE_con)))))))))
    (b_ret rtL sE_con)
    (b_nil (b_set (ltE rfl) (sE_tup ss_nil) fun v_parts =>
    (b_join (fun (s2 : W) (j2 : Option W) => [some v_head, some v_body, some v_deep, some s1.1, some s1.2, some (.v d1), some s2, j2, j1.2.2.2.1, j1.2.2.2.2]) rtL (sT_b (sB_cmp (sE_idx (sE_var rfl) sE_con) (sE_tup (ss_cons sE_con (ss_cons sE_con (ss_cons sE_con ss_nil))))))
    (b_set (ltE rfl) (sE_ite (sT_b (sB_cmp (sE_idx (sE_var rfl) sE_con) sE_con)) (sE_slc (sE_var rfl) (sO_som sE_con) sO_non) (sE_slc (sE_var rfl) (sO_som sE_con) sO_non)) fun v_parts_2 =>
    (b_set (ltE rfl) (sE_ite (sT_b (sB_and (sT_b (sB_cmp (sE_idx (sE_var rfl) sE_con) sE_con)) (sT_b (sB_cmp (sE_blt (ss_cons (sE_var rfl) ss_nil)) sE_con)))) (sc2 (fun x0 x1 => l__law_list (n + m + 3) x0 x1) (sE_var rfl) (sE_idx (sE_var rfl) sE_con)) sE_con) fun v_row =>
    (b_ife (sT_b (sB_and (sT_b (sB_cmp (sE_idx (sE_var rfl) sE_con) sE_con)) (sT_b (sB_or (sT_b (sB_cmp (sE_var rfl) sE_con)) (sT_b (sB_not (sT_e (sE_idx (sE_var rfl) sE_con))))))))
    (b_ret rtL sE_con)
    (b_nil (b_ife (sT_b (sB_or (sT_b (sB_cmp (sE_blt (ss_cons (sE_var rfl) ss_nil)) sE_con)) (sT_b (sB_or (sT_b (sB_cmp (sE_blt (ss_cons (sE_var rfl) ss_nil)) sE_con)) (sT_b (sB_cmp (sE_b (sB_cmp (sE_idx (sE_var rfl) sE_con) sE_con)) (sE_b (sB_cmp (sE_blt (ss_cons (sE_var rfl) ss_nil)) sE_con))))))))
    (b_ret rtL sE_con)
    (b_nil (b_nil (b_endL ⟨(some v_row), rfl⟩))))))))
    (b_ife (sT_b (sB_not (sT_e (sc2 (fun x0 x1 => l__law_is_simple (n + m + 0) x0 x1) (sE_var rfl) (sE_var rfl)))))
    (b_ret rtL sE_con)
    (b_nil (b_nil (b_endL ⟨j1.2.2.1, rfl⟩)))) fun s2 j2 =>
    (b_par2 rfl (sE_bin (sE_var rfl) (sE_blt (ss_cons (sE_b (sB_cmp (sE_idx (sE_var rfl) sE_con) (sE_tup (ss_cons sE_con (ss_cons sE_con ss_nil))))) ss_nil))) (sE_bin (sE_var rfl) sE_con) fun v_many_2 v_items_2 =>
    (b_for1 (fun (s3 : W × W) (j3 : Option W × Option W) => [some v_head, some v_body, some v_deep, some s3.1, some s3.2, some (.v d1), some s2, j2, j3.1, j3.2]) (s0 := (v_many_2, v_items_2)) (j0 := (j1.2.2.2.1, j1.2.2.2.2)) (fun _ _ => ltE rfl) rtL (sI_val (sE_var rfl)) (fun s3 j3 d2 =>
    (b_set (ltE rfl) (sc3 (fun x0 x1 x2 => ih x0 x1 x2) (sE_var rfl) (sE_var rfl) (sE_bin (sE_var rfl) sE_con)) fun v_within =>
    (b_ife (sT_b (sB_cmp (sE_var rfl) sE_con))
    (b_ret rtL sE_con)
    (b_nil (b_par2 rfl (sE_bin (sE_var rfl) (sE_idx (sE_var rfl) sE_con)) (sE_bin (sE_var rfl) (sE_idx (sE_var rfl) sE_con)) fun v_many_3 v_items_3 =>
    (b_nil (b_endL ⟨((some (.v d2)), (some v_within)), rfl⟩))))))) fun s3 j3 =>
    (b_nil (b_endL ⟨((some (.v d1)), (some s2), j2, j3.1, j3.2), rfl⟩))))))))) fun s1 j1 =>
    (b_retW (sE_tup (ss_cons (sE_var rfl) (ss_cons (sE_var rfl) ss_nil))))))))
theorem l__law_is_program (n : Nat) (v_value : W) : LeM (F__law_is_program v_value) (ev Γ 100 (n + 45) 38 [v_value]) :=
  def_le (d := i__law_is_program) (n := n + 44) rfl rfl (b_ife (sT_b (sB_or (sT_b (sB_not (sT_b (sB_isi (sE_var rfl))))) (sT_b (sB_or (sT_b (sB_cmp (sE_blt (ss_cons (sE_var rfl) ss_nil)) sE_con)) (sT_b (sB_not (sT_e (sc2 (fun x0 x1 => l__law_is_head (n + 41) x0 x1) (sE_idx (sE_var rfl) sE_con) (sE_idx (sE_var rfl) sE_con)))))))))
    (b_retW sE_con)
    (b_nil (b_set (ltE rfl) (sc3 (fun x0 x1 x2 => (l__law_size (n + 0) 40) x0 x1 x2) (sE_slc (sE_var rfl) sO_non (sO_som sE_con)) (sE_idx (sE_var rfl) sE_con) sE_con) fun v_found =>
    (b_retW (sE_b (sB_and (sT_b (sB_cmp (sE_var rfl) sE_con)) (sT_b (sB_and (sT_b (sB_cmp (sE_idx (sE_var rfl) sE_con) sE_con)) (sT_b (sB_cmp (sE_idx (sE_var rfl) sE_con) sE_con))))))))))
theorem l__law_odd (n : Nat) (v_deck : W) : LeM (F__law_odd v_deck) (ev Γ 100 (n + 3) 39 [v_deck]) :=
  def_le (d := i__law_odd) (n := n + 2) rfl rfl (b_set (ltE rfl) (sE_lst (ss_cons sE_con (ss_cons sE_con (ss_cons sE_con (ss_cons sE_con (ss_cons sE_con (ss_cons sE_con (ss_cons sE_con (ss_cons (sE_neg sE_con) (ss_cons (sE_bin sE_con sE_con) (ss_cons sE_con (ss_cons sE_con (ss_cons sE_con (ss_cons sE_con (ss_cons sE_con (ss_cons sE_con (ss_cons sE_con (ss_cons sE_con (ss_cons sE_con ss_nil))))))))))))))))))) fun v_some =>
    (b_set (ltE rfl) (sE_bin (sE_var rfl) (sE_lst (ss_cons sE_con (ss_cons sE_con (ss_cons sE_con (ss_cons sE_con (ss_cons sE_con (ss_cons sE_con (ss_cons sE_con (ss_cons sE_con (ss_cons sE_con (ss_cons sE_con (ss_cons sE_con (ss_cons (sE_tup ss_nil) (ss_cons (sE_lst ss_nil) ss_nil))))))))))))))) fun v_some_2 =>
    (b_set (ltE rfl) (sE_bin (sE_var rfl) (sE_lst (ss_cons (sE_tup (ss_cons sE_con ss_nil)) (ss_cons (sE_tup (ss_cons sE_con ss_nil)) (ss_cons (sE_tup (ss_cons sE_con (ss_cons sE_con ss_nil))) (ss_cons (sE_tup (ss_cons sE_con (ss_cons sE_con ss_nil))) (ss_cons (sE_tup (ss_cons sE_con (ss_cons sE_con ss_nil))) (ss_cons (sE_tup (ss_cons sE_con ss_nil)) ss_nil)))))))) fun v_some_3 =>
    (b_retW (sc2 (fun x0 x1 => l__law_one (n + 0) x0 x1) (sE_var rfl) (sE_bin (sE_var rfl) (sE_lst (ss_cons (sE_tup (ss_cons sE_con (ss_cons (sE_tup ss_nil) ss_nil))) ss_nil))))))))
theorem l__law_bent (n : Nat) : ∀ m : Nat, (∀ v_deck v_value : W, LeM (F__law_bent m v_deck v_value) (ev Γ 100 (n + m + 3) 40 [v_deck, v_value])) := by
  intro m
  induction m with
  | zero => exact fun _ _ => bad_ev
  | succ m ih => exact fun v_deck v_value => def_le (d := i__law_bent) (n := n + m + 3) rfl rfl (b_ife (sT_b (sB_or (sT_b (sB_not (sT_b (sB_isi (sE_var rfl))))) (sT_b (sB_or (sT_b (sB_cmp (sE_var rfl) (sE_tup ss_nil))) (sT_b (sB_cmp (sc2 (fun x0 x1 => l__law_pick (n + m + 2) x0 x1) (sE_var rfl) sE_con) sE_con))))))
    (b_ife (sT_b (sB_and (sT_b (sB_isi (sE_var rfl))) (sT_b (sB_cmp (sc2 (fun x0 x1 => l__law_pick (n + m + 2) x0 x1) (sE_var rfl) sE_con) sE_con))))
    (b_retW (sE_bin (sE_var rfl) (sc2 (fun x0 x1 => l__law_one (n + m + 1) x0 x1) (sE_var rfl) (sE_lst (ss_cons sE_con (ss_cons (sE_neg sE_con) (ss_cons sE_con ss_nil)))))))
    (b_nil (b_retW (sc1 (fun x0 => l__law_odd (n + m + 0) x0) (sE_var rfl)))))
    (b_nil (b_par2 rfl (sc2 (fun x0 x1 => l__law_pick (n + m + 2) x0 x1) (sE_var rfl) (sE_blt (ss_cons (sE_var rfl) ss_nil))) (sc2 (fun x0 x1 => l__law_pick (n + m + 2) x0 x1) (sE_var rfl) sE_con) fun v_at v_way =>
    (b_ife (sT_b (sB_cmp (sE_var rfl) sE_con))
    (b_retW (sE_bin (sE_slc (sE_var rfl) sO_non (sO_som (sE_var rfl))) (sE_slc (sE_var rfl) (sO_som (sE_bin (sE_var rfl) sE_con)) sO_non)))
    (b_nil (b_ife (sT_b (sB_cmp (sE_var rfl) sE_con))
    (b_retW (sE_bin (sE_slc (sE_var rfl) sO_non (sO_som (sE_bin (sE_var rfl) sE_con))) (sE_slc (sE_var rfl) (sO_som (sE_var rfl)) sO_non)))
    (b_nil (b_ife (sT_b (sB_cmp (sE_var rfl) sE_con))
    (b_retW (sE_bin (sE_bin (sE_slc (sE_var rfl) sO_non (sO_som (sE_var rfl))) (sE_tup (ss_cons (sc1 (fun x0 => l__law_odd (n + m + 0) x0) (sE_var rfl)) ss_nil))) (sE_slc (sE_var rfl) (sO_som (sE_var rfl)) sO_non)))
    (b_nil (b_ife (sT_b (sB_cmp (sE_var rfl) sE_con))
    (b_retW (sE_blt (ss_cons (sE_var rfl) ss_nil)))
    (b_nil (b_ife (sT_b (sB_cmp (sE_var rfl) sE_con))
    (b_retW (sE_bin (sE_slc (sE_var rfl) (sO_som (sE_var rfl)) sO_non) (sE_slc (sE_var rfl) sO_non (sO_som (sE_var rfl)))))
    (b_nil (b_retW (sE_bin (sE_bin (sE_slc (sE_var rfl) sO_non (sO_som (sE_var rfl))) (sE_tup (ss_cons (sc2 (fun x0 x1 => ih x0 x1) (sE_var rfl) (sE_idx (sE_var rfl) (sE_var rfl))) ss_nil))) (sE_slc (sE_var rfl) (sO_som (sE_bin (sE_var rfl) sE_con)) sO_non))))))))))))))))
theorem l__law_told (n : Nat) (v_value : W) : LeM (F__law_told v_value) (ev Γ 100 (n + 47) 41 [v_value]) :=
  def_le (d := i__law_told) (n := n + 46) rfl rfl (b_set (ltE rfl) (sc1 (fun x0 => l_is_program (n + 0) x0) (sE_var rfl)) fun v_said =>
    (b_retW (sE_b (sB_and (sT_b (sB_isi (sE_var rfl))) (sT_b (sB_cmp (sE_var rfl) (sc1 (fun x0 => l__law_is_program (n + 1) x0) (sE_var rfl))))))))
theorem l_law_k01 (n : Nat) (v_script : W) : LeM (F_law_k01 v_script) (ev Γ 100 (n + 49) 42 [v_script]) :=
  def_le (d := i_law) (n := n + 48) rfl rfl (b_for1 (fun (s1 : Unit) (j1 : Option W × Option W × Option W × Option W × Option W × Option W) => [some v_script, j1.1, j1.2.1, j1.2.2.1, j1.2.2.2.1, j1.2.2.2.2.1, j1.2.2.2.2.2, none, none, none, none, none, none, none]) (s0 := ()) (j0 := (none, none, none, none, none, none)) (fun _ _ => ltE rfl) rtW (sI_val (sE_slc (sE_bin (sE_lst (ss_cons sE_con ss_nil)) (sE_var rfl)) sO_non (sO_som sE_con))) (fun s1 j1 d1 =>
    (b_set (ltE rfl) (sc2 (fun x0 x1 => l__law_deck (n + 47) x0 x1) (sE_var rfl) sE_con) fun v_deck =>
    (b_set (ltE rfl) (sc2 (fun x0 x1 => l__law_program (n + 3) x0 x1) (sE_var rfl) sE_con) fun v_program =>
    (b_ife (sT_b (sB_or (sT_b (sB_cmp (sc1 (fun x0 => l_is_program (n + 2) x0) (sE_var rfl)) sE_con)) (sT_b (sB_cmp (sc1 (fun x0 => l_steps (n + 0) x0) (sE_var rfl)) (sc1 (fun x0 => (l__law_steps (n + 8) 40) x0) (sc2 (fun x0 x1 => (l__law_rows (n + 7) 40) x0 x1) (sE_idx (sE_var rfl) sE_con) (sE_cel (ss_cons sE_con ss_nil))))))))
    (b_ret rtL sE_con)
    (b_nil (b_for1 (fun (s2 : Unit) (j2 : Option W × Option W × Option W) => [some v_script, some (.v d1), some v_deck, some v_program, j2.1, j2.2.1, j2.2.2, none, none, none, none, none, none, none]) (s0 := ()) (j0 := (j1.2.2.2.1, j1.2.2.2.2.1, j1.2.2.2.2.2)) (fun _ _ => ltE rfl) rtL (sI_rng sE_con) (fun s2 j2 d2 =>
    (b_set (ltE rfl) (sE_var rfl) fun v_value =>
    (b_for1 (fun (s3 : W) (j3 : Option W) => [some v_script, some (.v d1), some v_deck, some v_program, some (.v d2), some s3, j3, none, none, none, none, none, none, none]) (s0 := v_value) (j0 := j2.2.2) (fun _ _ => ltE rfl) rtL (sI_rng sE_con) (fun s3 j3 d3 =>
    (b_set (ltE rfl) (sc2 (fun x0 x1 => (l__law_bent (n + 5) 40) x0 x1) (sE_var rfl) (sE_var rfl)) fun v_value_2 =>
    (b_ife (sT_b (sB_not (sT_e (sc1 (fun x0 => l__law_told (n + 1) x0) (sE_var rfl)))))
    (b_ret rtL sE_con)
    (b_nil (b_nil (b_endL ⟨(some (.v d3)), rfl⟩)))))) fun s3 j3 =>
    (b_nil (b_endL ⟨((some (.v d2)), (some s3), j3), rfl⟩))))) fun s2 j2 =>
    (b_ife (sT_b (sB_or (sT_b (sB_not (sT_e (sc1 (fun x0 => l__law_told (n + 1) x0) (sc1 (fun x0 => l__law_odd (n + 45) x0) (sE_var rfl)))))) (sT_b (sB_not (sT_e (sc1 (fun x0 => l__law_told (n + 1) x0) (sE_bin (sE_slc (sE_var rfl) sO_non (sO_som sE_con)) (sE_tup (ss_cons (sE_bin (sE_idx (sE_var rfl) sE_con) (sE_tup (ss_cons (sE_tup (ss_cons sE_con (ss_cons sE_con ss_nil))) ss_nil))) ss_nil)))))))))
    (b_ret rtL sE_con)
    (b_nil (b_nil (b_endL ⟨((some (.v d1)), (some v_deck), (some v_program), j2.1, j2.2.1, j2.2.2), rfl⟩)))))))))) fun s1 j1 =>
    (b_set (ltE rfl) (sE_tup (ss_cons (sE_tup (ss_cons sE_con ss_nil)) (ss_cons (sE_tup (ss_cons (sE_tup (ss_cons sE_con (ss_cons sE_con (ss_cons (sE_tup (ss_cons sE_con ss_nil)) (ss_cons sE_con ss_nil))))) (ss_cons (sE_tup (ss_cons sE_con (ss_cons sE_con (ss_cons (sE_tup (ss_cons sE_con ss_nil)) (ss_cons sE_con ss_nil))))) ss_nil))) ss_nil))) fun v_head =>
    (b_par2 rfl (sE_cel ss_nil) (sE_tup ss_nil) fun v_rows v_deep =>
    (b_for1 (fun (s4 : W) (j4 : Option W) => [some v_script, j1.1, j1.2.1, j1.2.2.1, j1.2.2.2.1, j1.2.2.2.2.1, j1.2.2.2.2.2, some v_head, some s4, some v_deep, j4, none, none, none]) (s0 := v_rows) (j0 := none) (fun _ _ => ltE rfl) rtW (sI_val (sE_tup (ss_cons sE_con (ss_cons sE_con (ss_cons sE_con (ss_cons sE_con (ss_cons sE_con ss_nil))))))) (fun s4 j4 d4 =>
    (b_set (ltE rfl) (sE_cad (sE_var rfl) (sE_lst (ss_cons (sE_bin (sE_tup (ss_cons (sE_tup (ss_cons sE_con (ss_cons sE_con ss_nil))) ss_nil)) (sE_var rfl)) (ss_cons (sE_bin (sE_tup (ss_cons (sE_tup (ss_cons sE_con (ss_cons (sE_tup ss_nil) ss_nil))) ss_nil)) (sE_var rfl)) (ss_cons (sE_bin (sE_tup (ss_cons (sE_tup (ss_cons sE_con (ss_cons sE_con (ss_cons (sE_tup ss_nil) ss_nil)))) ss_nil)) (sE_var rfl)) ss_nil))))) fun v_rows_2 =>
    (b_nil (b_endL ⟨(some (.v d4)), rfl⟩)))) fun s4 j4 =>
    (b_for1 (fun (s5 : W) (j5 : Option W) => [some v_script, j1.1, j1.2.1, j1.2.2.1, j5, j1.2.2.2.2.1, j1.2.2.2.2.2, some v_head, some s4, some s5, j4, none, none, none]) (s0 := v_deep) (j0 := j1.2.2.2.1) (fun _ _ => ltE rfl) rtW (sI_rng sE_con) (fun s5 j5 d5 =>
    (b_set (ltE rfl) (sE_tup (ss_cons (sE_idx (sE_lst (ss_cons (sE_tup (ss_cons sE_con (ss_cons (sE_var rfl) ss_nil))) (ss_cons (sE_tup (ss_cons sE_con (ss_cons sE_con (ss_cons (sE_var rfl) ss_nil)))) (ss_cons (sE_tup (ss_cons sE_con (ss_cons (sE_var rfl) (ss_cons (sE_tup ss_nil) ss_nil)))) ss_nil)))) (sE_bin (sE_blt (ss_cons (sE_var rfl) ss_nil)) sE_con)) ss_nil)) fun v_deep_2 =>
    (b_exp (sE_app (sE_var rfl) (sE_var rfl))
    (b_nil (b_endL ⟨(some (.v d5)), rfl⟩))))) fun s5 j5 =>
    (b_set (ltE rfl) (sE_lst (ss_cons (sE_bin (sE_tup (ss_cons (sE_tup (ss_cons sE_con ss_nil)) ss_nil)) sE_con) (ss_cons (sE_tup (ss_cons (sE_tup (ss_cons sE_con ss_nil)) (ss_cons (sE_tup (ss_cons sE_con ss_nil)) ss_nil))) (ss_cons (sE_tup (ss_cons (sE_tup (ss_cons sE_con ss_nil)) (ss_cons (sE_tup (ss_cons sE_con ss_nil)) ss_nil))) (ss_cons (sE_tup (ss_cons (sE_tup (ss_cons sE_con (ss_cons sE_con ss_nil))) ss_nil)) (ss_cons (sE_tup (ss_cons (sE_tup (ss_cons sE_con (ss_cons sE_con ss_nil))) ss_nil)) ss_nil)))))) fun v_some =>
    (b_for1 (fun (s6 : Unit) (j6 : Option W) => [some v_script, j1.1, j1.2.1, j1.2.2.1, j5, j1.2.2.2.2.1, j1.2.2.2.2.2, some v_head, some s4, some s5, j4, some v_some, j6, none]) (s0 := ()) (j0 := none) (fun _ _ => ltE rfl) rtW (sI_val (sE_var rfl)) (fun s6 j6 d6 =>
    (b_exp (sE_app (sE_var rfl) (sE_tup (ss_cons (sE_tup (ss_cons sE_con (ss_cons sE_con (ss_cons sE_con (ss_cons (sE_tup (ss_cons sE_con (ss_cons sE_con ss_nil))) (ss_cons (sE_var rfl) ss_nil)))))) ss_nil)))
    (b_nil (b_endL ⟨(some (.v d6)), rfl⟩)))) fun s6 j6 =>
    (b_set (ltE rfl) (sE_cad (sE_var rfl) (sE_lst (ss_cons (sE_tup (ss_cons (sE_tup (ss_cons sE_con (ss_cons sE_con (ss_cons sE_con (ss_cons (sE_tup (ss_cons sE_con (ss_cons sE_con ss_nil))) (ss_cons (sE_tup (ss_cons (sE_tup (ss_cons sE_con (ss_cons sE_con ss_nil))) ss_nil)) ss_nil)))))) ss_nil)) (ss_cons (sE_tup (ss_cons (sE_tup (ss_cons sE_con (ss_cons sE_con (ss_cons sE_con (ss_cons (sE_tup (ss_cons sE_con (ss_cons sE_con ss_nil))) (ss_cons (sE_tup ss_nil) ss_nil)))))) ss_nil)) ss_nil)))) fun v_rows_3 =>
    (b_exp (sE_app (sE_var rfl) (sE_tup (ss_cons (sE_tup (ss_cons sE_con (ss_cons sE_con (ss_cons sE_con (ss_cons (sE_tup (ss_cons sE_con (ss_cons sE_con ss_nil))) (ss_cons (sE_tup (ss_cons (sE_tup (ss_cons sE_con ss_nil)) (ss_cons (sE_tup (ss_cons sE_con ss_nil)) (ss_cons (sE_tup (ss_cons sE_con (ss_cons sE_con ss_nil))) (ss_cons (sE_tup (ss_cons sE_con (ss_cons sE_con ss_nil))) ss_nil))))) ss_nil)))))) ss_nil)))
    (b_retW (sE_b (sB_cmp (sE_lc1 (ltE rfl) (sI_val (sE_frz (sE_var rfl))) (fun d7 => (sOT_som (sT_b (sB_not (sT_e (sc1 (fun x0 => l__law_told (n + 1) x0) (sE_bin (sE_var rfl) (sE_tup (ss_cons (sE_var rfl) ss_nil))))))))) (fun d7 => (sE_var rfl))) (sE_lst ss_nil)))))))))))))
end K01
end
section
set_option autoImplicit false
set_option maxRecDepth 100000
set_option maxHeartbeats 2000000
namespace K01
open PySem Q Sh
theorem law_true (ns : List Int) (h : ns.length ≤ 63) (c : Cells) : wp (F_law_k01 (.v (.lst (ns.map .int)))) c fun w _ => w = .v (.bl true) := by
  unfold F_law_k01
  have hw : walkM (slcM (binM .add (lstM [(pV (.int 0))]) (pW (.v (.lst (ns.map D.int))))) oN (oS (pV (.int 6)))) = M.pure ((D.int 0 :: ns.map D.int).take 6) := by
    rw [show lstM [(pV (.int 0))] = pV (.lst [.int 0]) from lst_lit [.int 0] (by simp), pW_v, binM_v, add_lst (by rw [List.length_map]; simp; omega), M.ofO_some, M_pure_pV, oN_eq, oS_v, slcM_v, show (6 : Int) = ((6 : Nat) : Int) from rfl, slcL_to, M.ofO_some, M_pure_pV]
    rfl
  refine wp_cut (wp_forM (I := fun _ _ _ => True) (R := fun _ _ => False) hw trivial ?_ ?_ (fun _ _ h => h.elim))
  · intro i _ cs d _ _ hd
    have hd := List.mem_of_mem_take hd
    obtain ⟨z, rfl⟩ : ∃ z, d = .int z := by
      rcases List.mem_cons.mp hd with rfl | hd
      · exact ⟨0, rfl⟩
      · rw [List.mem_map] at hd
        obtain ⟨z, _, rfl⟩ := hd
        exact ⟨z, rfl⟩
    exact wp_imp (k01_cell z cs) fun r c' h => by cases r <;> exact h
  · intro _ cs _
    exact wp_imp (k01_rest cs) fun w c' h => ⟨.bl true, h, rfl⟩
theorem plain (ns : List Int) (h : ns.length ≤ 63) : ∃ c, ev Γ 100 60 42 [.v (.lst (ns.map .int))] [] = .ok (.v (.bl true)) c := by
  obtain ⟨w, c', e, hw⟩ := wp_ok (law_true ns h [])
  subst hw
  have hl := l_law_k01 11 (.v (.lst (ns.map .int))) []
  rcases hl with hl | hl
  · rw [e] at hl; cases hl
  · exact ⟨c', by rw [← e]; exact hl⟩
end K01
end
open PySem PySem.W PyProof.Rows
set_option maxRecDepth 100000 in
set_option maxHeartbeats 0 in
theorem PySem.Challenge.cw_liveviews_k01_programs_known_holds : PySem.Challenge.rw_liveviews_k01_programs_known.Holds := by
  w_on; o_law; k_head; (case hw => w_witness2)
  k_fill
  refine Q.walk (Γ := K01.Γ) (wf := 100) (k := 60) (ix := 42) rfl rfl ⟨rfl, by decide, by decide⟩ (fun w h Y => PySem.W.kIn_of Y) (fun P => by rfl) K01.plain ?F
  case F =>
    intro w mg fa h KX G hmg
    refine' K01.fin_mk KX G hmg ?qh0 ?qh1 ?qh2 ?qh3 ?qh4 ?qh5 ?qh6 ?qh7 ?qh8 ?qh9 ?qh10 ?qh11 ?qh12 ?qh13 ?qh14 ?qh15 ?qh16 ?qh17 ?qh18 ?qh19 ?qh20 ?qh21 ?qh22 ?qh23 ?qh24 ?qh25 ?qh26 ?qh27 ?qh28 ?qh29 ?qh30 ?qh31 ?qh32 ?qh33 ?qh34 ?qh35 ?qh36 ?qh37 ?qh38 ?qh39 ?qh40 ?qh41 ?qh42 ?qg0 ?qg1 ?qg2 ?qg3 ?qg4 ?qg5 ?qg6 ?qg7 ?qg8 ?qg9 ?qg10 ?qg11 ?qg12 ?qe1 ?qee ?qz0 ?qz1 ?qz2 ?qz3 ?qz4 ?qz5 ?qz6 ?qz7 ?qz8 ?qz9 ?qz10 ?qz11 ?qz12
    (case qh0 => refine' Q.FnF.mk ?qa ?ql ?qc ?qk; (case qa => k_is); (case ql => k_is); (case qc => k_is); (case qk => k_is))
    (case qh1 => refine' Q.FnF.mk ?qa ?ql ?qc ?qk; (case qa => k_is); (case ql => k_is); (case qc => k_is); (case qk => k_is))
    (case qh2 => refine' Q.FnF.mk ?qa ?ql ?qc ?qk; (case qa => k_is); (case ql => k_is); (case qc => k_is); (case qk => k_is))
    (case qh3 => refine' Q.FnF.mk ?qa ?ql ?qc ?qk; (case qa => k_is); (case ql => k_is); (case qc => k_is); (case qk => k_is))
    (case qh4 => refine' Q.FnF.mk ?qa ?ql ?qc ?qk; (case qa => k_is); (case ql => k_is); (case qc => k_is); (case qk => k_is))
    (case qh5 => refine' Q.FnF.mk ?qa ?ql ?qc ?qk; (case qa => k_is); (case ql => k_is); (case qc => k_is); (case qk => k_is))
    (case qh6 => refine' Q.FnF.mk ?qa ?ql ?qc ?qk; (case qa => k_is); (case ql => k_is); (case qc => k_is); (case qk => k_is))
    (case qh7 => refine' Q.FnF.mk ?qa ?ql ?qc ?qk; (case qa => k_is); (case ql => k_is); (case qc => k_is); (case qk => k_is))
    (case qh8 => refine' Q.FnF.mk ?qa ?ql ?qc ?qk; (case qa => k_is); (case ql => k_is); (case qc => k_is); (case qk => k_is))
    (case qh9 => refine' Q.FnF.mk ?qa ?ql ?qc ?qk; (case qa => k_is); (case ql => k_is); (case qc => k_is); (case qk => k_is))
    (case qh10 => refine' Q.FnF.mk ?qa ?ql ?qc ?qk; (case qa => k_is); (case ql => k_is); (case qc => k_is); (case qk => k_is))
    (case qh11 => refine' Q.FnF.mk ?qa ?ql ?qc ?qk; (case qa => k_is); (case ql => k_is); (case qc => k_is); (case qk => k_is))
    (case qh12 => refine' Q.FnF.mk ?qa ?ql ?qc ?qk; (case qa => k_is); (case ql => k_is); (case qc => k_is); (case qk => k_is))
    (case qh13 => refine' Q.FnF.mk ?qa ?ql ?qc ?qk; (case qa => k_is); (case ql => k_is); (case qc => k_is); (case qk => k_is))
    (case qh14 => refine' Q.FnF.mk ?qa ?ql ?qc ?qk; (case qa => k_is); (case ql => k_is); (case qc => k_is); (case qk => k_is))
    (case qh15 => refine' Q.FnF.mk ?qa ?ql ?qc ?qk; (case qa => k_is); (case ql => k_is); (case qc => k_is); (case qk => k_is))
    (case qh16 => refine' Q.FnF.mk ?qa ?ql ?qc ?qk; (case qa => k_is); (case ql => k_is); (case qc => k_is); (case qk => k_is))
    (case qh17 => refine' Q.FnF.mk ?qa ?ql ?qc ?qk; (case qa => k_is); (case ql => k_is); (case qc => k_is); (case qk => k_is))
    (case qh18 => refine' Q.FnF.mk ?qa ?ql ?qc ?qk; (case qa => k_is); (case ql => k_is); (case qc => k_is); (case qk => k_is))
    (case qh19 => refine' Q.FnF.mk ?qa ?ql ?qc ?qk; (case qa => k_is); (case ql => k_is); (case qc => k_is); (case qk => k_is))
    (case qh20 => refine' Q.FnF.mk ?qa ?ql ?qc ?qk; (case qa => k_is); (case ql => k_is); (case qc => k_is); (case qk => k_is))
    (case qh21 => refine' Q.FnF.mk ?qa ?ql ?qc ?qk; (case qa => k_is); (case ql => k_is); (case qc => k_is); (case qk => k_is))
    (case qh22 => refine' Q.FnF.mk ?qa ?ql ?qc ?qk; (case qa => k_is); (case ql => k_is); (case qc => k_is); (case qk => k_is))
    (case qh23 => refine' Q.FnF.mk ?qa ?ql ?qc ?qk; (case qa => k_is); (case ql => k_is); (case qc => k_is); (case qk => k_is))
    (case qh24 => refine' Q.FnF.mk ?qa ?ql ?qc ?qk; (case qa => k_is); (case ql => k_is); (case qc => k_is); (case qk => k_is))
    (case qh25 => refine' Q.FnF.mk ?qa ?ql ?qc ?qk; (case qa => k_is); (case ql => k_is); (case qc => k_is); (case qk => k_is))
    (case qh26 => refine' Q.FnF.mk ?qa ?ql ?qc ?qk; (case qa => k_is); (case ql => k_is); (case qc => k_is); (case qk => k_is))
    (case qh27 => refine' Q.FnF.mk ?qa ?ql ?qc ?qk; (case qa => k_is); (case ql => k_is); (case qc => k_is); (case qk => k_is))
    (case qh28 => refine' Q.FnF.mk ?qa ?ql ?qc ?qk; (case qa => k_is); (case ql => k_is); (case qc => k_is); (case qk => k_is))
    (case qh29 => refine' Q.FnF.mk ?qa ?ql ?qc ?qk; (case qa => k_is); (case ql => k_is); (case qc => k_is); (case qk => k_is))
    (case qh30 => refine' Q.FnF.mk ?qa ?ql ?qc ?qk; (case qa => k_is); (case ql => k_is); (case qc => k_is); (case qk => k_is))
    (case qh31 => refine' Q.FnF.mk ?qa ?ql ?qc ?qk; (case qa => k_is); (case ql => k_is); (case qc => k_is); (case qk => k_is))
    (case qh32 => refine' Q.FnF.mk ?qa ?ql ?qc ?qk; (case qa => k_is); (case ql => k_is); (case qc => k_is); (case qk => k_is))
    (case qh33 => refine' Q.FnF.mk ?qa ?ql ?qc ?qk; (case qa => k_is); (case ql => k_is); (case qc => k_is); (case qk => k_is))
    (case qh34 => refine' Q.FnF.mk ?qa ?ql ?qc ?qk; (case qa => k_is); (case ql => k_is); (case qc => k_is); (case qk => k_is))
    (case qh35 => refine' Q.FnF.mk ?qa ?ql ?qc ?qk; (case qa => k_is); (case ql => k_is); (case qc => k_is); (case qk => k_is))
    (case qh36 => refine' Q.FnF.mk ?qa ?ql ?qc ?qk; (case qa => k_is); (case ql => k_is); (case qc => k_is); (case qk => k_is))
    (case qh37 => refine' Q.FnF.mk ?qa ?ql ?qc ?qk; (case qa => k_is); (case ql => k_is); (case qc => k_is); (case qk => k_is))
    (case qh38 => refine' Q.FnF.mk ?qa ?ql ?qc ?qk; (case qa => k_is); (case ql => k_is); (case qc => k_is); (case qk => k_is))
    (case qh39 => refine' Q.FnF.mk ?qa ?ql ?qc ?qk; (case qa => k_is); (case ql => k_is); (case qc => k_is); (case qk => k_is))
    (case qh40 => refine' Q.FnF.mk ?qa ?ql ?qc ?qk; (case qa => k_is); (case ql => k_is); (case qc => k_is); (case qk => k_is))
    (case qh41 => refine' Q.FnF.mk ?qa ?ql ?qc ?qk; (case qa => k_is); (case ql => k_is); (case qc => k_is); (case qk => k_is))
    (case qh42 => refine' Q.FnF.mk ?qa ?ql ?qc ?qk; (case qa => k_is); (case ql => k_is); (case qc => k_is); (case qk => k_is))
    (case qg0 => refine' Q.gl_str ?qa; (case qa => k_is))
    (case qg1 => refine' Q.gl_tup ?qa ?ql ?qt; (case qa => k_is); (case ql => k_is); (case qt => rfl))
    (case qg2 => refine' Q.gl_tup ?qa ?ql ?qt; (case qa => k_is); (case ql => k_is); (case qt => rfl))
    (case qg3 => refine' Q.gl_tup ?qa ?ql ?qt; (case qa => k_is); (case ql => k_is); (case qt => rfl))
    (case qg4 => refine' Q.gl_int ?qa; (case qa => k_is))
    (case qg5 => refine' Q.gl_int ?qa; (case qa => k_is))
    (case qg6 => refine' Q.gl_int ?qa; (case qa => k_is))
    (case qg7 => refine' Q.gl_int ?qa; (case qa => k_is))
    (case qg8 => refine' Q.gl_int ?qa; (case qa => k_is))
    (case qg9 => refine' Q.gl_int ?qa; (case qa => k_is))
    (case qg10 => refine' Q.gl_int ?qa; (case qa => k_is))
    (case qg11 =>
      refine' Q.gl_dct ?qa ?ql ?qm ?qhk ?qhp ?qhl ?qhd
      (case qa => k_is); (case ql => k_is); (case qm => rfl); (case qhk => exact ⟨⟨_, _, rfl, rfl⟩, ⟨⟨_, _, rfl, rfl⟩, ⟨⟨_, _, rfl, rfl⟩, ⟨⟨_, _, rfl, rfl⟩, trivial⟩⟩⟩⟩); (case qhp => exact .cons ⟨⟨_, rfl⟩, rfl⟩ (.cons ⟨⟨_, rfl⟩, rfl⟩ (.cons ⟨⟨_, rfl⟩, rfl⟩ (.cons ⟨⟨_, rfl⟩, rfl⟩ (.nil))))); (case qhl => rfl)
      (case qhd => refine' Q.dens_cons (Q.tup_of ?ql0 ?qt0) (Q.dens_cons (Q.tup_of ?ql1 ?qt1) (Q.dens_cons (Q.tup_of ?ql2 ?qt2) (Q.dens_cons (Q.tup_of ?ql3 ?qt3) (Q.dens_nil)))); (case ql0 => k_is); (case qt0 => rfl); (case ql1 => k_is); (case qt1 => rfl); (case ql2 => k_is); (case qt2 => rfl); (case ql3 => k_is); (case qt3 => rfl)))
    (case qg12 =>
      refine' Q.gl_dct ?qa ?ql ?qm ?qhk ?qhp ?qhl ?qhd
      (case qa => k_is); (case ql => k_is); (case qm => rfl); (case qhk => exact ⟨⟨_, _, rfl, rfl⟩, ⟨⟨_, _, rfl, rfl⟩, trivial⟩⟩); (case qhp => exact .cons ⟨⟨_, rfl⟩, rfl⟩ (.cons ⟨⟨_, rfl⟩, rfl⟩ (.nil))); (case qhl => rfl)
      (case qhd => refine' Q.dens_cons (Q.tup_of ?ql0 ?qt0) (Q.dens_cons (Q.tup_of ?ql1 ?qt1) (Q.dens_nil)); (case ql0 => k_is); (case qt0 => rfl); (case ql1 => k_is); (case qt1 => rfl)))
    (case qe1 => refine' Q.ExF.mk ?qa ?qx ?qk ?qb ?qt; (case qa => k_is); (case qx => k_exc); (case qk => k_is); (case qb => k_is); (case qt => k_is))
    (case qee => refine' PySem.W.exm_ref ?qp ?qq ?qr ?qs; (case qp => k_is); (case qq => k_is); (case qr => k_is); (case qs => first | rfl | k_is))
    (case qz0 => k_is)
    (case qz1 => k_is)
    (case qz2 => k_is)
    (case qz3 => k_is)
    (case qz4 => k_is)
    (case qz5 => k_is)
    (case qz6 => k_is)
    (case qz7 => k_is)
    (case qz8 => k_is)
    (case qz9 => k_is)
    (case qz10 => k_is)
    (case qz11 => k_is)
    (case qz12 => k_is)

