import PyProof.Rows.All
import Wide.All
import OpenK.AllK
import Wide.FinOn
import PySem.Challenge.RW_ledgerhouse_k34_orders_alike_and_their_j
import KE.DataEq
import KE.SortData
import HandS.ForMost
import HandS.IsInst
import HandS.Style
import HandS.NoneIn
import HandS.TupAny
import HandS.Conv
import HandS.Flow
import HandS.Wide
import HandS.Text
import HandS.Dict
import HandS.DictComp
import PyProof.ReprReads
import HandS.HeadHook1
import HandS.TupMul
import HandS.RaiseMore
import HandS.Zip
import PyProof.ReprRoads
import HandS.Defaults
import HandS.Codes
import HandS.Head0
import HandS.Head1
import HandS.Head2
import HandS.HeadEnd
import HandS.HeadHook2
import HandS.Deep
import HandS.HeadHook3
import HandS.HeadHook4
import PyProof.Rows.StrJoinMade
set_option Elab.async false
set_option linter.all false
set_option maxRecDepth 100000
set_option maxHeartbeats 0
/-! PL1: a small language of data, its meaning as Lean functions. -/
namespace PL
open PySem

abbrev D := PyData
/-- a thing that has things of one's own below it: a list, a tuple, an instance of the class c -/
inductive NK where
  | lst | tup
  | ins (c : Str) (fs : List Str)
  deriving DecidableEq
mutual
/-- the content of an object of one's own -/
inductive OD where
  | lst (xs : List D)
  | dic (kvs : List (D × D))
  | nod (k : NK) (ts : List TV)
inductive TV where
  | d (x : D)
  | own (o : OD)
end
/-- what a slot holds: data that stays, or an object of one's own (io: handed in; bor: only read for now) -/
inductive SV where
  | d (x : D)
  | own (io : Bool) (o : OD)
  | bor (o : OD)
/-- what an expression gives -/
inductive R where
  | d (x : D)
  | new (o : OD)
  | slot (i : Nat)
/-- what a primitive gives -/
inductive PR where
  | is (x : D)
  | new (o : OD)
abbrev En := List (Option SV)
mutual
def OD.toD : OD → D
  | .lst xs => .list xs
  | .dic kvs => .dict kvs
  | .nod k ts => match k with
    | .lst => .list (TV.toDs ts)
    | .tup => .tuple (TV.toDs ts)
    | .ins _ _ => .none
def TV.toD : TV → D
  | .d x => x
  | .own o => o.toD
def TV.toDs : List TV → List D
  | [] => []
  | t :: ts => t.toD :: TV.toDs ts
end
def NK.dat : NK → Bool
  | .ins _ _ => false
  | _ => true
mutual
/-- no instance in it: it may stay as data -/
def OD.dat : OD → Bool
  | .lst _ => true
  | .dic _ => true
  | .nod k ts => k.dat && TV.dats ts
def TV.dat : TV → Bool
  | .d _ => true
  | .own o => o.dat
def TV.dats : List TV → Bool
  | [] => true
  | t :: ts => t.dat && TV.dats ts
end
def OD.leaf : OD → Bool
  | .nod _ _ => false
  | _ => true
def PR.toR : PR → R
  | .is x => .d x
  | .new o => .new o
abbrev lim : Nat := sizeLine

inductive Blt where
  | len | abs | int | tuple | list | sorted | sum | max1 | min1 | max2 | min2 | str | repr | bool
  deriving DecidableEq
def Blt.nm : Blt → Str
  | .len => "len" | .abs => "abs" | .int => "int" | .tuple => "tuple" | .list => "list" | .sorted => "sorted" | .sum => "sum" | .max1 => "max" | .min1 => "min" | .max2 => "max" | .min2 => "min" | .str => "str" | .repr => "repr" | .bool => "bool"
def Blt.val : Blt → Value
  | .len => .builtin "len" | .abs => .builtin "abs" | .int => .type "int" | .tuple => .type "tuple" | .list => .type "list" | .sorted => .builtin "sorted" | .sum => .builtin "sum"
  | .max1 => .builtin "max" | .min1 => .builtin "min" | .max2 => .builtin "max" | .min2 => .builtin "min" | .str => .type "str" | .repr => .builtin "repr" | .bool => .type "bool"
inductive Mth where
  | index | get | join | split
  deriving DecidableEq
/-- the kinds of receivers -/
inductive RK where
  | lst | dic | str
  deriving DecidableEq
def Mth.nm : Mth → Str
  | .index => "index" | .get => "get" | .join => "join" | .split => "split"
def Mth.rk : Mth → RK
  | .index => .lst | .get => .dic | .join => .str | .split => .str
inductive Mut where
  | append | extend | pop | popAt
  deriving DecidableEq
def Mut.nm : Mut → Str
  | .append => "append" | .extend => "extend" | .pop => "pop" | .popAt => "pop"
inductive Prm where
  | bin (op : Operator)
  | cmp (op : CmpOp)
  | neg
  | idx
  | slc (lo hi : Bool)
  | rev
  | isi (T : String)
  | blt (b : Blt)
  | sset | lset | lrng | dnew | stp
  deriving DecidableEq
/-- one step down: a field, a written place -/
inductive Stp where
  | fld (f : Str)
  | at (k : Int)
  deriving DecidableEq
inductive Tg where
  | nm (i : Nat)
  | tp (js : List Nat)
  deriving DecidableEq

mutual
inductive Ex where
  | var (i : Nat)
  | cst (x : D)
  | glb (x : Str)
  | prm (p : Prm) (es : Es)
  | cmp2 (op op' : CmpOp) (a b c : Ex)
  | and (a b : Ex)
  | or (a b : Ex)
  | not (a : Ex)
  | ite (t a b : Ex)
  | tup (es : Es)
  | lst (es : Es)
  | call (f : Str) (es : Es)
  | mut (m : Mut) (i : Nat) (es : Es)
  | mth (m : Mth) (x : Ex) (es : Es)
  | lc (tg : Tg) (it : It) (ifs : Es) (e : Ex) (own : List Nat)
  | dc (tg : Tg) (it : It) (ifs : Es) (k e : Ex) (own : List Nat)
  | dsp (ks : List D) (es : Es)
  | tupN (es : Es)
  | lstN (es : Es)
  | kid (i : Nat) (st : Stp)
  | mutC (m : Mut) (i : Nat) (st : Stp) (es : Es)
  | meth (f : Str) (es : Es)
  | make (cl : Str) (es : Es)
inductive Es where
  | nil
  | cons (e : Ex) (es : Es)
inductive It where
  | ex (e : Ex)
  | rng (es : Es)
end

mutual
inductive Sm where
  | set (i : Nat) (e : Ex)
  | setT (js : List Nat) (e : Ex)
  | par (js : List Nat) (es : Es)
  | aug (i : Nat) (op : Operator) (e : Ex)
  | sto (i : Nat) (k e : Ex)
  | fst (i : Nat) (f : Str) (e : Ex)
  | exp (e : Ex)
  | ifs (t : Ex) (a b : Sms)
  | fr (tg : Tg) (it : It) (b : Sms)
  | whl (n : Nat) (t : Ex) (b : Sms)
  | ret (e : Ex)
  | retn
  | brk
  | cnt
  | pas
  | nev
inductive Sms where
  | nil
  | cons (s : Sm) (ss : Sms)
end

/-! ### dicts -/
def keyEq : D → D → Bool
  | .int i, .int j => decide (i = j)
  | .str x, .str y => decide (x = y)
  | _, _ => false
def isKey : D → Bool
  | .int _ => true
  | .str _ => true
  | _ => false
def dget (kvs : List (D × D)) (k : D) : Option D := (kvs.find? fun p => keyEq p.1 k).map (·.2)
def dput (kvs : List (D × D)) (k v : D) : List (D × D) := if kvs.any fun p => keyEq p.1 k then kvs.map fun p => if keyEq p.1 k then (p.1, v) else p else kvs ++ [(k, v)]
def dMerge (kvs more : List (D × D)) : List (D × D) := more.foldl (fun acc kv => dput acc kv.1 kv.2) kvs
/-- none of the marks of the script's list: all keys are keys -/
def dKeys (kvs : List (D × D)) : Bool := kvs.all fun p => isKey p.1
/-! ### primitives -/
def two30 : Int := 1073741824
def small (i : Int) : Bool := decide (-(2 ^ 64) < i ∧ i < 2 ^ 64)
def binF : Operator → D → D → Option PR
  | .Add, .int i, .int j => some (.is (.int (i + j)))
  | .Sub, .int i, .int j => some (.is (.int (i - j)))
  | .Mult, .int i, .int j => if small i || small j then some (.is (.int (i * j))) else none
  | .FloorDiv, .int i, .int j => if 0 < j ∧ j < 1073741824 then some (.is (.int (i / j))) else none
  | .Mod, .int i, .int j => if 0 < j then some (.is (.int (i % j))) else none
  | .Pow, .int i, .int j => if 0 ≤ j ∧ j ≤ 1000000 ∧ i.natAbs < 2 ^ 64 then some (.is (.int (i ^ j.toNat))) else none
  | .Add, .str a, .str b => if a.length + b.length ≤ lim then some (.is (.str (a ++ b))) else none
  | .Add, .tuple a, .tuple b => if a.length + b.length ≤ lim then some (.is (.tuple (a ++ b))) else none
  | .Add, .list a, .list b => if a.length + b.length ≤ lim then some (.new (.lst (a ++ b))) else none
  | .Mult, .tuple a, .int k => if -(2 ^ 63) ≤ k ∧ k < 2 ^ 63 ∧ a.length * k.toNat ≤ lim then some (.is (.tuple (List.replicate k.toNat a).flatten)) else none
  | .Mult, .list a, .int k => if -(2 ^ 63) ≤ k ∧ k < 2 ^ 63 ∧ a.length * k.toNat ≤ lim then some (.new (.lst (List.replicate k.toNat a).flatten)) else none
  | _, _, _ => none
def shp (d : D) : Bool := d.plain && decide (d.depth ≤ 64)
def isN : D → Bool
  | .none => true
  | _ => false
def isB (b : Bool) : D → Bool
  | .bool c => c == b
  | _ => false
def isF (x y : D) : Option Bool := match y with
  | .none => some (isN x)
  | .bool b => some (isB b x)
  | _ => none
def inStr (y z : Str) : Bool := match y.cps.toList with
  | [c] => decide (c ∈ z.cps.toList)
  | _ => !(Builtin.Str.occurrences z y 0 z.length 1).isEmpty
def inF (x : D) : D → Option Bool
  | .list ys => if shp x && shp (.list ys) then some (ys.any fun y => PyData.eqv y x) else none
  | .tuple ys => if shp x && shp (.tuple ys) then some (ys.any fun y => PyData.eqv y x) else none
  | .dict kvs => if isKey x && dKeys kvs then some (dget kvs x).isSome else none
  | .str z => match x with
    | .str y => some (inStr y z)
    | _ => none
  | _ => none
def cmpF : CmpOp → D → D → Option Bool
  | .Eq, x, y => if shp x && shp y then some (PyData.eqv x y) else none
  | .NotEq, x, y => if shp x && shp y then some (!PyData.eqv x y) else none
  | .Lt, .int i, .int j => some (decide (i < j))
  | .LtE, .int i, .int j => some (decide (i ≤ j))
  | .Gt, .int i, .int j => some (decide (j < i))
  | .GtE, .int i, .int j => some (decide (j ≤ i))
  | .Is, x, y => isF x y
  | .IsNot, x, y => (isF x y).map (!·)
  | .In, x, y => inF x y
  | .NotIn, x, y => (inF x y).map (!·)
  | _, _, _ => none
def at? {α : Type} (xs : List α) (i : Int) : Option α := L2.atI xs i
def idxF : D → D → Option PR
  | .list xs, .int i => (at? xs i).map .is
  | .tuple xs, .int i => (at? xs i).map .is
  | .str z, .int i => if z.length ≤ lim then (at? z.cps.toList i).map fun c => .is (.str ⟨#[c]⟩) else none
  | .dict kvs, k => if isKey k && dKeys kvs then (dget kvs k).map .is else none
  | _, _ => none
def cut {α : Type} (xs : List α) (lo hi : Option Int) : List α := (xs.drop (HT.sIx xs.length 0 lo)).take (HT.sIx xs.length xs.length hi - HT.sIx xs.length 0 lo)
/-- the script's list, and lists of the module, are told so: they are read only -/
def klD (xs : List D) : D := .dict [(.none, .list xs)]
def kl2 (x : D) : Option (List D) := match x with
  | .list xs => some xs
  | _ => none
def kl1 (x : D) : Bool := match x with
  | .none => true
  | _ => false
def klOf (kvs : List (D × D)) : Option (List D) := kvs.head?.bind fun p => if kl1 p.1 && kvs.length == 1 then kl2 p.2 else none
/-- the places of x[::k] -/
def pickN (n : Nat) (k : Int) : List Nat := sliceRange (sliceBounds none none (some k) n).1 (sliceBounds none none (some k) n).2.1 (sliceBounds none none (some k) n).2.2
def pickL {α : Type} (xs : List α) (k : Int) : List α := (pickN xs.length k).filterMap (xs[·]?)
def slcF (x : D) (lo hi : Option Int) : Option PR := match x with
  | .list xs => some (.new (.lst (cut xs lo hi)))
  | .tuple xs => some (.is (.tuple (cut xs lo hi)))
  | .str z => if z.length ≤ lim then some (.is (.str (L2.cutS z lo hi))) else none
  | .dict kvs => (klOf kvs).map fun xs => .new (.lst (cut xs lo hi))
  | _ => none
def tyN : D → String
  | .none => "NoneType" | .bool _ => "bool" | .int _ => "int" | .str _ => "str" | .list _ => "list" | .tuple _ => "tuple" | .dict _ => "dict"
def isiB (t T : String) : Bool := t == T || (t == "bool" && T == "int")
def isiT (T : String) : Bool := T == "int" || T == "str" || T == "bool" || T == "list" || T == "tuple" || T == "dict"
def isD : D → Bool
  | .dict _ => true
  | _ => false
def isiF (T : String) (x : D) : Option PR := if isiT T && !isD x then some (.is (.bool (isiB (tyN x) T))) else none
def lenF : D → Option Int
  | .list xs => some xs.length
  | .tuple xs => some xs.length
  | .str z => if z.length ≤ lim then some z.length else none
  | .dict kvs => if dKeys kvs then some kvs.length else none
  | _ => none
def intsOf : List D → Option (List Int)
  | [] => some []
  | .int i :: r => (intsOf r).map (i :: ·)
  | _ :: _ => none
def strsOf : List D → Option (List Str)
  | [] => some []
  | .str i :: r => (strsOf r).map (i :: ·)
  | _ :: _ => none
/-- ascending, each once -/
def dedupI (ns : List Int) : List Int := ns.foldl (fun acc x => if acc.any (· == x) then acc else acc ++ [x]) []
def ssetI (ns : List Int) : List Int := (dedupI ns).mergeSort fun a b => decide (a ≤ b)
def showOk (x : D) : Bool := x.plain && x.showable && decide (x.depth ≤ 64) && decide (x.shown.length ≤ lim)
def tupNE : D → Bool
  | .tuple (_ :: _) => true
  | _ => false
def notNT : D → Bool
  | .none => false
  | .tuple _ => false
  | _ => true
def sortOk (xs : List D) : Bool := (xs.all fun x => xs.all fun y => PySem.W.alike x y) && (xs.all tupNE || xs.all notNT) && decide (xs.length ≤ lim) && xs.all shp
def sortD (xs : List D) : List D := xs.mergeSort (PySem.W.dataLe false id)
def bltF : Blt → List D → Option PR
  | .len, [x] => (lenF x).map fun n => .is (.int n)
  | .abs, [.int i] => some (.is (.int (if i < 0 then -i else i)))
  | .int, [.int i] => some (.is (.int i))
  | .int, [.bool b] => some (.is (.int (if b then 1 else 0)))
  | .tuple, [.list xs] => some (.is (.tuple xs))
  | .tuple, [.tuple xs] => some (.is (.tuple xs))
  | .list, [.list xs] => some (.new (.lst xs))
  | .list, [.tuple xs] => some (.new (.lst xs))
  | .list, [.dict kvs] => if dKeys kvs then some (.new (.lst (kvs.map (·.1)))) else none
  | .sum, [.list xs] => (intsOf xs).map fun ns => .is (.int ns.sum)
  | .max2, [.int i, .int j] => some (.is (.int (if j > i then j else i)))
  | .min2, [.int i, .int j] => some (.is (.int (if j < i then j else i)))
  | .sorted, [.list xs] => if sortOk xs then some (.new (.lst (sortD xs))) else none
  | .max1, [.list xs] => (intsOf xs).bind fun ns => ns.max?.map fun m => .is (.int m)
  | .min1, [.list xs] => (intsOf xs).bind fun ns => ns.min?.map fun m => .is (.int m)
  | .str, [.str z] => some (.is (.str z))
  | .str, [.int i] => if i.natAbs.log2 < 1920 then some (.is (.str (toString i))) else none
  | .repr, [x] => if showOk x then some (.is (.str x.shown)) else none
  | _, _ => none
def isTop : D → Bool
  | .list _ => true
  | .dict _ => true
  | _ => false
def mthF : Mth → List D → Option PR
  | .index, [.list xs, y] => if SeqAt.shaped (.list xs) && SeqAt.shaped y then (xs.findIdx? fun z => PyData.eqv z y).map fun j => .is (.int ((j : Nat) : Int)) else none
  | .get, [.dict kvs, k, d] => if isKey k && dKeys kvs && !isTop d then some (.is ((dget kvs k).getD d)) else none
  | .join, [.str a, .list xs] => (strsOf xs).bind fun ys => if (ys.map (·.length)).sum + ys.length * a.length ≤ lim then some (.is (.str (Txt.join a ys))) else none
  | .split, [.str a, .str b] => if b.length ≠ 0 ∧ a.length + 2 ≤ lim then some (.new (.lst ((Txt.split a b).map .str))) else none
  | _, _ => none
def rngF : List D → Option (List D)
  | [.int n] => if -(2 ^ 62) ≤ n ∧ n < 2 ^ 62 then some ((List.range n.toNat).map fun k => .int ((k : Nat) : Int)) else none
  | [.int a, .int b] => if -(2 ^ 62) ≤ a ∧ a < 2 ^ 62 ∧ -(2 ^ 62) ≤ b ∧ b < 2 ^ 62 then some ((List.range (b - a).toNat).map fun k => .int (a + ((k : Nat) : Int))) else none
  | [.int a, .int b, .int c] => if c ≠ 0 ∧ c.natAbs < 1073741824 ∧ Builtin.Range.small a b c = true ∧ 0 ≤ Builtin.Range.rangeSize a b c then some ((List.range (Builtin.Range.rangeSize a b c).toNat).map fun k => .int (a + ((k : Nat) : Int) * c)) else none
  | _ => none
def rng1F : List D → Option (List D)
  | [.int n] => if 0 ≤ n ∧ n ≤ 16777216 then some ((List.range n.toNat).map fun k => .int ((k : Nat) : Int)) else none
  | [.int a, .int b] => if 0 ≤ a ∧ a ≤ 16777216 ∧ 0 ≤ b ∧ b ≤ 16777216 then some ((List.range (b - a).toNat).map fun k => .int (a + ((k : Nat) : Int))) else none
  | _ => none
def prmF : Prm → List D → Option PR
  | .bin op, [x, y] => binF op x y
  | .cmp op, [x, y] => (cmpF op x y).map fun b => .is (.bool b)
  | .neg, [.int i] => some (.is (.int (-i)))
  | .idx, [x, y] => idxF x y
  | .slc false false, [x] => slcF x none none
  | .slc true false, [x, .int i] => slcF x (some i) none
  | .slc false true, [x, .int j] => slcF x none (some j)
  | .slc true true, [x, .int i, .int j] => slcF x (some i) (some j)
  | .rev, [.list xs] => some (.new (.lst xs.reverse))
  | .stp, [.list xs, .int k] => if k ≠ 0 then some (.new (.lst (pickL xs k))) else none
  | .isi T, [x] => isiF T x
  | .blt b, xs => bltF b xs
  | .sset, [.list xs] => (intsOf xs).bind fun ns => if ns.length + 1 < scanBound then some (.new (.lst ((ssetI ns).map .int))) else none
  | .lset, [.list xs] => (intsOf xs).bind fun ns => if ns.length + 1 < scanBound then some (.is (.int (dedupI ns).length)) else none
  | .lrng, xs => (rng1F xs).map fun ys => .new (.lst ys)
  | .dnew, [] => some (.new (.dic []))
  | _, _ => none

/-! ### slots -/
def putS (i : Nat) (v : SV) (e : En) : Option En := match e[i]? with
  | some (some (.own true _)) => none
  | some (some (.bor _)) => none
  | some _ => some (e.set i (some v))
  | none => none
def putAll : List Nat → List SV → En → Option En
  | [], [], e => some e
  | i :: is, v :: vs, e => (putS i v e).bind (putAll is vs)
  | _, _, _ => none
/-- what stands at a result -/
def pkO (o : OD) : Option D := if o.leaf then some o.toD else none
def fzO (o : OD) : Option D := if o.dat then some o.toD else none
def pkR (r : R) (e : En) : Option D := match r with
  | .d x => some x
  | .new o => fzO o
  | .slot i => match e[i]? with
    | some (some (.d (.list x))) => some (.list x)
    | some (some (.d (.dict x))) => some (.dict x)
    | some (some (.own _ o)) => pkO o
    | _ => none
/-- .. to be lent to a call -/
def ldR (r : R) (e : En) : Option D := match r with
  | .d x => some x
  | .new o => fzO o
  | .slot i => match e[i]? with
    | some (some (.d (.list x))) => some (.list x)
    | some (some (.d (.dict x))) => some (.dict x)
    | some (some (.own _ o)) => fzO o
    | _ => none
def pks : List R → En → Option (List D)
  | [], _ => some []
  | r :: rs, e => (pkR r e).bind fun x => (pks rs e).map (x :: ·)
/-- .. and stays -/
def fzR (r : R) (e : En) : Option (D × En) := match r with
  | .d x => some (x, e)
  | .new o => (fzO o).map fun x => (x, e)
  | .slot i => match e[i]? with
    | some (some (.d x)) => some (x, e)
    | some (some (.own false o)) => (fzO o).map fun x => (x, e.set i (some (.d x)))
    | _ => none
def fzs : List R → En → Option (List D × En)
  | [], e => some ([], e)
  | r :: rs, e => (fzR r e).bind fun (x, e1) => (fzs rs e1).map fun (xs, e2) => (x :: xs, e2)
def setR (i : Nat) (r : R) (e : En) : Option En := match r with
  | .d x => putS i (.d x) e
  | .new o => putS i (.own false o) e
  | .slot j => (fzR (.slot j) e).bind fun (x, e1) => putS i (.d x) e1
def sub : R → En → Option (SV × En)
  | .d x, e => some (.d x, e)
  | .new o, e => some (.own false o, e)
  | .slot j, e => (fzR (.slot j) e).map fun (x, e1) => (.d x, e1)
def subs : List R → En → Option (List SV × En)
  | [], e => some ([], e)
  | r :: rs, e => (sub r e).bind fun (x, e1) => (subs rs e1).map fun (xs, e2) => (x :: xs, e2)
/-- .. moved: a slot's own object leaves the slot -/
def mv : R → En → Option (SV × En)
  | .d x, e => some (.d x, e)
  | .new o, e => some (.own false o, e)
  | .slot j, e => match e[j]? with
    | some (some (.d x)) => some (.d x, e)
    | some (some (.own false o)) => some (.own false o, e.set j none)
    | _ => none
def mvs : List R → En → Option (List SV × En)
  | [], e => some ([], e)
  | r :: rs, e => (mv r e).bind fun (x, e1) => (mvs rs e1).map fun (xs, e2) => (x :: xs, e2)
def itemsOf : D → Option (List D)
  | .list xs => some xs
  | .tuple xs => some xs
  | _ => none
def setTg (tg : Tg) (x : D) (e : En) : Option En := match tg with
  | .nm i => putS i (.d x) e
  | .tp js => (itemsOf x).bind fun xs => putAll js (xs.map .d) e
def Mut.fits : Mut → OD → Bool
  | _, .lst _ => true
  | _, _ => false
def isOwn (e : En) (i : Nat) (m : Mut) : Bool := match e[i]? with
  | some (some (.own _ o)) => m.fits o
  | _ => false
def ownAt (e : En) (i : Nat) : Bool := match e[i]? with
  | some (some (.own _ o)) => o.leaf
  | _ => false
def mutF : Mut → OD → List D → Option (D × OD)
  | .append, .lst xs, [y] => if xs.length < lim then some (.none, .lst (xs ++ [y])) else none
  | .extend, .lst xs, [.list ys] => if xs.length + ys.length ≤ lim then some (.none, .lst (xs ++ ys)) else none
  | .pop, .lst xs, [] => (xs[xs.length - 1]?).map fun y => (y, .lst xs.dropLast)
  | .popAt, .lst xs, [.int i] => if -(2 ^ 63) ≤ i ∧ i < 2 ^ 63 then (seqIndex? i xs.length).bind fun j => (xs[j]?).map fun y => (y, .lst (xs.eraseIdx j)) else none
  | _, _, _ => none
def stoF : OD → D → D → Option OD
  | .lst xs, .int k, v => (L2.ixN xs.length k).map fun j => .lst (xs.set j v)
  | .dic kvs, k, v => if isKey k && decide (kvs.length < lim) then some (.dic (dput kvs k v)) else none
  | _, _, _ => none
def truthy : D → Option Bool
  | .none => some false
  | .bool b => some b
  | .int i => some (i != 0)
  | .str z => if z.length ≤ lim then some (z.length != 0) else none
  | .list xs => some (!xs.isEmpty)
  | .tuple xs => some (!xs.isEmpty)
  | .dict _ => none
def atom : R → Bool
  | .d .none => true
  | .d (.bool _) => true
  | .d (.int _) => true
  | .d (.str _) => true
  | _ => false
def slotsOf : List R → List Nat
  | [] => []
  | .slot i :: rs => i :: slotsOf rs
  | _ :: rs => slotsOf rs
def RK.isD : RK → D → Bool
  | .lst, .list _ => true
  | .dic, .dict kvs => dKeys kvs
  | .str, .str _ => true
  | _, _ => false
def RK.isO : RK → OD → Bool
  | .lst, .lst _ => true
  | .dic, .dic _ => true
  | _, _ => false
/-- a receiver of the kind stands there -/
def kM (k : RK) (r : R) (e : En) : Bool := match r with
  | .d x => k.isD x
  | .new o => k.isO o
  | .slot i => match e[i]? with
    | some (some (.own _ o)) => k.isO o
    | _ => false
/-! ### calls -/
abbrev Call := Str → List SV → Option (R × En)
def argOf (io : Bool) (r : R) (e : En) : Option SV := match io with
  | true => match r with
    | .slot i => match e[i]? with
      | some (some (.own _ o)) => some (.own true o)
      | _ => none
    | _ => none
  | false => (ldR r e).map .d
def argsOf : List Bool → List R → En → Option (List SV)
  | [], [], _ => some []
  | b :: bs, r :: rs, e => (argOf b r e).bind fun v => (argsOf bs rs e).map (v :: ·)
  | _, _, _ => none
def backOf (at' : Bool) (io : Bool) (r : R) (out : Option SV) (e : En) : Option En := match r with
  | .slot i => match e[i]? with
    | some (some (.own b o)) => match io with
      | true => match out with
        | some (.own true o') => some (e.set i (some (.own b o')))
        | _ => none
      | false => if at' then some e else if b then none else (fzO o).map fun x => e.set i (some (.d x))
    | some (some (.d _)) => some e
    | _ => none
  | _ => some e
def backs (at' : Bool) : List Bool → List R → List (Option SV) → En → Option En
  | [], [], [], e => some e
  | b :: bs, r :: rs, o :: os, e => (backOf at' b r o e).bind (backs at' bs rs os)
  | _, _, _, _ => none
def callF (call : Call) (io : List Bool) (f : Str) (rs : List R) (e : En) : Option (R × En) :=
  if (slotsOf rs).Nodup then
    (argsOf io rs e).bind fun as => (call f as).bind fun (r, outs) => (backs (atom r && !(io.any id)) io rs outs e).map fun e1 => (r, e1)
  else none
/-! ### things below an object of one's own -/
def spIx (st : Stp) (k : NK) (n : Nat) : Option Nat := match st, k with
  | .fld f, .ins _ fs => fs.findIdx? fun g => decide (g = f)
  | .at z, .lst => L2.ixN n z
  | .at z, .tup => L2.ixN n z
  | _, _ => none
/-- what stands there: data; a thing of one's own stays as data -/
def kidF (st : Stp) (i : Nat) (e : En) : Option (R × En) := match e[i]? with
  | some (some (.own b (.nod k ts))) => (spIx st k ts.length).bind fun j => (ts[j]?).bind fun t => match t with
    | .d x => some (.d x, e)
    | .own o => (fzO o).map fun x => (.d x, e.set i (some (.own b (.nod k (ts.set j (.d x))))))
  | some (some (.bor (.nod k ts))) => (spIx st k ts.length).bind fun j => (ts[j]?).bind fun t => match t with
    | .d x => some (.d x, e)
    | .own _ => none
  | _ => none
def tvOf : SV → TV
  | .d x => .d x
  | .own _ o => .own o
  | .bor _ => .d .none
/-- a field is stored -/
def putFd (f : Str) (t : TV) : List Str → List TV → List Str × List TV
  | g :: fs, u :: ts => if g = f then (g :: fs, t :: ts) else ((g :: (putFd f t fs ts).1), u :: (putFd f t fs ts).2)
  | fs, ts => (fs ++ [f], ts ++ [t])
/-! ### loops -/
inductive Fl where
  | nx (e : En)
  | ret (r : R) (e : En)
  | brk (e : En)
  | cnt (e : En)
def lcL (f : D → En → Option (Option D × En)) : List D → List D → En → Option (List D × En)
  | [], acc, e => some (acc, e)
  | x :: xs, acc, e => (f x e).bind fun (o, e1) => match o with
    | none => lcL f xs acc e1
    | some y => if acc.length < lim then lcL f xs (acc ++ [y]) e1 else none
/-- .. a dict's -/
def dcL (f : D → En → Option (Option (D × D) × En)) : List D → List (D × D) → En → Option (List (D × D) × En)
  | [], acc, e => some (acc, e)
  | x :: xs, acc, e => (f x e).bind fun (o, e1) => match o with
    | none => dcL f xs acc e1
    | some (k, y) => if isKey k && decide (acc.length < lim) then dcL f xs (dput acc k y) e1 else none
def wipeE (e : En) : List Nat → En
  | [] => e
  | v :: vs => (wipeE e vs).set v none
/-- no object of one's own at these -/
def noOwn (e : En) (vs : List Nat) : Bool := vs.all fun v => match e[v]? with
  | some (some (.own _ _)) => false
  | some (some (.bor _)) => false
  | some _ => true
  | none => false
/-- the slots vs as in e, the others as in e1 -/
def backE (e e1 : En) : List Nat → En
  | [] => e1
  | v :: vs => (backE e e1 vs).set v (e.getD v none)
def forL (f : D → En → Option Fl) : List D → En → Option Fl
  | [], e => some (.nx e)
  | x :: xs, e => match f x e with
    | some (.nx e1) => forL f xs e1
    | some (.cnt e1) => forL f xs e1
    | some (.brk e1) => some (.nx e1)
    | some (.ret r e1) => some (.ret r e1)
    | none => none
def whlL (t : En → Option (Bool × En)) (b : En → Option Fl) : Nat → En → Option Fl
  | 0, _ => none
  | n + 1, e => (t e).bind fun (c, e1) => match c with
    | false => some (.nx e1)
    | true => match b e1 with
      | some (.nx e2) => whlL t b n e2
      | some (.cnt e2) => whlL t b n e2
      | some (.brk e2) => some (.nx e2)
      | some (.ret r e2) => some (.ret r e2)
      | none => none
/-! ### expressions -/
structure Cf where
  call : Call
  io : Str → List Bool
  glb : Str → Option D
mutual
def ev (c : Cf) : Ex → En → Option (R × En)
  | .var i, e => match e[i]? with
    | some (some (.d x)) => some (.d x, e)
    | some (some (.own _ _)) => some (.slot i, e)
    | _ => none
  | .cst x, e => some (.d x, e)
  | .glb k, e => (c.glb k).map fun x => (.d x, e)
  | .prm p es, e => (evs c es e).bind fun (rs, e1) => (pks rs e1).bind fun xs => (prmF p xs).map fun r => (r.toR, e1)
  | .cmp2 op op' x y z, e => (ev c x e).bind fun (r1, e1) => (ev c y e1).bind fun (r2, e2) => match r1, r2 with
    | .d d1, .d d2 => (cmpF op d1 d2).bind fun b => match b with
      | true => (ev c z e2).bind fun (r3, e3) => match r3 with
        | .d d3 => (cmpF op' d2 d3).map fun b' => (.d (.bool b'), e3)
        | _ => none
      | false => some (.d (.bool false), e2)
    | _, _ => none
  | .and a b, e => (ev c a e).bind fun (r, e1) => match r with
    | .d (.bool true) => ev c b e1
    | .d (.bool false) => some (.d (.bool false), e1)
    | _ => none
  | .or a b, e => (ev c a e).bind fun (r, e1) => match r with
    | .d (.bool false) => ev c b e1
    | .d (.bool true) => some (.d (.bool true), e1)
    | _ => none
  | .not a, e => (ev c a e).bind fun (r, e1) => match r with
    | .d (.bool x) => some (.d (.bool (!x)), e1)
    | _ => none
  | .ite t a b, e => (tst c t e).bind fun (x, e1) => match x with
    | true => ev c a e1
    | false => ev c b e1
  | .tup es, e => (evs c es e).bind fun (rs, e1) => (fzs rs e1).bind fun (xs, e2) => if xs.length ≤ lim then some (.d (.tuple xs), e2) else none
  | .lst es, e => (evs c es e).bind fun (rs, e1) => (fzs rs e1).bind fun (xs, e2) => if xs.length ≤ lim then some (.new (.lst xs), e2) else none
  | .call f es, e => (evs c es e).bind fun (rs, e1) => callF c.call (c.io f) f rs e1
  | .mut m i es, e => match isOwn e i m with
    | false => none
    | true => (evs c es e).bind fun (rs, e1) => (fzs rs e1).bind fun (xs, e2) => match e2[i]? with
    | some (some (.own io o)) => (mutF m o xs).map fun (x, o') => (.d x, e2.set i (some (.own io o')))
    | _ => none
  | .mth m x es, e => (ev c x e).bind fun (r, e1) => match kM m.rk r e1 with
    | false => none
    | true => (evs c es e1).bind fun (rs, e2) => (pks (r :: rs) e2).bind fun ys => (mthF m ys).map fun p => (p.toR, e2)
  | .lc tg it ifs el own, e => (evIt c it e).bind fun (xs, e1) => match noOwn e1 own with
    | false => none
    | true => (lcL (fun x e2 => (setTg tg x e2).bind fun e3 => (tsts c ifs e3).bind fun (b, e4) => match b with
        | false => some (none, wipeE e4 own)
        | true => (ev c el e4).bind fun (r, e5) => (fzR r e5).map fun (y, e6) => (some y, wipeE e6 own)) xs [] (wipeE e1 own)).map fun (ys, e2) => (.new (.lst ys), backE e1 e2 own)
  | .dc tg it ifs k el own, e => (evIt c it e).bind fun (xs, e1) => match noOwn e1 own with
    | false => none
    | true => (dcL (fun x e2 => (setTg tg x e2).bind fun e3 => (tsts c ifs e3).bind fun (b, e4) => match b with
        | false => some (none, wipeE e4 own)
        | true => (ev c k e4).bind fun (r, e5) => (fzR r e5).bind fun (y, e6) => (ev c el e6).bind fun (r', e7) => (fzR r' e7).map fun (z, e8) => (some (y, z), wipeE e8 own)) xs [] (wipeE e1 own)).map fun (ys, e2) => (.new (.dic ys), backE e1 e2 own)
  | .dsp ks es, e => (evs c es e).bind fun (rs, e1) => (fzs rs e1).bind fun (xs, e2) => if ks.length = xs.length ∧ ks.length ≤ 15 ∧ ks.all isKey then some (.new (.dic (dMerge [] (ks.zip xs))), e2) else none
  | .tupN es, e => (evs c es e).bind fun (rs, e1) => (mvs rs e1).bind fun (vs, e2) => if vs.length ≤ lim then some (.new (.nod .tup (vs.map tvOf)), e2) else none
  | .lstN es, e => (evs c es e).bind fun (rs, e1) => (mvs rs e1).bind fun (vs, e2) => if vs.length ≤ lim then some (.new (.nod .lst (vs.map tvOf)), e2) else none
  | .kid i st, e => kidF st i e
  | .mutC m i st es, e => match e[i]? with
    | some (some (.own b (.nod k ts))) => (spIx st k ts.length).bind fun j => match ts[j]? with
      | some (.own (.lst xs)) => (evs c es (e.set i (some (.bor (.nod k ts))))).bind fun (rs, e1) => (fzs rs e1).bind fun (ds, e2) => match e2[i]? with
        | some (some (.bor _)) => (mutF m (.lst xs) ds).map fun (y, o') => (.d y, e2.set i (some (.own b (.nod k (ts.set j (.own o'))))))
        | _ => none
      | _ => none
    | _ => none
  | .meth f es, e => (evs c es e).bind fun (rs, e1) => callF c.call (c.io f) f rs e1
  | .make cl es, e => (evs c es e).bind fun (rs, e1) => (callF c.call (c.io (cl ++ ".__init__")) (cl ++ ".__init__") (.slot e1.length :: rs) (e1 ++ [some (.own false (.nod (.ins cl []) []))])).bind fun (r, e2) => match r, e2[e1.length]? with
    | .d .none, some (some (.own false o)) => some (.new o, e2.take e1.length)
    | _, _ => none
def evs (c : Cf) : Es → En → Option (List R × En)
  | .nil, e => some ([], e)
  | .cons x xs, e => (ev c x e).bind fun (r, e1) => (evs c xs e1).map fun (rs, e2) => (r :: rs, e2)
def evIt (c : Cf) : It → En → Option (List D × En)
  | .ex x, e => (ev c x e).bind fun (r, e1) => (fzR r e1).bind fun (y, e2) => (itemsOf y).map fun ys => (ys, e2)
  | .rng es, e => (evs c es e).bind fun (rs, e1) => (pks rs e1).bind fun xs => (rngF xs).map fun ys => (ys, e1)
def tst (c : Cf) : Ex → En → Option (Bool × En)
  | .and a b, e => (tst c a e).bind fun (x, e1) => match x with
    | true => tst c b e1
    | false => some (false, e1)
  | .or a b, e => (tst c a e).bind fun (x, e1) => match x with
    | false => tst c b e1
    | true => some (true, e1)
  | .not a, e => (tst c a e).map fun (x, e1) => (!x, e1)
  | .ite t a b, e => (tst c t e).bind fun (x, e1) => match x with
    | true => tst c a e1
    | false => tst c b e1
  | x, e => (ev c x e).bind fun (r, e1) => (pkR r e1).bind fun y => (truthy y).map fun b => (b, e1)
/-- all tests of a comprehension's clause (one, or none) -/
def tsts (c : Cf) : Es → En → Option (Bool × En)
  | .nil, e => some (true, e)
  | .cons x .nil, e => tst c x e
  | .cons _ (.cons _ _), _ => none
end
mutual
def exec (c : Cf) : Sm → En → Option Fl
  | .set i x, e => (ev c x e).bind fun (r, e1) => (setR i r e1).map .nx
  | .setT js x, e => (ev c x e).bind fun (r, e1) => (fzR r e1).bind fun (y, e2) => (itemsOf y).bind fun ys => (putAll js (ys.map .d) e2).map .nx
  | .par js xs, e => (evs c xs e).bind fun (rs, e1) => (subs rs e1).bind fun (vs, e2) => (putAll js vs e2).map .nx
  | .aug _ _ _, _ => none
  | .sto i k x, e => (ev c x e).bind fun (r, e1) => (fzR r e1).bind fun (y, e2) => match ownAt e2 i with
    | false => none
    | true => (ev c k e2).bind fun (r', e3) => match r', e3[i]? with
    | .d z, some (some (.own io o)) => (stoF o z y).map fun o' => .nx (e3.set i (some (.own io o')))
    | _, _ => none
  | .fst i f x, e => (ev c x e).bind fun (r, e1) => (sub r e1).bind fun (v, e2) => match e2[i]? with
    | some (some (.own b (.nod (.ins cl fs) ts))) => if fs.length = ts.length ∧ fs.length < 900 then some (.nx (e2.set i (some (.own b (.nod (.ins cl (putFd f (tvOf v) fs ts).1) (putFd f (tvOf v) fs ts).2))))) else none
    | _ => none
  | .exp x, e => (ev c x e).map fun (_, e1) => .nx e1
  | .ifs t a b, e => (tst c t e).bind fun (x, e1) => match x with
    | true => execs c a e1
    | false => execs c b e1
  | .fr tg it b, e => (evIt c it e).bind fun (xs, e1) => forL (fun x e2 => (setTg tg x e2).bind (execs c b)) xs e1
  | .whl n t b, e => whlL (tst c t) (execs c b) n e
  | .ret x, e => (ev c x e).bind fun (r, e1) => match r with
    | .d y => some (.ret (.d y) e1)
    | .new o => some (.ret (.new o) e1)
    | .slot i => match e1[i]? with
      | some (some (.own false o)) => some (.ret (.new o) (e1.set i none))
      | _ => none
  | .retn, e => some (.ret (.d .none) e)
  | .brk, e => some (.brk e)
  | .cnt, e => some (.cnt e)
  | .pas, e => some (.nx e)
  | .nev, _ => none
def execs (c : Cf) : Sms → En → Option Fl
  | .nil, e => some (.nx e)
  | .cons s ss, e => match exec c s e with
    | some (.nx e1) => execs c ss e1
    | some (.ret r e1) => some (.ret r e1)
    | some (.brk e1) => some (.brk e1)
    | some (.cnt e1) => some (.cnt e1)
    | none => none
end
def Tg.sl : Tg → List Nat
  | .nm i => [i]
  | .tp js => js
structure Fn where
  name : Str
  io : List Bool
  N : List Str
  body : Sms
/-- the program's defs, the module's constants -/
structure Pg where
  fns : List Fn
  glbs : List (Str × D)
def Pg.fn? (P : Pg) (f : Str) : Option Fn := P.fns.find? fun fn => decide (fn.name = f)
def Pg.io (P : Pg) (f : Str) : List Bool := match P.fn? f with
  | some fn => fn.io
  | none => []
def Pg.glb (P : Pg) (x : Str) : Option D := (P.glbs.find? fun p => decide (p.1 = x)).map (·.2)
/-- the def f at its values, at most n calls deep -/
def outR : R → Bool
  | .slot _ => false
  | _ => true
def run (P : Pg) : Nat → Call
  | 0 => fun _ _ => none
  | n + 1 => fun f as => match P.fn? f with
    | none => none
    | some fn => if as.length = fn.io.length then match execs ⟨run P n, P.io, P.glb⟩ fn.body (as.map some ++ List.replicate (fn.N.length - as.length) none) with
      | some (.ret r e) => if outR r then some (r, e.take as.length) else none
      | some (.nx e) => some (.d .none, e.take as.length)
      | _ => none
      else none
end PL

/-! PL2: what stands for data in the layer's heap; slots and results. -/
namespace PL
open PySem PySem.Spec
open PyProof.Rows L2

abbrev Sg := L2.St
def keyD : Key → D
  | .inl i => .int i
  | .inr x => .str x
mutual
inductive Rp (K : PySem.W.Frag) (G : Hp) : V → D → Prop
  | non : Rp K G .non .none
  | bl (b : Bool) : Rp K G (.bl b) (.bool b)
  | int (i : Int) : Rp K G (.int i) (.int i)
  | str (x : Str) : Rp K G (.str x) (.str x)
  | lst {a : Addr} {vs : List V} {xs : List D} : Rd G a (.lst vs) → RpL K G vs xs → Rp K G (.ref a) (.list xs)
  | tup {a : Addr} {vs : List V} {xs : List D} : SqT K G a vs → RpL K G vs xs → Rp K G (.ref a) (.tuple xs)
  | kl {a : Addr} {vs : List V} {xs : List D} : SqL K G a vs → RpL K G vs xs → Rp K G (.ref a) (klD xs)
  | dic {a : Addr} {kvs : List (Key × V)} {ds : List (D × D)} : G a = some (.dK kvs) → RpD K G kvs ds → Rp K G (.ref a) (.dict ds)
inductive RpL (K : PySem.W.Frag) (G : Hp) : List V → List D → Prop
  | nil : RpL K G [] []
  | cons {v : V} {vs : List V} {d : D} {ds : List D} : Rp K G v d → RpL K G vs ds → RpL K G (v :: vs) (d :: ds)
inductive RpD (K : PySem.W.Frag) (G : Hp) : List (Key × V) → List (D × D) → Prop
  | nil : RpD K G [] []
  | cons {k : Key} {v : V} {kvs : List (Key × V)} {d : D} {ds : List (D × D)} : Rp K G v d → RpD K G kvs ds → RpD K G ((k, v) :: kvs) ((keyD k, d) :: ds)
end
theorem Same.rd {G H : Hp} {a : Addr} {o : HO} (h : Same G H) (r : Rd G a o) : Rd H a o := by
  rcases r with r | ⟨b, r⟩
  · exact .inl (h _ _ r)
  · exact .inr ⟨b, h _ _ r⟩
theorem Same.sqT {K : PySem.W.Frag} {G H : Hp} {a : Addr} {xs : List V} (h : Same G H) (r : SqT K G a xs) : SqT K H a xs := by
  rcases r with r | r
  · exact .inl (Same.rd h r)
  · exact .inr r
mutual
theorem Rp.mono {K : PySem.W.Frag} {G H : Hp} (h : Same G H) : ∀ {x : D} {v : V}, Rp K G v x → Rp K H v x
  | _, _, .non => .non
  | _, _, .bl _ => .bl _
  | _, _, .int _ => .int _
  | _, _, .str _ => .str _
  | _, _, .lst h1 h2 => .lst (Same.rd h h1) (RpL.mono h h2)
  | _, _, .tup h1 h2 => .tup (Same.sqT h h1) (RpL.mono h h2)
  | _, _, .kl h1 h2 => .kl (Same.seq h h1) (RpL.mono h h2)
  | _, _, .dic h1 h2 => .dic (h _ _ h1) (RpD.mono h h2)
theorem RpL.mono {K : PySem.W.Frag} {G H : Hp} (h : Same G H) : ∀ {xs : List D} {vs : List V}, RpL K G vs xs → RpL K H vs xs
  | _, _, .nil => .nil
  | _, _, .cons h1 h2 => .cons (Rp.mono h h1) (RpL.mono h h2)
theorem RpD.mono {K : PySem.W.Frag} {G H : Hp} (h : Same G H) : ∀ {xs : List (D × D)} {vs : List (Key × V)}, RpD K G vs xs → RpD K H vs xs
  | _, _, .nil => .nil
  | _, _, .cons h1 h2 => .cons (Rp.mono h h1) (RpD.mono h h2)
end
mutual
theorem Rp.dp {K : PySem.W.Frag} {G : Hp} : ∀ {x : D} {v : V}, x.plain = true → Rp K G v x → Dp K G v x
  | .none, _, _, r => by cases r; exact .non
  | .bool _, _, _, r => by cases r; exact .bl _
  | .int _, _, _, r => by cases r; exact .int _
  | .str _, _, _, r => by cases r; exact .str _
  | .list xs, _, p, r => by cases r with | lst h1 h2 => exact .lst (.inl h1) (RpL.dp (by simpa only [PyData.plain] using p) h2)
  | .tuple xs, _, p, r => by cases r with | tup h1 h2 => exact .tup h1 (RpL.dp (by simpa only [PyData.plain] using p) h2)
  | .dict ds, _, p, _ => by simp [PyData.plain] at p
theorem RpL.dp {K : PySem.W.Frag} {G : Hp} : ∀ {xs : List D} {vs : List V}, PyData.plainAll xs = true → RpL K G vs xs → DpAll K G vs xs
  | [], _, _, r => by cases r; exact .nil
  | x :: xs, _, p, r => by
    simp only [PyData.plainAll, Bool.and_eq_true] at p
    cases r with | cons h1 h2 => exact .cons (Rp.dp p.1 h1) (RpL.dp p.2 h2)
end
section
variable {K : PySem.W.Frag} {G H : Hp}
theorem RpL.length : ∀ {vs : List V} {xs : List D}, RpL K G vs xs → vs.length = xs.length
  | _, _, .nil => rfl
  | _, _, .cons _ r => by rw [List.length_cons, List.length_cons, RpL.length r]
theorem RpL.get : ∀ {vs : List V} {xs : List D} {i : Nat} {x : D}, RpL K G vs xs → xs[i]? = some x → ∃ v, vs[i]? = some v ∧ Rp K G v x
  | _, _, _, _, .nil, e => by simp at e
  | _, _, 0, _, .cons r _, e => by simp at e; subst e; exact ⟨_, rfl, r⟩
  | _, _, i + 1, x, .cons _ t, e => by
    obtain ⟨u, h1, h2⟩ := RpL.get (i := i) (x := x) t (by simpa using e)
    exact ⟨u, by simpa using h1, h2⟩
theorem RpL.get' : ∀ {vs : List V} {xs : List D} {i : Nat} {v : V}, RpL K G vs xs → vs[i]? = some v → ∃ x, xs[i]? = some x ∧ Rp K G v x
  | _, _, _, _, .nil, e => by simp at e
  | _, _, 0, _, .cons r _, e => by simp at e; subst e; exact ⟨_, rfl, r⟩
  | _, _, i + 1, x, .cons _ t, e => by
    obtain ⟨u, h1, h2⟩ := RpL.get' (i := i) (v := x) t (by simpa using e)
    exact ⟨u, by simpa using h1, h2⟩
theorem RpL.append : ∀ {vs ws : List V} {xs ys : List D}, RpL K G vs xs → RpL K G ws ys → RpL K G (vs ++ ws) (xs ++ ys)
  | _, _, _, _, .nil, s => s
  | _, _, _, _, .cons r t, s => .cons r (RpL.append t s)
theorem RpL.take : ∀ {vs : List V} {xs : List D} (n : Nat), RpL K G vs xs → RpL K G (vs.take n) (xs.take n)
  | _, _, 0, _ => .nil
  | _, _, _ + 1, .nil => .nil
  | _, _, n + 1, .cons r t => .cons r (RpL.take n t)
theorem RpL.drop : ∀ {vs : List V} {xs : List D} (n : Nat), RpL K G vs xs → RpL K G (vs.drop n) (xs.drop n)
  | _, _, 0, r => r
  | _, _, _ + 1, .nil => .nil
  | _, _, n + 1, .cons _ t => RpL.drop n t
theorem RpL.set {v : V} {x : D} (r : Rp K G v x) : ∀ {vs : List V} {xs : List D} (i : Nat), RpL K G vs xs → RpL K G (vs.set i v) (xs.set i x)
  | _, _, _, .nil => .nil
  | _, _, 0, .cons _ t => .cons r t
  | _, _, i + 1, .cons q t => .cons q (RpL.set r i t)
theorem RpL.rep {vs : List V} {xs : List D} (r : RpL K G vs xs) : ∀ n : Nat, RpL K G (List.replicate n vs).flatten (List.replicate n xs).flatten
  | 0 => .nil
  | n + 1 => by rw [List.replicate_succ, List.replicate_succ, List.flatten_cons, List.flatten_cons]; exact r.append (RpL.rep r n)
theorem RpL.reverse {vs : List V} {xs : List D} (r : RpL K G vs xs) : RpL K G vs.reverse xs.reverse := by
  induction xs generalizing vs with
  | nil => cases r; exact .nil
  | cons x xs ih =>
    cases r with
    | cons h1 h2 => rw [List.reverse_cons, List.reverse_cons]; exact (ih h2).append (.cons h1 .nil)
theorem RpL.dropLast {vs : List V} {xs : List D} (r : RpL K G vs xs) : RpL K G vs.dropLast xs.dropLast := by
  rw [List.dropLast_eq_take, List.dropLast_eq_take, r.length]
  exact r.take _
theorem RpL.eraseIdx {vs : List V} {xs : List D} (r : RpL K G vs xs) (i : Nat) : RpL K G (vs.eraseIdx i) (xs.eraseIdx i) := by
  rw [List.eraseIdx_eq_take_drop_succ, List.eraseIdx_eq_take_drop_succ]
  exact (r.take i).append (r.drop (i + 1))
theorem RpL.ints {ns : List Int} : ∀ {vs : List V} {xs : List D}, RpL K G vs xs → intsOf xs = some ns → vs = ns.map V.int
  | _, _, .nil, e => by simp [intsOf] at e; subst e; rfl
  | _, _, .cons (d := d) (ds := ds) r t, e => by
    cases d with
    | int i =>
      cases r
      unfold intsOf at e
      cases q : intsOf ds with
      | none => rw [q] at e; cases e
      | some ms =>
        rw [q] at e
        cases e
        rw [List.map_cons, RpL.ints t q]
    | _ => unfold intsOf at e; cases e
theorem RpL.of_ints : ∀ (ns : List Int), RpL K G (ns.map V.int) (ns.map PyData.int)
  | [] => .nil
  | n :: ns => .cons (.int n) (RpL.of_ints ns)
end
/-- an object's content -/
def ObR (K : PySem.W.Frag) (G : Hp) : HO → OD → Prop
  | .lst vs, .lst xs => RpL K G vs xs
  | .dK kvs, .dic ds => RpD K G kvs ds
  | _, _ => False
theorem ObR.mono {K : PySem.W.Frag} {G H : Hp} (h : Same G H) : ∀ {u : HO} {o : OD}, ObR K G u o → ObR K H u o := by
  intro u o r
  cases u <;> cases o <;> first | exact RpL.mono h r | exact RpD.mono h r | exact r.elim
theorem ObR.rp {K : PySem.W.Frag} {G : Hp} {a : Addr} : ∀ {u : HO} {o : OD}, ObR K G u o → G a = some u → Rp K G (.ref a) o.toD := by
  intro u o r h
  cases u <;> cases o <;> first | exact .lst (.inl h) r | exact .dic h r | exact r.elim
theorem ObR.lst {K : PySem.W.Frag} {G : Hp} {u : HO} {xs : List D} (r : ObR K G u (.lst xs)) : ∃ vs, u = .lst vs ∧ RpL K G vs xs := by
  cases u <;> first | exact ⟨_, rfl, r⟩ | exact r.elim
theorem ObR.dic {K : PySem.W.Frag} {G : Hp} {u : HO} {xs : List (D × D)} (r : ObR K G u (.dic xs)) : ∃ vs, u = .dK vs ∧ RpD K G vs xs := by
  cases u <;> first | exact ⟨_, rfl, r⟩ | exact r.elim

theorem Paired.get {α β : Type} {F : α → β → Prop} : ∀ {l : List α} {m : List β} {i : Nat} {x : α}, Paired F l m → l[i]? = some x → ∃ y, m[i]? = some y ∧ F x y
  | _, _, _, _, .nil, e => by simp at e
  | _, _, 0, _, .cons r _, e => by simp at e; subst e; exact ⟨_, rfl, r⟩
  | _, _, i + 1, x, .cons _ t, e => by
    obtain ⟨u, h1, h2⟩ := Paired.get (i := i) (x := x) t (by simpa using e)
    exact ⟨u, by simpa using h1, h2⟩
theorem Paired.get' {α β : Type} {F : α → β → Prop} : ∀ {l : List α} {m : List β} {i : Nat} {y : β}, Paired F l m → m[i]? = some y → ∃ x, l[i]? = some x ∧ F x y
  | _, _, _, _, .nil, e => by simp at e
  | _, _, 0, _, .cons r _, e => by simp at e; subst e; exact ⟨_, rfl, r⟩
  | _, _, i + 1, x, .cons _ t, e => by
    obtain ⟨u, h1, h2⟩ := Paired.get' (i := i) (y := x) t (by simpa using e)
    exact ⟨u, by simpa using h1, h2⟩
theorem Paired.mk {α β : Type} {F : α → β → Prop} : ∀ {l : List α} {m : List β}, l.length = m.length → (∀ (i : Nat) x y, l[i]? = some x → m[i]? = some y → F x y) → Paired F l m
  | [], [], _, _ => .nil
  | x :: l, y :: m, hl, h => .cons (h 0 x y rfl rfl) (Paired.mk (by simpa using hl) fun i a b h1 h2 => h (i + 1) a b (by simpa using h1) (by simpa using h2))
  | [], _ :: _, hl, _ => by simp at hl
  | _ :: _, [], hl, _ => by simp at hl

/-! ### things of one's own, and where they lie -/
def kidsV : HO → List V
  | .lst vs => vs
  | .tup vs => vs
  | .ins _ _ fs => fs.map (·.2)
  | _ => []
def extraA : HO → List Addr
  | .ins _ dx _ => [dx]
  | _ => []
mutual
/-- the places of an object and of all that is its own below it -/
def foot (H : Hp) : OD → Addr → List Addr
  | .lst _, a => [a]
  | .dic _, a => [a]
  | .nod _ ts, a => a :: ((H a).elim [] extraA ++ feet H ts ((H a).elim [] kidsV))
def foot1 (H : Hp) : TV → V → List Addr
  | .d _, _ => []
  | .own o, v => match v with
    | .ref b => foot H o b
    | _ => []
def feet (H : Hp) : List TV → List V → List Addr
  | [], _ => []
  | t :: ts, vs => match vs with
    | [] => []
    | v :: vs => foot1 H t v ++ feet H ts vs
end
/-- the object's kind -/
def NkOk (K : PySem.W.Frag) (H : Hp) (a : Addr) : NK → HO → Prop
  | .lst, .lst _ => True
  | .tup, .tup _ => True
  | .ins c fs, .ins C dx fvs => C = He.ga K c ∧ fs = fvs.map (·.1) ∧ H dx = some (.own a)
  | _, _ => False
mutual
/-- the object stands at a -/
def Std (K : PySem.W.Frag) (G H : Hp) : OD → Addr → Prop
  | .lst xs, a => ∃ vs, H a = some (.lst vs) ∧ RpL K G vs xs
  | .dic ds, a => ∃ kvs, H a = some (.dK kvs) ∧ RpD K G kvs ds
  | .nod k ts, a => ∃ u, H a = some u ∧ NkOk K H a k u ∧ Stds K G H ts (kidsV u)
def Std1 (K : PySem.W.Frag) (G H : Hp) : TV → V → Prop
  | .d x, v => Rp K G v x
  | .own o, v => ∃ b, v = .ref b ∧ Std K G H o b
def Stds (K : PySem.W.Frag) (G H : Hp) : List TV → List V → Prop
  | [], vs => vs = []
  | t :: ts, vs => ∃ w ws, vs = w :: ws ∧ Std1 K G H t w ∧ Stds K G H ts ws
end
section
variable {K : PySem.W.Frag} {G H : Hp}
theorem root_mem (H : Hp) : ∀ (o : OD) (a : Addr), a ∈ foot H o a
  | .lst _, _ => by unfold foot; exact List.mem_cons_self
  | .dic _, _ => by unfold foot; exact List.mem_cons_self
  | .nod _ _, _ => by unfold foot; exact List.mem_cons_self
mutual
theorem foot_loc {H H' : Hp} : ∀ (o : OD) (a : Addr), (∀ p ∈ foot H o a, H' p = H p) → foot H' o a = foot H o a
  | .lst _, _, _ => by unfold foot; rfl
  | .dic _, _, _ => by unfold foot; rfl
  | .nod k ts, a, h => by
    have ha := h a (root_mem H _ a)
    unfold foot at h ⊢
    rw [ha, feet_loc ts _ fun p hp => h p (List.mem_cons_of_mem _ (List.mem_append_right _ hp))]
theorem foot1_loc {H H' : Hp} : ∀ (t : TV) (v : V), (∀ p ∈ foot1 H t v, H' p = H p) → foot1 H' t v = foot1 H t v
  | .d _, _, _ => by unfold foot1; rfl
  | .own o, v, h => by
    cases v with
    | ref b =>
      unfold foot1 at h ⊢
      exact foot_loc o b h
    | _ => unfold foot1; rfl
theorem feet_loc {H H' : Hp} : ∀ (ts : List TV) (vs : List V), (∀ p ∈ feet H ts vs, H' p = H p) → feet H' ts vs = feet H ts vs
  | [], _, _ => by unfold feet; rfl
  | t :: ts, vs, h => by
    cases vs with
    | nil => unfold feet; rfl
    | cons v vs =>
      unfold feet at h ⊢
      simp only at h ⊢
      rw [foot1_loc t v fun p hp => h p (List.mem_append_left _ hp), feet_loc ts vs fun p hp => h p (List.mem_append_right _ hp)]
end
mutual
theorem Std.mono {G' : Hp} (g : Same G G') : ∀ {o : OD} {a : Addr}, Std K G H o a → Std K G' H o a
  | .lst _, _, h => by unfold Std at h ⊢; obtain ⟨vs, h1, h2⟩ := h; exact ⟨vs, h1, h2.mono g⟩
  | .dic _, _, h => by unfold Std at h ⊢; obtain ⟨vs, h1, h2⟩ := h; exact ⟨vs, h1, h2.mono g⟩
  | .nod k ts, a, h => by unfold Std at h ⊢; obtain ⟨u, h1, h2, h3⟩ := h; exact ⟨u, h1, h2, Stds.mono g h3⟩
theorem Std1.mono {G' : Hp} (g : Same G G') : ∀ {t : TV} {v : V}, Std1 K G H t v → Std1 K G' H t v
  | .d _, _, h => by unfold Std1 at h ⊢; exact Rp.mono g h
  | .own o, v, h => by unfold Std1 at h ⊢; obtain ⟨b, h1, h2⟩ := h; exact ⟨b, h1, Std.mono g h2⟩
theorem Stds.mono {G' : Hp} (g : Same G G') : ∀ {ts : List TV} {vs : List V}, Stds K G H ts vs → Stds K G' H ts vs
  | [], _, h => by unfold Stds at h ⊢; exact h
  | t :: ts, vs, h => by unfold Stds at h ⊢; obtain ⟨w, ws, h1, h2, h3⟩ := h; exact ⟨w, ws, h1, Std1.mono g h2, Stds.mono g h3⟩
end
mutual
theorem Std.loc {H' : Hp} : ∀ {o : OD} {a : Addr}, Std K G H o a → (∀ p ∈ foot H o a, H' p = H p) → Std K G H' o a
  | .lst _, a, h, l => by unfold Std at h ⊢; obtain ⟨vs, h1, h2⟩ := h; exact ⟨vs, by rw [l a (root_mem H _ a)]; exact h1, h2⟩
  | .dic _, a, h, l => by unfold Std at h ⊢; obtain ⟨vs, h1, h2⟩ := h; exact ⟨vs, by rw [l a (root_mem H _ a)]; exact h1, h2⟩
  | .nod k ts, a, h, l => by
    have la := l a (root_mem H _ a)
    unfold Std at h ⊢
    obtain ⟨u, h1, h2, h3⟩ := h
    unfold foot at l
    rw [h1] at l
    refine ⟨u, by rw [la]; exact h1, ?_, Stds.loc h3 fun p hp => l p (List.mem_cons_of_mem _ (List.mem_append_right _ hp))⟩
    cases k with
    | ins c fs =>
      cases u with
      | ins C dx fvs =>
        obtain ⟨z1, z2, z3⟩ := h2
        exact ⟨z1, z2, by rw [l dx (List.mem_cons_of_mem _ (List.mem_append_left _ List.mem_cons_self))]; exact z3⟩
      | _ => exact h2
    | _ => cases u <;> exact h2
theorem Std1.loc {H' : Hp} : ∀ {t : TV} {v : V}, Std1 K G H t v → (∀ p ∈ foot1 H t v, H' p = H p) → Std1 K G H' t v
  | .d _, _, h, _ => by unfold Std1 at h ⊢; exact h
  | .own o, v, h, l => by
    unfold Std1 at h ⊢
    obtain ⟨b, rfl, h2⟩ := h
    unfold foot1 at l
    exact ⟨b, rfl, Std.loc h2 l⟩
theorem Stds.loc {H' : Hp} : ∀ {ts : List TV} {vs : List V}, Stds K G H ts vs → (∀ p ∈ feet H ts vs, H' p = H p) → Stds K G H' ts vs
  | [], _, h, _ => by unfold Stds at h ⊢; exact h
  | t :: ts, vs, h, l => by
    unfold Stds at h ⊢
    obtain ⟨w, ws, rfl, h2, h3⟩ := h
    unfold feet at l
    exact ⟨w, ws, rfl, Std1.loc h2 fun p hp => l p (List.mem_append_left _ hp), Stds.loc h3 fun p hp => l p (List.mem_append_right _ hp)⟩
end
mutual
theorem Std.ex : ∀ {o : OD} {a : Addr}, Std K G H o a → ∀ p ∈ foot H o a, ∃ u, H p = some u
  | .lst _, a, h, p, hp => by
    unfold Std at h; unfold foot at hp
    obtain ⟨vs, h1, _⟩ := h
    rw [List.mem_singleton.mp hp]; exact ⟨_, h1⟩
  | .dic _, a, h, p, hp => by
    unfold Std at h; unfold foot at hp
    obtain ⟨vs, h1, _⟩ := h
    rw [List.mem_singleton.mp hp]; exact ⟨_, h1⟩
  | .nod k ts, a, h, p, hp => by
    unfold Std at h; unfold foot at hp
    obtain ⟨u, h1, h2, h3⟩ := h
    rw [h1] at hp
    rcases List.mem_cons.mp hp with rfl | hp
    · exact ⟨u, h1⟩
    · rcases List.mem_append.mp hp with hp | hp
      · cases u with
        | ins C dx fvs =>
          cases k with
          | ins c fs =>
            obtain ⟨_, _, z3⟩ := h2
            have : p = dx := List.mem_singleton.mp hp
            rw [this]; exact ⟨_, z3⟩
          | _ => exact h2.elim
        | _ => exact absurd hp List.not_mem_nil
      · exact Stds.ex h3 p hp
theorem Std1.ex : ∀ {t : TV} {v : V}, Std1 K G H t v → ∀ p ∈ foot1 H t v, ∃ u, H p = some u
  | .d _, _, _, p, hp => by unfold foot1 at hp; exact absurd hp List.not_mem_nil
  | .own o, v, h, p, hp => by
    unfold Std1 at h
    obtain ⟨b, rfl, h2⟩ := h
    unfold foot1 at hp
    exact Std.ex h2 p hp
theorem Stds.ex : ∀ {ts : List TV} {vs : List V}, Stds K G H ts vs → ∀ p ∈ feet H ts vs, ∃ u, H p = some u
  | [], _, _, p, hp => by unfold feet at hp; exact absurd hp List.not_mem_nil
  | t :: ts, vs, h, p, hp => by
    unfold Stds at h
    obtain ⟨w, ws, rfl, h2, h3⟩ := h
    unfold feet at hp
    rcases List.mem_append.mp hp with hp | hp
    · exact Std1.ex h2 p hp
    · exact Stds.ex h3 p hp
end
mutual
/-- an object that stays is data -/
theorem Std.rp {G' : Hp} (g : Same G G') : ∀ {o : OD} {a : Addr}, o.dat = true → Std K G H o a → (∀ p ∈ foot H o a, G' p = H p) → Rp K G' (.ref a) o.toD
  | .lst _, a, _, h, l => by
    unfold Std at h
    obtain ⟨vs, h1, h2⟩ := h
    unfold OD.toD
    exact .lst (.inl (by rw [l a (root_mem H _ a)]; exact h1)) (h2.mono g)
  | .dic _, a, _, h, l => by
    unfold Std at h
    obtain ⟨vs, h1, h2⟩ := h
    unfold OD.toD
    exact .dic (by rw [l a (root_mem H _ a)]; exact h1) (h2.mono g)
  | .nod k ts, a, hd, h, l => by
    have la := l a (root_mem H _ a)
    unfold Std at h
    obtain ⟨u, h1, h2, h3⟩ := h
    unfold foot at l
    rw [h1] at l la
    unfold OD.dat at hd
    rw [Bool.and_eq_true] at hd
    have kids := Stds.rp g hd.2 h3 fun p hp => l p (List.mem_cons_of_mem _ (List.mem_append_right _ hp))
    unfold OD.toD
    cases k with
    | ins c fs => cases hd.1
    | lst =>
      cases u with
      | lst vs => exact .lst (.inl la) kids
      | _ => exact h2.elim
    | tup =>
      cases u with
      | tup vs => exact .tup (.inl (.inl la)) kids
      | _ => exact h2.elim
theorem Std1.rp {G' : Hp} (g : Same G G') : ∀ {t : TV} {v : V}, t.dat = true → Std1 K G H t v → (∀ p ∈ foot1 H t v, G' p = H p) → Rp K G' v t.toD
  | .d _, _, _, h, _ => by unfold Std1 at h; unfold TV.toD; exact Rp.mono g h
  | .own o, v, hd, h, l => by
    unfold Std1 at h
    obtain ⟨b, rfl, h2⟩ := h
    unfold foot1 at l
    unfold TV.toD
    unfold TV.dat at hd
    exact Std.rp g hd h2 l
theorem Stds.rp {G' : Hp} (g : Same G G') : ∀ {ts : List TV} {vs : List V}, TV.dats ts = true → Stds K G H ts vs → (∀ p ∈ feet H ts vs, G' p = H p) → RpL K G' vs (TV.toDs ts)
  | [], vs, _, h, _ => by unfold Stds at h; subst h; unfold TV.toDs; exact .nil
  | t :: ts, vs, hd, h, l => by
    unfold Stds at h
    obtain ⟨w, ws, rfl, h2, h3⟩ := h
    unfold feet at l
    unfold TV.dats at hd
    rw [Bool.and_eq_true] at hd
    unfold TV.toDs
    exact .cons (Std1.rp g hd.1 h2 fun p hp => l p (List.mem_append_left _ hp)) (Stds.rp g hd.2 h3 fun p hp => l p (List.mem_append_right _ hp))
end
/-- a leaf -/
theorem Std.leaf {o : OD} {a : Addr} (hl : o.leaf = true) (h : Std K G H o a) : (∃ u, H a = some u ∧ ObR K G u o) ∧ foot H o a = [a] := by
  cases o with
  | lst xs => unfold Std at h; obtain ⟨vs, h1, h2⟩ := h; exact ⟨⟨_, h1, h2⟩, by unfold foot; rfl⟩
  | dic xs => unfold Std at h; obtain ⟨vs, h1, h2⟩ := h; exact ⟨⟨_, h1, h2⟩, by unfold foot; rfl⟩
  | nod k ts => cases hl
theorem ObR.leaf {u : HO} {o : OD} (h : ObR K G u o) : o.leaf = true := by
  cases u <;> cases o <;> first | rfl | exact h.elim
theorem ObR.std {u : HO} {o : OD} {a : Addr} (h : ObR K G u o) (ha : H a = some u) : Std K G H o a := by
  cases o with
  | lst xs => obtain ⟨vs, rfl, h2⟩ := h.lst; unfold Std; exact ⟨vs, ha, h2⟩
  | dic xs => obtain ⟨vs, rfl, h2⟩ := h.dic; unfold Std; exact ⟨vs, ha, h2⟩
  | nod k ts => cases u <;> exact h.elim
theorem foot_leaf {o : OD} {a : Addr} (hl : o.leaf = true) : foot H o a = [a] := by
  cases o with
  | lst xs => unfold foot; rfl
  | dic xs => unfold foot; rfl
  | nod k ts => cases hl
end
/-- what stands at the places of F is taken from H -/
def ov (F : List Addr) (H G : Hp) : Hp := fun p => if p ∈ F then H p else G p
theorem ov_in {F : List Addr} {H G : Hp} {p : Addr} (h : p ∈ F) : ov F H G p = H p := if_pos h
theorem ov_out {F : List Addr} {H G : Hp} {p : Addr} (h : p ∉ F) : ov F H G p = G p := if_neg h
theorem same_ov {F : List Addr} {H G : Hp} (h : ∀ p ∈ F, G p = none) : Same G (ov F H G) := fun p x e => by
  by_cases hp : p ∈ F
  · rw [h p hp] at e; cases e
  · rw [ov_out hp]; exact e
theorem ov_sub {F : List Addr} {H G : Hp} (s : Same G H) : Same (ov F H G) H := fun p x e => by
  by_cases hp : p ∈ F
  · rw [ov_in hp] at e; exact e
  · rw [ov_out hp] at e; exact s p x e

/-- what runs: the written part, the heap and the data at the entry, the objects handed in (and all their places) -/
structure Co where
  K : PySem.W.Frag
  H0 : Hp
  G0 : Hp
  io : Nat → Option Addr
  reg : Nat → Addr → Prop
  bo : Nat → Option (OD × Addr)
def Co.rg (C : Co) (p : Addr) : Prop := ∃ i, C.reg i p
structure Rel (C : Co) (σ : Sg) (H : Hp) (e : En) (G : Hp) : Prop where
  sub : Same G H
  gold : Same C.G0 G
  old : ∀ a o, C.H0 a = some o → ¬ C.rg a → H a = some o
  dom : ∀ a, C.H0 a ≠ none → H a ≠ none
  rok : ∀ a, C.rg a → C.H0 a ≠ none
  gnew : ∀ a o, G a = some o → C.G0 a = some o ∨ C.H0 a = none ∨ C.rg a
  len : e.length = σ.length
  dat : ∀ (i : Nat) x, e[i]? = some (some (.d x)) → ∃ v, σ[i]? = some (some v) ∧ Rp C.K G v x
  own : ∀ (i : Nat) b o, e[i]? = some (some (.own b o)) → ∃ a, σ[i]? = some (some (.ref a)) ∧ Std C.K G H o a ∧ (foot H o a).Nodup ∧ (∀ p ∈ foot H o a, G p = none ∧ (C.H0 p = none ∨ (b = true ∧ C.reg i p))) ∧ (b = true → C.io i = some a)
  sep : ∀ (i j : Nat) a a' b b' o o' p, e[i]? = some (some (.own b o)) → e[j]? = some (some (.own b' o')) → σ[i]? = some (some (.ref a)) → σ[j]? = some (some (.ref a')) → p ∈ foot H o a → p ∈ foot H o' a' → i = j
  bor : ∀ (i : Nat) o, e[i]? = some (some (.bor o)) → ∃ a, C.bo i = some (o, a) ∧ σ[i]? = some (some (.ref a))
  bok : ∀ (i : Nat) o a, C.bo i = some (o, a) → Std C.K C.G0 C.H0 o a ∧ ∀ p ∈ foot C.H0 o a, ¬ C.rg p ∧ C.G0 p = none
  iok : ∀ (i : Nat) a, C.io i = some a → (∃ o, e[i]? = some (some (.own true o))) ∧ σ[i]? = some (some (.ref a))
def NotOwn (σ : Sg) (H : Hp) (e : En) (p : Addr) : Prop := ∀ (i : Nat) b o a, e[i]? = some (some (.own b o)) → σ[i]? = some (some (.ref a)) → p ∉ foot H o a
def RR (C : Co) (H G : Hp) (σ : Sg) (e : En) (v : V) : R → Prop
  | .d x => Rp C.K G v x
  | .new o => ∃ a, v = .ref a ∧ Std C.K G H o a ∧ (foot H o a).Nodup ∧ ∀ p ∈ foot H o a, G p = none ∧ C.H0 p = none ∧ NotOwn σ H e p
  | .slot i => σ[i]? = some (some v)
/-- p belongs to a new result -/
def InNews (H : Hp) (vs : List V) (rs : List R) (p : Addr) : Prop := ∃ (j : Nat) (a : Addr) (o : OD), vs[j]? = some (.ref a) ∧ rs[j]? = some (.new o) ∧ p ∈ foot H o a
/-- the new results lie apart -/
def NewsD (H : Hp) (vs : List V) (rs : List R) : Prop := ∀ (i j : Nat) a a' o o' p, vs[i]? = some (.ref a) → vs[j]? = some (.ref a') → rs[i]? = some (.new o) → rs[j]? = some (.new o') → p ∈ foot H o a → p ∈ foot H o' a' → i = j
theorem NewsD.nil {H : Hp} (rs : List R) : NewsD H [] rs := fun i j a a' o o' p h => by simp at h
theorem NewsD.tail {H : Hp} {v : V} {vs : List V} {r : R} {rs : List R} (h : NewsD H (v :: vs) (r :: rs)) : NewsD H vs rs := fun i j a a' o o' p h1 h2 h3 h4 h5 h6 => by
  have := h (i + 1) (j + 1) a a' o o' p (by simpa using h1) (by simpa using h2) (by simpa using h3) (by simpa using h4) h5 h6
  omega
theorem NewsD.head {H : Hp} {a : Addr} {vs : List V} {o : OD} {rs : List R} (h : NewsD H (.ref a :: vs) (.new o :: rs)) {p : Addr} (hp : p ∈ foot H o a) : ¬ InNews H vs rs p := by
  rintro ⟨j, b, o', h1, h2, h3⟩
  have := h 0 (j + 1) a b o o' p rfl (by simpa using h1) rfl (by simpa using h2) hp h3
  omega
theorem NewsD.cons {H : Hp} {a : Addr} {vs : List V} {o : OD} {rs : List R} (h : NewsD H vs rs) (hn : ∀ p ∈ foot H o a, ¬ InNews H vs rs p) : NewsD H (.ref a :: vs) (.new o :: rs) := fun i j a1 a2 o1 o2 p h1 h2 h3 h4 h5 h6 => by
  cases i with
  | zero =>
    cases j with
    | zero => rfl
    | succ j => simp at h1 h3; obtain ⟨rfl⟩ := h1; obtain ⟨rfl⟩ := h3; exact absurd ⟨j, a2, o2, by simpa using h2, by simpa using h4, h6⟩ (hn p h5)
  | succ i =>
    cases j with
    | zero => simp at h2 h4; obtain ⟨rfl⟩ := h2; obtain ⟨rfl⟩ := h4; exact absurd ⟨i, a1, o1, by simpa using h1, by simpa using h3, h5⟩ (hn p h6)
    | succ j => rw [h i j a1 a2 o1 o2 p (by simpa using h1) (by simpa using h2) (by simpa using h3) (by simpa using h4) h5 h6]
theorem NewsD.cons' {H : Hp} {v : V} {vs : List V} {r : R} {rs : List R} (h : NewsD H vs rs) (hr : ∀ o, r ≠ .new o) : NewsD H (v :: vs) (r :: rs) := fun i j a1 a2 o1 o2 p h1 h2 h3 h4 h5 h6 => by
  cases i with
  | zero => simp at h3; exact absurd h3 (hr _)
  | succ i =>
    cases j with
    | zero => simp at h4; exact absurd h4 (hr _)
    | succ j => rw [h i j a1 a2 o1 o2 p (by simpa using h1) (by simpa using h2) (by simpa using h3) (by simpa using h4) h5 h6]
theorem InNews.tail {H : Hp} {v : V} {vs : List V} {r : R} {rs : List R} {p : Addr} (h : InNews H vs rs p) : InNews H (v :: vs) (r :: rs) p := by
  obtain ⟨j, a, o, h1, h2, h3⟩ := h
  exact ⟨j + 1, a, o, by simpa using h1, by simpa using h2, h3⟩
theorem same_upd {H : Hp} {p : Addr} {o : HO} (h : H p = none) : Same H (upd H p o) := fun b x e => by
  rw [upd_ne (ne_of_none e h)]
  exact e
theorem Same.none {G H : Hp} {a : Addr} (h : Same G H) (n : H a = none) : G a = none := Same.free h n
section
variable {C : Co} {σ : Sg} {H G : Hp} {e : En}
theorem Rel.h0 (h : Rel C σ H e G) {a : Addr} (n : H a = none) : C.H0 a = none := by
  cases q : C.H0 a with
  | none => rfl
  | some o => exact absurd n (h.dom a (by rw [q]; exact fun z => nomatch z))
/-- a borrowed object stands -/
theorem Rel.borrowed (h : Rel C σ H e G) {i : Nat} {o : OD} (he : e[i]? = some (some (.bor o))) : ∃ a, σ[i]? = some (some (.ref a)) ∧ Std C.K G H o a ∧ foot H o a = foot C.H0 o a := by
  obtain ⟨a, h0, h1⟩ := h.bor i o he
  obtain ⟨h2, h3⟩ := h.bok i o a h0
  have l : ∀ p ∈ foot C.H0 o a, H p = C.H0 p := fun p hp => by
    obtain ⟨u, hu⟩ := h2.ex p hp
    rw [hu, h.old p u hu (h3 p hp).1]
  exact ⟨a, h1, (h2.loc l).mono h.gold, foot_loc o a l⟩
/-- objects that are not owned any more (or were never) are data from here on -/
theorem Rel.fz {F : List Addr} {e1 : En} (r : Rel C σ H e G) (hF : ∀ p ∈ F, G p = none ∧ (C.H0 p = none ∨ C.rg p)) (hl : e1.length = e.length)
    (hd : ∀ (i : Nat) x, e1[i]? = some (some (.d x)) → e[i]? = some (some (.d x)) ∨ ∃ v, σ[i]? = some (some v) ∧ Rp C.K (ov F H G) v x)
    (ho : ∀ (i : Nat) b o, e1[i]? = some (some (.own b o)) → e[i]? = some (some (.own b o)) ∧ ∀ a, σ[i]? = some (some (.ref a)) → ∀ p ∈ foot H o a, p ∉ F) (hb : ∀ (i : Nat) o, e1[i]? = some (some (.bor o)) → e[i]? = some (some (.bor o))) (hi : ∀ (i : Nat) o, e[i]? = some (some (.own true o)) → e1[i]? = some (some (.own true o))) : Rel C σ H e1 (ov F H G) :=
  have g1 : Same G (ov F H G) := same_ov fun p hp => (hF p hp).1
  { sub := ov_sub r.sub, gold := r.gold.trans g1, old := r.old, dom := r.dom, rok := r.rok, len := hl.trans r.len
    gnew := fun b o q => by
      by_cases hb : b ∈ F
      · exact .inr (hF b hb).2
      · rw [ov_out hb] at q; exact r.gnew b o q
    dat := fun i x q => by
      rcases hd i x q with q | q
      · obtain ⟨v, h1, h2⟩ := r.dat i x q
        exact ⟨v, h1, h2.mono g1⟩
      · exact q
    own := fun i b o q => by
      obtain ⟨q1, q2⟩ := ho i b o q
      obtain ⟨c, h1, h2, h3, h4, h5⟩ := r.own i b o q1
      exact ⟨c, h1, h2.mono g1, h3, fun p hp => ⟨by rw [ov_out (q2 c h1 p hp)]; exact (h4 p hp).1, (h4 p hp).2⟩, h5⟩
    sep := fun i j a a' b b' o o' p q1 q2 => r.sep i j a a' b b' o o' p (ho i b o q1).1 (ho j b' o' q2).1
    bor := fun i o q => r.bor i o (hb i o q)
    bok := r.bok
    iok := fun i c q => by
      obtain ⟨⟨o, h1⟩, h2⟩ := r.iok i c q
      exact ⟨⟨o, hi i o h1⟩, h2⟩ }
theorem lt_of_get {α : Type} {l : List α} {i : Nat} {x : α} (h : l[i]? = some x) : i < l.length := (List.getElem?_eq_some_iff.mp h).1
theorem get_set_self {α : Type} {l : List α} {i : Nat} {x y : α} (h : l[i]? = some x) : (l.set i y)[i]? = some y := List.getElem?_set_self (lt_of_get h)
theorem get_set_cases {α : Type} {l : List α} {i j : Nat} {x y : α} (h : (l.set i x)[j]? = some y) : (i = j ∧ y = x) ∨ (i ≠ j ∧ l[j]? = some y) := by
  by_cases hij : i = j
  · subst hij
    have hi : i < l.length := by
      have := lt_of_get h
      rwa [List.length_set] at this
    rw [List.getElem?_set_self hi] at h
    cases h
    exact .inl ⟨rfl, rfl⟩
  · rw [List.getElem?_set_ne hij] at h
    exact .inr ⟨hij, h⟩
theorem RR.mono {C : Co} {H H' G G' : Hp} {σ : Sg} {e e' : En} {v : V} {r : R} (h : RR C H G σ e v r) (g : Same G G')
    (hn : ∀ a o, v = .ref a → r = .new o → ∀ p ∈ foot H o a, (∃ u, H p = some u) → G p = none → C.H0 p = none → NotOwn σ H e p → H' p = H p ∧ G' p = none ∧ NotOwn σ H' e' p) : RR C H' G' σ e' v r := by
  cases r with
  | d x => exact Rp.mono g h
  | slot i => exact h
  | new o =>
    obtain ⟨a, h1, h2, h3, h4⟩ := h
    have k : ∀ p ∈ foot H o a, H' p = H p ∧ G' p = none ∧ NotOwn σ H' e' p := fun p hp => hn a o h1 rfl p hp (h2.ex p hp) (h4 p hp).1 (h4 p hp).2.1 (h4 p hp).2.2
    have fe := foot_loc o a fun p hp => (k p hp).1
    exact ⟨a, h1, (h2.mono g).loc fun p hp => (k p hp).1, by rw [fe]; exact h3, fun p hp => by rw [fe] at hp; exact ⟨(k p hp).2.1, (h4 p hp).2.1, (k p hp).2.2⟩⟩
theorem fzO_some {o : OD} {x : D} (h : fzO o = some x) : o.dat = true ∧ x = o.toD := by
  unfold fzO at h
  split at h
  · rename_i hd; cases h; exact ⟨hd, rfl⟩
  · cases h
theorem pkO_some {o : OD} {x : D} (h : pkO o = some x) : o.leaf = true ∧ x = o.toD := by
  unfold pkO at h
  split at h
  · rename_i hd; cases h; exact ⟨hd, rfl⟩
  · cases h
/-- a result stays as data -/
theorem Rel.fzR {v : V} {r : R} {x : D} {e1 : En} (h : Rel C σ H e G) (hr : RR C H G σ e v r) (q : fzR r e = some (x, e1)) :
    ∃ G1, Same G G1 ∧ Rel C σ H e1 G1 ∧ Rp C.K G1 v x ∧ (∀ b, G b = none → NotOwn σ H e b → (∀ o a, r = .new o → v = .ref a → b ∉ foot H o a) → G1 b = none) ∧ (∀ a, NotOwn σ H e a → NotOwn σ H e1 a) := by
  cases r with
  | d y =>
    cases q
    exact ⟨G, Same.refl _, h, hr, fun a z _ _ => z, fun _ z => z⟩
  | new o =>
    unfold PL.fzR at q
    simp only [Option.map_eq_some_iff, Prod.mk.injEq] at q
    obtain ⟨y, q1, rfl, rfl⟩ := q
    obtain ⟨hd, rfl⟩ := fzO_some q1
    obtain ⟨a, h1, h2, h3, h4⟩ := hr
    have g1 : Same G (ov (foot H o a) H G) := same_ov fun p hp => (h4 p hp).1
    refine ⟨ov (foot H o a) H G, g1, h.fz (fun p hp => ⟨(h4 p hp).1, .inl (h4 p hp).2.1⟩) rfl (fun i y z => .inl z) (fun i b o' z => ⟨z, fun c hc p hp hf => (h4 p hf).2.2 i b o' c z hc hp⟩) (fun i o z => z) (fun i o z => z), ?_, fun b z _ zn => ?_, fun _ z => z⟩
    · subst h1
      exact h2.rp g1 hd fun p hp => ov_in hp
    · rw [ov_out (zn o a rfl h1)]; exact z
  | slot i =>
    have hs : σ[i]? = some (some v) := hr
    unfold PL.fzR at q
    simp only at q
    split at q
    · rename_i y hy
      cases q
      obtain ⟨w, h1, h2⟩ := h.dat i _ hy
      rw [hs] at h1; cases h1
      exact ⟨G, Same.refl _, h, h2, fun a z _ _ => z, fun _ z => z⟩
    · rename_i o hy
      simp only [Option.map_eq_some_iff, Prod.mk.injEq] at q
      obtain ⟨y, q1, rfl, rfl⟩ := q
      obtain ⟨hd, rfl⟩ := fzO_some q1
      obtain ⟨a, h1, h2, h3, h4, h5⟩ := h.own i _ _ hy
      rw [hs] at h1; cases h1
      have g1 : Same G (ov (foot H o a) H G) := same_ov fun p hp => (h4 p hp).1
      have hp : Rp C.K (ov (foot H o a) H G) (.ref a) o.toD := h2.rp g1 hd fun p hp => ov_in hp
      refine ⟨ov (foot H o a) H G, g1, h.fz (fun p hp => ⟨(h4 p hp).1, (h4 p hp).2.imp id fun z => ⟨_, z.2⟩⟩) (by rw [List.length_set]) (fun j y z0 => ?_) (fun j b o' z0 => ?_) (fun j o' z0 => ?_) (fun j o' z => ?_), hp, fun b z zo _ => ?_, fun b z j b' o' a' y0 => ?_⟩
      · rcases get_set_cases z0 with ⟨rfl, z⟩ | ⟨hj, z⟩
        · cases z; exact .inr ⟨_, hs, hp⟩
        · exact .inl z
      · rcases get_set_cases z0 with ⟨rfl, z⟩ | ⟨hj, z⟩
        · cases z
        · exact ⟨z, fun c hc p hp hf => hj (h.sep i j a c _ _ _ _ p hy z hs hc hf hp)⟩
      · rcases get_set_cases z0 with ⟨rfl, z⟩ | ⟨hj, z⟩
        · cases z
        · exact z
      · by_cases hj : i = j
        · subst hj
          rw [hy] at z; cases z
        · rw [List.getElem?_set_ne hj]; exact z
      · rw [ov_out (zo i _ _ a hy hs)]; exact z
      · rcases get_set_cases y0 with ⟨rfl, y⟩ | ⟨hj, y⟩
        · cases y
        · exact z j b' o' a' y
    · cases q
end
/-- an argument of a primitive: data, or an object that stands -/
inductive Rq (K : PySem.W.Frag) (H G : Hp) : V → D → Prop
  | fz {v : V} {x : D} : Rp K G v x → Rq K H G v x
  | top {a : Addr} {u : HO} {o : OD} : H a = some u → ObR K G u o → Rq K H G (.ref a) o.toD
section
variable {K : PySem.W.Frag} {H G : Hp} {v : V}
theorem klOf_eq {kvs : List (D × D)} {xs : List D} (h : klOf kvs = some xs) : kvs = [(.none, .list xs)] := by
  cases kvs with
  | nil => cases h
  | cons p r =>
    obtain ⟨a, b⟩ := p
    have h : (if kl1 a && (r.length + 1) == 1 then kl2 b else none) = some xs := h
    split at h
    · rename_i hc
      rw [Bool.and_eq_true] at hc
      obtain ⟨h1, h2⟩ := hc
      have : r = [] := by
        cases r with
        | nil => rfl
        | cons _ _ => simp at h2
      subst this
      cases a with
      | none => cases b with
        | list ys => cases h; rfl
        | _ => cases h
      | _ => cases h1
    · cases h
theorem RpD.nokl {K : PySem.W.Frag} {G : Hp} {kvs : List (Key × V)} {xs : List D} (r : RpD K G kvs [(.none, .list xs)]) : False := by
  generalize e : ([(PyData.none, PyData.list xs)] : List (D × D)) = z at r
  cases r with
  | nil => cases e
  | cons a b =>
    rename_i k _ _ _ _
    cases k <;> cases e
theorem Rq.kl {xs : List D} (s : Same G H) (r : Rq K H G v (.dict [(.none, .list xs)])) : ∃ a vs, v = .ref a ∧ SqL K H a vs ∧ RpL K G vs xs := by
  generalize e : PyData.dict [(.none, .list xs)] = y at r
  cases r with
  | fz r =>
    cases r with
    | kl h1 h2 => cases e; exact ⟨_, _, rfl, Same.seq s h1, h2⟩
    | dic h1 h2 => cases e; exact h2.nokl.elim
    | _ => cases e
  | @top a u o h ho =>
    cases o with
    | nod k ts => cases u <;> exact ho.elim
    | lst ys => cases e
    | dic ys =>
      obtain ⟨vs, rfl, h2⟩ := ho.dic
      cases e
      exact h2.nokl.elim
theorem isKey_rp {K : PySem.W.Frag} {G : Hp} {v : V} {d : D} (h : isKey d = true) (r : Rp K G v d) : ∃ k : Key, d = keyD k ∧ v = kV k := by
  cases r with
  | int i => exact ⟨.inl i, rfl, rfl⟩
  | str x => exact ⟨.inr x, rfl, rfl⟩
  | _ => cases h
theorem keyEq_iff {k j : Key} : keyEq (keyD k) (keyD j) = decide (k = j) := by
  cases k <;> cases j <;> simp [keyD, keyEq]
theorem RpD.keys {K : PySem.W.Frag} {G : Hp} : ∀ {kvs : List (Key × V)} {ds : List (D × D)}, RpD K G kvs ds → dKeys ds = true
  | _, _, .nil => rfl
  | _, _, .cons (k := k) _ r => by
    have := RpD.keys r
    unfold dKeys at this ⊢
    rw [List.all_cons, this]
    cases k <;> rfl
theorem RpD.length {K : PySem.W.Frag} {G : Hp} : ∀ {kvs : List (Key × V)} {ds : List (D × D)}, RpD K G kvs ds → kvs.length = ds.length
  | _, _, .nil => rfl
  | _, _, .cons _ r => by rw [List.length_cons, List.length_cons, RpD.length r]
theorem keyD_rp {K : PySem.W.Frag} {G : Hp} : ∀ k : Key, Rp K G (kV k) (keyD k)
  | .inl i => .int i
  | .inr x => .str x
theorem RpD.keyL {K : PySem.W.Frag} {G : Hp} : ∀ {kvs : List (Key × V)} {ds : List (D × D)}, RpD K G kvs ds → RpL K G (kvs.map fun kv => kV kv.1) (ds.map (·.1))
  | _, _, .nil => .nil
  | _, _, .cons (k := k) _ t => .cons (keyD_rp k) (RpD.keyL t)
theorem RpD.get {K : PySem.W.Frag} {G : Hp} (k : Key) : ∀ {kvs : List (Key × V)} {ds : List (D × D)}, RpD K G kvs ds → (valV kvs k = none ∧ dget ds (keyD k) = none) ∨ ∃ v d, valV kvs k = some v ∧ dget ds (keyD k) = some d ∧ Rp K G v d
  | _, _, .nil => .inl ⟨rfl, rfl⟩
  | _, _, .cons (k := k') (v := v) (d := d) (kvs := kvs) (ds := ds) r t => by
    by_cases e : k' = k
    · refine .inr ⟨v, d, valV_pos e, ?_, r⟩
      unfold dget
      rw [List.find?_cons]
      have : keyEq (keyD k') (keyD k) = true := by rw [keyEq_iff]; exact decide_eq_true e
      simp only [this]
      rfl
    · have e1 : valV ((k', v) :: kvs) k = valV kvs k := valV_neg e
      have e2 : dget ((keyD k', d) :: ds) (keyD k) = dget ds (keyD k) := by
        unfold dget
        rw [List.find?_cons]
        have : keyEq (keyD k') (keyD k) = false := by rw [keyEq_iff]; exact decide_eq_false e
        simp only [this]
      rw [e1, e2]
      exact RpD.get k t
theorem RpD.any {K : PySem.W.Frag} {G : Hp} (k : Key) : ∀ {kvs : List (Key × V)} {ds : List (D × D)}, RpD K G kvs ds → (kvs.any fun kv => decide (kv.1 = k)) = ds.any fun p => keyEq p.1 (keyD k)
  | _, _, .nil => rfl
  | _, _, .cons _ t => by rw [List.any_cons, List.any_cons, RpD.any k t, keyEq_iff]
theorem RpD.map {K : PySem.W.Frag} {G : Hp} {k : Key} {v : V} {d : D} (r : Rp K G v d) : ∀ {kvs : List (Key × V)} {ds : List (D × D)}, RpD K G kvs ds → RpD K G (kvs.map fun kv => if kv.1 = k then (kv.1, v) else kv) (ds.map fun p => if keyEq p.1 (keyD k) then (p.1, d) else p)
  | _, _, .nil => .nil
  | _, _, .cons (k := k') (v := v') (d := d') (kvs := kvs) (ds := ds) q t => by
    rw [List.map_cons, List.map_cons]
    simp only [keyEq_iff]
    have ih := RpD.map (k := k) r t
    by_cases e : k' = k
    · rw [if_pos e, if_pos (by simpa using e)]
      exact .cons r (by simpa only [keyEq_iff] using ih)
    · rw [if_neg e, if_neg (by simpa using e)]
      exact .cons q (by simpa only [keyEq_iff] using ih)
theorem RpD.snoc {K : PySem.W.Frag} {G : Hp} {k : Key} {v : V} {d : D} (r : Rp K G v d) : ∀ {kvs : List (Key × V)} {ds : List (D × D)}, RpD K G kvs ds → RpD K G (kvs ++ [(k, v)]) (ds ++ [(keyD k, d)])
  | _, _, .nil => .cons r .nil
  | _, _, .cons q t => .cons q (RpD.snoc r t)
theorem RpD.put {K : PySem.W.Frag} {G : Hp} {k : Key} {v : V} {d : D} (r : Rp K G v d) {kvs : List (Key × V)} {ds : List (D × D)} (h : RpD K G kvs ds) : RpD K G (putK kvs k v) (dput ds (keyD k) d) := by
  unfold putK dput
  rw [h.any k]
  split
  · exact h.map r
  · exact h.snoc r
theorem Rq.dict {kvs : List (D × D)} (hk : dKeys kvs = true) (s : Same G H) (r : Rq K H G v (.dict kvs)) : ∃ a vs, v = .ref a ∧ H a = some (.dK vs) ∧ RpD K G vs kvs := by
  generalize e : PyData.dict kvs = y at r
  cases r with
  | fz r =>
    subst e
    cases r with
    | kl h1 h2 => cases hk
    | dic h1 h2 => exact ⟨_, _, rfl, s _ _ h1, h2⟩
  | @top a u o h ho =>
    cases o with
    | nod k ts => cases u <;> exact ho.elim
    | lst ys => cases e
    | dic ys =>
      obtain ⟨vs, rfl, h2⟩ := ho.dic
      cases e
      exact ⟨_, _, rfl, h, h2⟩
theorem Rq.rp {x : D} (s : Same G H) : Rq K H G v x → Rp K H v x
  | .fz r => r.mono s
  | .top h o => (o.mono s).rp h
theorem Rq.list {xs : List D} (s : Same G H) (r : Rq K H G v (.list xs)) : ∃ a vs, v = .ref a ∧ Rd H a (.lst vs) ∧ RpL K G vs xs := by
  generalize e : PyData.list xs = y at r
  cases r with
  | fz r => subst e; cases r with | lst h1 h2 => exact ⟨_, _, rfl, Same.rd s h1, h2⟩
  | @top a u o h ho =>
    cases o with
    | lst ys => cases e; obtain ⟨vs, rfl, h2⟩ := ho.lst; exact ⟨_, _, rfl, .inl h, h2⟩
    | nod k ts => cases u <;> exact ho.elim
    | dic ys => cases e
theorem Rq.tuple {xs : List D} (s : Same G H) (r : Rq K H G v (.tuple xs)) : ∃ a vs, v = .ref a ∧ SqT K H a vs ∧ SqT K G a vs ∧ RpL K G vs xs := by
  generalize e : PyData.tuple xs = y at r
  cases r with
  | fz r => subst e; cases r with | tup h1 h2 => exact ⟨_, _, rfl, Same.sqT s h1, h1, h2⟩
  | @top a u o h ho =>
    cases o with
    | lst ys => cases e
    | nod k ts => cases u <;> exact ho.elim
    | dic ys => cases e
theorem Rq.int {i : Int} (r : Rq K H G v (.int i)) : v = .int i := by
  generalize e : PyData.int i = y at r
  cases r with
  | fz r => subst e; cases r; rfl
  | @top a u o h ho => cases o with
    | nod k ts => cases u <;> exact ho.elim
    | _ => cases e
theorem Rq.str {i : Str} (r : Rq K H G v (.str i)) : v = .str i := by
  generalize e : PyData.str i = y at r
  cases r with
  | fz r => subst e; cases r; rfl
  | @top a u o h ho => cases o with
    | nod k ts => cases u <;> exact ho.elim
    | _ => cases e
theorem Rq.bool {i : Bool} (r : Rq K H G v (.bool i)) : v = .bl i := by
  generalize e : PyData.bool i = y at r
  cases r with
  | fz r => subst e; cases r; rfl
  | @top a u o h ho => cases o with
    | nod k ts => cases u <;> exact ho.elim
    | _ => cases e
theorem Rq.none (r : Rq K H G v .none) : v = .non := by
  generalize e : PyData.none = y at r
  cases r with
  | fz r => subst e; cases r; rfl
  | @top a u o h ho => cases o with
    | nod k ts => cases u <;> exact ho.elim
    | _ => cases e
end
section
variable {C : Co} {σ : Sg} {H G : Hp} {e : En}
theorem Rel.pkSl {v : V} {i : Nat} {x : D} (h : Rel C σ H e G) (hs : σ[i]? = some (some v)) (q : pkR (.slot i) e = some x) : Rq C.K H G v x := by
  unfold PL.pkR at q
  simp only at q
  split at q
  · rename_i y hy
    cases q
    obtain ⟨w, h1, h2⟩ := h.dat i _ hy
    rw [hs] at h1; cases h1
    exact .fz h2
  · rename_i y hy
    cases q
    obtain ⟨w, h1, h2⟩ := h.dat i _ hy
    rw [hs] at h1; cases h1
    exact .fz h2
  · rename_i b o hy
    obtain ⟨hl, rfl⟩ := pkO_some q
    obtain ⟨a, h1, h2, _⟩ := h.own i _ _ hy
    rw [hs] at h1; cases h1
    obtain ⟨⟨u, h3, h4⟩, _⟩ := h2.leaf hl
    exact .top h3 h4
  · cases q
/-- the pending results behind a change -/
theorem RRs.mono {C : Co} {H H' G G' : Hp} {σ : Sg} {e e' : En} (g : Same G G') : ∀ {vs : List V} {rs : List R}, Paired (RR C H G σ e) vs rs →
    (∀ p, InNews H vs rs p → (∃ u, H p = some u) → G p = none → C.H0 p = none → NotOwn σ H e p → H' p = H p ∧ G' p = none ∧ NotOwn σ H' e' p) → Paired (RR C H' G' σ e') vs rs
  | _, _, .nil, _ => .nil
  | _, _, .cons (a := v) (b := r) r1 rr, hn => by
    refine .cons (r1.mono g fun a o ea eo p hp h1 h2 h3 h4 => hn p ⟨0, a, o, by simp [ea], by simp [eo], hp⟩ h1 h2 h3 h4) (RRs.mono g rr fun p hp h1 h2 h3 h4 => hn p hp.tail h1 h2 h3 h4)
theorem RRs.newsD {C : Co} {H H' G : Hp} {σ : Sg} {e : En} {vs : List V} {rs : List R} (h : NewsD H vs rs) (k : ∀ p, InNews H vs rs p → H' p = H p) : NewsD H' vs rs := fun i j a a' o o' p h1 h2 h3 h4 h5 h6 => by
  rw [foot_loc o a fun p hp => k p ⟨i, a, o, h1, h3, hp⟩] at h5
  rw [foot_loc o' a' fun p hp => k p ⟨j, a', o', h2, h4, hp⟩] at h6
  exact h i j a a' o o' p h1 h2 h3 h4 h5 h6
/-- all stay -/
theorem Rel.fzs : ∀ {vs : List V} {rs : List R} {xs : List D} {e e1 : En} {G : Hp}, Rel C σ H e G → Paired (RR C H G σ e) vs rs → NewsD H vs rs → fzs rs e = some (xs, e1) →
    ∃ G1, Same G G1 ∧ Rel C σ H e1 G1 ∧ RpL C.K G1 vs xs
  | _, _, _, _, _, G, h, .nil, _, q => by cases q; exact ⟨G, Same.refl _, h, .nil⟩
  | v :: vs, r :: rs, _, e, e1, G, h, .cons r1 rr, nd, q => by
    unfold PL.fzs at q
    cases q1 : PL.fzR r e with
    | none => rw [q1] at q; cases q
    | some p =>
      obtain ⟨x, e2⟩ := p
      rw [q1] at q
      simp only [Option.bind_some, Option.map_eq_some_iff, Prod.exists] at q
      obtain ⟨ys, e3, q2, q3⟩ := q
      cases q3
      obtain ⟨G1, g1, h1, p1, ng, no⟩ := h.fzR r1 q1
      have rr1 : Paired (RR C H G1 σ e2) vs rs := RRs.mono g1 rr fun p hp k1 k2 _ k4 => ⟨rfl, ng p k2 k4 (fun o a er ev hf => by
        subst er ev
        exact nd.head hf hp), no p k4⟩
      obtain ⟨G2, g2, h2, p2⟩ := Rel.fzs h1 rr1 nd.tail q2
      exact ⟨G2, g1.trans g2, h2, .cons (p1.mono g2) p2⟩
/-- the operands of a primitive: new things stay as data -/
theorem Rel.pks : ∀ {vs : List V} {rs : List R} {xs : List D} {G : Hp}, Rel C σ H e G → Paired (RR C H G σ e) vs rs → NewsD H vs rs → pks rs e = some xs → ∃ G1, Same G G1 ∧ Rel C σ H e G1 ∧ Paired (Rq C.K H G1) vs xs
  | _, _, _, G, h, .nil, _, q => by simp only [PL.pks, Option.some.injEq] at q; subst q; exact ⟨G, Same.refl _, h, .nil⟩
  | v :: vs, r :: rs, _, G, h, .cons r1 rr, nd, q => by
    unfold PL.pks at q
    cases q1 : PL.pkR r e with
    | none => rw [q1] at q; cases q
    | some x =>
      rw [q1] at q
      simp only [Option.bind_some, Option.map_eq_some_iff] at q
      obtain ⟨ys, q2, rfl⟩ := q
      cases r with
      | new o =>
        have q3 : PL.fzR (.new o) e = some (x, e) := by
          have q1 : fzO o = some x := q1
          unfold PL.fzR
          simp only [q1]
          rfl
        obtain ⟨G1, g1, h1, p1, ng, no⟩ := h.fzR r1 q3
        have rr1 : Paired (RR C H G1 σ e) vs rs := RRs.mono g1 rr fun p hp k1 k2 _ k4 => ⟨rfl, ng p k2 k4 (fun o a er ev hf => by
          cases er
          subst ev
          exact nd.head hf hp), no p k4⟩
        obtain ⟨G2, g2, h2, p2⟩ := Rel.pks h1 rr1 nd.tail q2
        exact ⟨G2, g1.trans g2, h2, .cons (.fz (p1.mono g2)) p2⟩
      | d y =>
        obtain ⟨G2, g2, h2, p2⟩ := Rel.pks h rr nd.tail q2
        cases q1
        exact ⟨G2, g2, h2, .cons (.fz (Rp.mono g2 r1)) p2⟩
      | slot i =>
        obtain ⟨G2, g2, h2, p2⟩ := Rel.pks h rr nd.tail q2
        exact ⟨G2, g2, h2, .cons (h2.pkSl r1 q1) p2⟩
theorem Rel.pkR {v : V} {r : R} {x : D} (h : Rel C σ H e G) (hr : RR C H G σ e v r) (q : pkR r e = some x) : ∃ G1, Same G G1 ∧ Rel C σ H e G1 ∧ Rq C.K H G1 v x := by
  have nd : NewsD H [v] [r] := fun i j a a' o o' p h1 h2 h3 h4 h5 h6 => by
    cases i with
    | zero => cases j with
      | zero => rfl
      | succ j => simp at h2
    | succ i => simp at h1
  obtain ⟨G1, g1, h1, p⟩ := h.pks (.cons hr .nil) nd (show PL.pks [r] e = some [x] by unfold PL.pks; rw [q]; rfl)
  cases p with
  | cons p _ => exact ⟨G1, g1, h1, p⟩
end
end PL

/-! PL3a: tuple * int, any number. -/
namespace PL
open PySem PySem.Spec
open PyProof.Rows L2
theorem tupleMulSame (l : Addr) (items : Array Value) (n : Nat) (dd : Option Addr) (sl : Array (Option Value)) (x : Int) (u : Tok) (c0 : (decide (x < -(2 ^ 63)) || decide (x ≥ 2 ^ 63)) = false) (c1 : (items.isEmpty || x == 1) = true) :
    Meets (Builtin.«tuple.__mul__» ⟨[.ref l, .int x u], []⟩) (fun _ R s => s.heap.get? l = some { cls := .type "tuple", dict := dd, data := .seq items n, slots := sl } ∧ R (.ok (.ret (Value.ref l))) s) :=
  .of_wp fun prog w A R s h => by
    obtain ⟨hp, g, d, tk, os⟩ := s
    obtain ⟨hl, h⟩ := h
    have f1 := AutoSeq1.idx_int
    wp_walk using wpAny_loadPart' hl
    repeat (first
      | (refine wpAny_ite_false (decide_eq_false (by rw [c0]; exact Bool.false_ne_true)) ?_; wp_walk using wpAny_loadPart' hl)
      | (refine wpAny_ite_true (decide_eq_true c1) ?_; wp_walk using wpAny_loadPart' hl))
    exact ⟨_, rfl, h⟩
theorem tupleMulNone (l : Addr) (items : Array Value) (n : Nat) (dd : Option Addr) (sl : Array (Option Value)) (x : Int) (u : Tok) (c0 : (decide (x < -(2 ^ 63)) || decide (x ≥ 2 ^ 63)) = false) (c1 : (items.isEmpty || x == 1) = false) (c2 : (decide (x ≤ 0) || items.isEmpty) = true) :
    Meets (Builtin.«tuple.__mul__» ⟨[.ref l, .int x u], []⟩) (fun _ R s => s.heap.get? l = some { cls := .type "tuple", dict := dd, data := .seq items n, slots := sl } ∧
      R (.ok (.ret (Value.ref s.heap.objs.size))) { s with heap := s.heap.push { cls := Value.type "tuple", data := Data.seq #[] }, toks := s.toks }) :=
  .of_wp fun prog w A R s h => by
    obtain ⟨hp, g, d, tk, os⟩ := s
    obtain ⟨hl, h⟩ := h
    have f1 := AutoSeq1.idx_int
    wp_walk using wpAny_loadPart' hl
    repeat (first
      | (refine wpAny_ite_false (decide_eq_false (by rw [c0]; exact Bool.false_ne_true)) ?_; wp_walk using wpAny_loadPart' hl)
      | (refine wpAny_ite_false (decide_eq_false (by rw [c1]; exact Bool.false_ne_true)) ?_; wp_walk using wpAny_loadPart' hl)
      | (refine wpAny_ite_true (decide_eq_true c2) ?_; wp_walk using wpAny_loadPart' hl))
    exact ⟨_, rfl, h⟩
def rRepU (K : PySem.W.Frag) : R2 := fun x y H Q => ∃ l k xs, x = .ref l ∧ y = .int k ∧ SqT K H l xs ∧ -(2 ^ 63) ≤ k ∧ k < 2 ^ 63 ∧ xs.length * k.toNat ≤ sizeLine ∧ (xs = [] ∨ k = 1 → Q (.ref l) H) ∧ ∀ p, H p = none → Q (.ref p) (upd H p (.tup (List.replicate k.toNat xs).flatten))
section
variable {X : Cx}
theorem op_repU : OpR X (binaryOp .Mult) (rRepU X.K) := by
  intro pins s σ H x y v u Q I rx ry h
  obtain ⟨l, k, xs, rfl, rfl, hT, h1, h2, hz, q1, q2⟩ := h
  cases rx
  obtain ⟨t, rfl⟩ := ry
  obtain ⟨its, r, ⟨⟨cls, dd, data, sl⟩, ho, hc, n, hd⟩, hs⟩ := I.tuple hT
  simp only at hc hd
  subst hc hd
  have hle : its.length = xs.length := r.length.symm
  have hsz0 : its.toArray.size = xs.length := by rw [List.size_toArray, hle]
  have c0 : (decide (k < -(2 ^ 63)) || decide (k ≥ 2 ^ 63)) = false := by
    rw [decide_eq_false (by omega), decide_eq_false (by omega)] <;> rfl
  refine wpAny_binaryOp_repeat_ref (T := "tuple") (U := "int") (by decide) ⟨_, ho, rfl⟩ (fun s' => typeIs_int s' k t) noFill_tuple_mul F.fills_int_mul F.slot_int_rmul repeat_tuple F.slot_int_index.lookup
    (call_meets F.slot_int_rmul (typeIs_int s k t) F.entry_int_rmul (F.args_int_rmul_2 _ _) (int_rmul_tuple k t l its.toArray n dd sl)
      ⟨ho, rfl, ⟨_, ho, rfl⟩, ?_⟩)
  cases c1 : (its.toArray.isEmpty || k == 1) with
  | true =>
    refine call_meets F.slot_tuple_mul ⟨_, ho, rfl⟩ F.entry_tuple_mul (F.args_tuple_mul_2 _ _) (tupleMulSame l its.toArray n dd sl k t c0 c1) ⟨ho, ⟨.ref l, H, I, rfl, q1 ?_⟩⟩
    rw [Bool.or_eq_true] at c1
    rcases c1 with c1 | c1
    · left
      cases its with
      | nil => exact List.eq_nil_of_length_eq_zero hle.symm
      | cons a b => cases c1
    · exact .inr (eq_of_beq c1)
  | false =>
    rw [Bool.or_eq_false_iff] at c1
    cases c2 : (decide (k ≤ 0) || its.toArray.isEmpty) with
    | true =>
      rw [c1.1, Bool.or_false, decide_eq_true_eq] at c2
      have hk : k.toNat = 0 := by omega
      refine call_meets F.slot_tuple_mul ⟨_, ho, rfl⟩ F.entry_tuple_mul (F.args_tuple_mul_2 _ _) (tupleMulNone l its.toArray n dd sl k t c0 (by rw [c1.1, c1.2]; rfl) (by rw [decide_eq_true c2]; rfl)) ⟨ho, ?_⟩
      have q2' := q2 s.heap.objs.size (I.hok.fresh (Nat.le_refl _))
      rw [hk] at q2'
      refine ⟨.ref s.heap.objs.size, _, I.laid (t' := s.toks) (o := .tup (List.replicate 0 xs).flatten) (fun b ob q => Heap.get?_push_of_some _ q) (Nat.le_refl _) ?_, rfl, q2'⟩
      exact ⟨Nat.zero_le _, [], .nil, IsTup.new _ _⟩
    | false =>
      have hkk : ¬ k ≤ 0 := fun z => by rw [decide_eq_true z] at c2; cases c2
      have hm : ((its.toArray.size : Nat) : Int) * k ≤ sizeLine := by
        rw [hsz0]
        have a1 : k = (k.toNat : Int) := by omega
        rw [a1]
        exact_mod_cast hz
      have flen : (List.replicate k.toNat its).flatten.length ≤ sizeLine := by
        rw [PyProof.Rows.lm_len_rep_flat, hle, Nat.mul_comm]
        exact hz
      have hs9 : sizeLine = 16777216 := sizeLine_eq
      have c4 : Builtin.Tuple.tupleTooMany (((its.toArray.size : Nat) : Int) * k) = false := by
        unfold Builtin.Tuple.tupleTooMany
        exact decide_eq_false (by omega)
      refine call_meets F.slot_tuple_mul ⟨_, ho, rfl⟩ F.entry_tuple_mul (F.args_tuple_mul_2 _ _) (tuple_mulW l its.toArray n dd sl k t c0 (by rw [c1.1, c1.2]; rfl) c2 (by omega) c4 (by rw [size_rep, List.size_toArray]; exact flen)) ⟨ho, ?_⟩
      rw [size_rep]
      refine ⟨.ref s.heap.objs.size, _, I.laid (t' := s.toks) (o := .tup (List.replicate k.toNat xs).flatten) (fun b ob q => Heap.get?_push_of_some _ q) (Nat.le_refl _) ?_, rfl, q2 _ (I.hok.fresh (Nat.le_refl _))⟩
      exact ⟨by rw [PyProof.Rows.lm_len_rep_flat, Nat.mul_comm]; exact hz, _, r.rep k.toNat, IsTup.new _ _⟩
end
end PL

/-! PL3: the primitives keep their word. -/
namespace PL
open PySem PySem.Spec
open PyProof.Rows L2

/-- behind a primitive: nothing that stood is changed -/
structure Pst (K : PySem.W.Frag) (H G : Hp) (v : V) (r : PR) (H' G' : Hp) : Prop where
  hs : Same H H'
  gs : Same G G'
  sub : Same G' H'
  gn : ∀ a o, G' a = some o → G a = some o ∨ H a = none
  res : match r with
    | .is x => Rp K G' v x
    | .new o => ∃ a u, v = .ref a ∧ H a = none ∧ H' a = some u ∧ G' a = none ∧ ObR K G' u o
section
variable {K : PySem.W.Frag} {H G : Hp}
theorem Pst.of {v : V} {x : D} (s : Same G H) (h : Rp K G v x) : Pst K H G v (.is x) H G := ⟨Same.refl _, Same.refl _, s, fun _ _ e => .inl e, h⟩
theorem Pst.tup {p : Addr} {vs : List V} {xs : List D} (s : Same G H) (h : RpL K G vs xs) (n : H p = none) : Pst K H G (.ref p) (.is (.tuple xs)) (upd H p (.tup vs)) (upd G p (.tup vs)) := by
  have gn : G p = none := Same.none s n
  have g1 : Same G (upd G p (.tup vs)) := same_upd gn
  refine ⟨same_upd n, g1, fun a o e => ?_, fun a o e => ?_, .tup (.inl (.inl upd_same)) (h.mono g1)⟩
  · by_cases ha : a = p
    · subst ha; rw [upd_same] at e ⊢; exact e
    · rw [upd_ne ha] at e ⊢; exact s a o e
  · by_cases ha : a = p
    · subst ha; exact .inr n
    · rw [upd_ne ha] at e; exact .inl e
theorem Pst.lst {p : Addr} {vs : List V} {xs : List D} (s : Same G H) (h : RpL K G vs xs) (n : H p = none) : Pst K H G (.ref p) (.new (.lst xs)) (upd H p (.lst vs)) G := by
  refine ⟨same_upd n, Same.refl _, s.trans (same_upd n), fun a o e => .inl e, ⟨p, .lst vs, rfl, n, upd_same, Same.none s n, h⟩⟩
end
/-- what a primitive asks, by values -/
def rP (K : PySem.W.Frag) (f : List D → Option PR) : List V → Hp → VK → Prop := fun vs H Q =>
  ∃ G xs r, Same G H ∧ Paired (Rq K H G) vs xs ∧ f xs = some r ∧ ∀ v H' G', Pst K H G v r H' G' → Q v H'
section
variable {X : Cx} {pins : List (Addr × Obj)} {σ : Sg} {H G : Hp} {s : Shared}
theorem one_q {K : PySem.W.Frag} {vs : List V} {x : D} (h : Paired (Rq K H G) vs [x]) : ∃ v, vs = [v] ∧ Rq K H G v x := by
  cases h with | cons a b => cases b; exact ⟨_, rfl, a⟩
theorem two_q {K : PySem.W.Frag} {vs : List V} {x y : D} (h : Paired (Rq K H G) vs [x, y]) : ∃ v w, vs = [v, w] ∧ Rq K H G v x ∧ Rq K H G w y := by
  cases h with | cons a b => cases b with | cons b c => cases c; exact ⟨_, _, rfl, a, b⟩
theorem three_q {K : PySem.W.Frag} {vs : List V} {x y z : D} (h : Paired (Rq K H G) vs [x, y, z]) : ∃ v w u, vs = [v, w, u] ∧ Rq K H G v x ∧ Rq K H G w y ∧ Rq K H G u z := by
  cases h with | cons a b => cases b with | cons b c => cases c with | cons c d => cases d; exact ⟨_, _, _, rfl, a, b, c⟩
theorem Inv.lstR {l : Addr} {xs : List V} (I : Inv X pins σ H s) (h : Rd H l (.lst xs)) : xs.length ≤ sizeLine ∧ ∃ (its : List Value) (n : Nat), Vals xs its ∧ xs.length = its.length ∧ s.heap.get? l = some { cls := .type "list", data := .seq its.toArray n } := by
  obtain ⟨z, its, n, r, e⟩ := h.ok I.hok
  exact ⟨z, its, n, r, r.length, e⟩
def rCatR : R2 := fun x y H Q => ∃ l b xs zs, x = .ref l ∧ y = .ref b ∧ Rd H l (.lst xs) ∧ Rd H b (.lst zs) ∧ xs.length + zs.length ≤ sizeLine ∧ ∀ p, H p = none → Q (.ref p) (upd H p (.lst (xs ++ zs)))
theorem op_catR : OpR X (binaryOp .Add) rCatR := by
  intro pins s σ H x y v u Q I rx ry h
  obtain ⟨l, b, xs, zs, rfl, rfl, hH, hB, hz, q⟩ := h
  cases rx
  cases ry
  obtain ⟨z, its, n, r, hl, e⟩ := PL.Inv.lstR I hH
  obtain ⟨z2, its2, n2, r2, hl2, e2⟩ := PL.Inv.lstR I hB
  refine PySem.P.add_list e e2 ?_ (by rw [List.size_toArray, List.size_toArray]; omega)
  have ea : its.toArray ++ its2.toArray = (its ++ its2).toArray := by simp
  rw [ea]
  exact ⟨.ref _, _, I.lnew (t' := s.toks) (r.append r2) (by rw [List.length_append]; omega), rfl, q _ I.fresh⟩
def rRepR : R2 := fun x y H Q => ∃ l k xs, x = .ref l ∧ y = .int k ∧ Rd H l (.lst xs) ∧ -(2 ^ 63) ≤ k ∧ k < 2 ^ 63 ∧ xs.length * k.toNat ≤ sizeLine ∧
  ∀ p, H p = none → Q (.ref p) (upd H p (.lst (List.replicate k.toNat xs).flatten))
theorem op_repR : OpR X (binaryOp .Mult) rRepR := by
  intro pins s σ H x y v u Q I rx ry h
  obtain ⟨l, k, xs, rfl, rfl, hH, h1, h2, hz, q⟩ := h
  cases rx
  obtain ⟨t, rfl⟩ := ry
  obtain ⟨z, its, n, r, hl, e⟩ := PL.Inv.lstR I hH
  have hlen : its.toArray.size * k.toNat ≤ sizeLine := by rw [List.size_toArray, ← hl]; exact hz
  have hcap : ¬ its.toArray.size * k.toNat > (2 ^ 63 - 1) / 8 := by
    have : (sizeLine : Nat) ≤ (2 ^ 63 - 1) / 8 := by decide
    omega
  have hfit : ¬ (!Builtin.List.listFitsIndex k) = true := by
    rw [fitsIndex_both h1 h2]
    exact Bool.false_ne_true
  have hlong : ¬ Builtin.List.listTooLong (its.toArray.size * k.toNat) = true := by
    rw [notLongL hlen]
    exact Bool.false_ne_true
  have hnew : List.foldl (fun x1 x2 => x1 ++ x2) #[] (List.replicate (if its.toArray.isEmpty = true then 0 else k.toNat) its.toArray) = (List.replicate k.toNat its).flatten.toArray := by
    have f0 : ∀ m : Nat, List.foldl (fun x1 x2 => x1 ++ x2) #[] (List.replicate m its.toArray) = (List.replicate m its).flatten.toArray := fun m => by
      have := foldl_rep its m []
      rw [List.nil_append] at this
      exact this
    rw [f0]
    cases its with
    | nil => simp
    | cons a r' => rw [if_neg (by simp)]
  refine wpAny_binaryOp_repeat_ref (T := "list") (U := "int") (by decide) ⟨_, e, rfl⟩ (fun s' => typeIs_int s' k t) noFill_list_mul F.fills_int_mul F.slot_int_rmul repeat_list F.slot_int_index.lookup
    (call_meets F.slot_int_rmul (typeIs_int s k t) F.entry_int_rmul (F.args_int_rmul_2 _ _) (int___rmul___int_list k t l its.toArray n)
      ⟨e, rfl, ⟨_, e, rfl⟩, call_meets F.slot_list_mul ⟨_, e, rfl⟩ F.entry_list_mul (F.args_list_mul_2 _ _) (AutoListH.list___mul___list_int_3 l its.toArray n k t hfit hcap hlong) ⟨e, ?_⟩⟩)
  rw [hnew]
  exact ⟨.ref _, _, I.lnew (t' := s.toks) (r.rep k.toNat) (by rw [PyProof.Rows.lm_len_rep_flat, Nat.mul_comm]; exact hz), rfl, q _ I.fresh⟩
def rExtR : V → List V → Hp → VK → Prop := fun x vs H Q => ∃ l b xs zs, x = .ref l ∧ vs = [.ref b] ∧ H l = some (.lst xs) ∧ Rd H b (.lst zs) ∧ xs.length + zs.length ≤ sizeLine ∧ Q .non (upd H l (.lst (xs ++ zs)))
theorem mt_extR : MtM X "list.extend" rExtR := by
  intro pins s σ H x vs v us Q I rx rv h
  obtain ⟨l, b, xs, zs, rfl, rfl, hH, hB, hz, q⟩ := h
  cases rx
  obtain ⟨u, rfl, ru⟩ := rv.one
  cases ru
  obtain ⟨z, its, n, r, hl, e⟩ := I.lstM hH
  obtain ⟨z2, its2, n2, r2, hl2, e2⟩ := PL.Inv.lstR I hB
  have hsz : its.toArray.size + its2.toArray.size ≤ sizeLine := by rw [List.size_toArray, List.size_toArray]; omega
  have hlong : ¬ (!its.toArray.isEmpty && Builtin.List.listTooLong (its.toArray.size + its2.toArray.size)) = true := by
    rw [notLongL hsz, Bool.and_false]
    exact Bool.false_ne_true
  refine call_meets F.slot_list_extend ⟨_, e, rfl⟩ F.entry_list_extend (F.args_list_extend_2 _ _)
    (AutoSeq1.list_extend_list_list_0 l its.toArray n b its2.toArray n2 hlong (by rw [List.size_toArray]; omega) (by omega)) ⟨e, e2, ?_⟩
  refine ⟨.non, _, I.lset (its' := its ++ its2) hH e (by simp) (r.append r2) ?_, rfl, q⟩
  rw [List.length_append]
  omega
end

/-! ### operators -/
def r2P (K : PySem.W.Frag) (f : D → D → Option PR) : R2 := fun x y H Q => ∃ G d1 d2 r, Same G H ∧ Rq K H G x d1 ∧ Rq K H G y d2 ∧ f d1 d2 = some r ∧ ∀ v H' G', Pst K H G v r H' G' → Q v H'
section
variable {X : Cx}
theorem small_ok {i j : Int} (h : (small i || small j) = true) : CMul i j := by
  rw [Bool.or_eq_true] at h
  rcases h with h | h
  · exact .inl (of_decide_eq_true h)
  · exact .inr (of_decide_eq_true h)
theorem op_binF (op : Operator) : OpR X (binaryOp op) (r2P X.K (binF op)) := by
  intro pins s σ H x y v u Q I rx ry h
  obtain ⟨G, d1, d2, r, sg, q1, q2, e, k⟩ := h
  unfold binF at e
  split at e
  · cases e
    obtain rfl := q1.int; obtain rfl := q2.int
    exact op_add pins s σ H _ _ v u Q I rx ry ⟨_, _, rfl, rfl, k _ _ _ (.of sg (.int _))⟩
  · cases e
    obtain rfl := q1.int; obtain rfl := q2.int
    exact op_sub pins s σ H _ _ v u Q I rx ry ⟨_, _, rfl, rfl, k _ _ _ (.of sg (.int _))⟩
  · split at e
    · rename_i hc
      cases e
      obtain rfl := q1.int; obtain rfl := q2.int
      exact op_mul pins s σ H _ _ v u Q I rx ry ⟨_, _, rfl, rfl, small_ok hc, k _ _ _ (.of sg (.int _))⟩
    · cases e
  · split at e
    · rename_i hc
      cases e
      obtain rfl := q1.int; obtain rfl := q2.int
      exact op_fdiv pins s σ H _ _ v u Q I rx ry ⟨_, _, rfl, rfl, hc, k _ _ _ (.of sg (.int _))⟩
    · cases e
  · split at e
    · rename_i hc
      cases e
      obtain rfl := q1.int; obtain rfl := q2.int
      exact op_mod pins s σ H _ _ v u Q I rx ry ⟨_, _, rfl, rfl, hc, k _ _ _ (.of sg (.int _))⟩
    · cases e
  · split at e
    · rename_i hc
      cases e
      obtain rfl := q1.int; obtain rfl := q2.int
      exact op_pow pins s σ H _ _ v u Q I rx ry ⟨_, _, rfl, rfl, hc, k _ _ _ (.of sg (.int _))⟩
    · cases e
  · split at e
    · rename_i hc
      cases e
      obtain rfl := q1.str; obtain rfl := q2.str
      exact op_add_str pins s σ H _ _ v u Q I rx ry ⟨_, _, rfl, rfl, hc, k _ _ _ (.of sg (.str _))⟩
    · cases e
  · split at e
    · rename_i hc
      cases e
      obtain ⟨a, vs, rfl, h1, h1g, h2⟩ := q1.tuple sg
      obtain ⟨b, ws, rfl, h3, h3g, h4⟩ := q2.tuple sg
      refine op_catA pins s σ H _ _ v u Q I rx ry ⟨a, b, vs, ws, rfl, rfl, h1, h3, by rw [h2.length, h4.length]; exact hc, fun e0 => ?_, fun _ e0 => ?_, fun _ _ p np => k _ _ _ (.tup sg (h2.append h4) np)⟩
      · subst e0; cases h2
        exact k _ _ _ (.of sg (.tup h3g h4))
      · subst e0; cases h4
        exact k _ _ _ (.of sg (by rw [List.append_nil]; exact .tup h1g h2))
    · cases e
  · split at e
    · rename_i hc
      cases e
      obtain ⟨a, vs, rfl, h1, h2⟩ := q1.list sg
      obtain ⟨b, ws, rfl, h3, h4⟩ := q2.list sg
      exact op_catR pins s σ H _ _ v u Q I rx ry ⟨a, b, vs, ws, rfl, rfl, h1, h3, by rw [h2.length, h4.length]; exact hc, fun p np => k _ _ _ (.lst sg (h2.append h4) np)⟩
    · cases e
  · split at e
    · rename_i hc
      cases e
      obtain rfl := q2.int
      obtain ⟨a, vs, rfl, h1, h1g, h2⟩ := q1.tuple sg
      refine op_repU pins s σ H _ _ v u Q I rx ry ⟨a, _, vs, rfl, rfl, h1, hc.1, hc.2.1, by rw [h2.length]; exact hc.2.2, fun e0 => ?_, fun p np => k _ _ _ (.tup sg (h2.rep _) np)⟩
      refine k _ _ _ (.of sg (.tup h1g ?_))
      rcases e0 with e0 | e0
      · subst e0
        have e1 : ∀ m : Nat, (List.replicate m ([] : List V)).flatten = [] := fun m => by induction m with
          | zero => rfl
          | succ m ih => rw [List.replicate_succ, List.flatten_cons, ih]; rfl
        have := h2.rep (Int.toNat ‹_›)
        rw [e1] at this
        exact this
      · subst e0
        have := h2.rep 1
        rw [List.replicate_succ, List.replicate_zero, List.flatten_cons, List.flatten_nil, List.append_nil] at this
        exact this
    · cases e
  · split at e
    · rename_i hc
      cases e
      obtain rfl := q2.int
      obtain ⟨a, vs, rfl, h1, h2⟩ := q1.list sg
      exact op_repR pins s σ H _ _ v u Q I rx ry ⟨a, _, vs, rfl, rfl, h1, hc.1, hc.2.1, by rw [h2.length]; exact hc.2.2, fun p np => k _ _ _ (.lst sg (h2.rep _) np)⟩
    · cases e
  · cases e
theorem Rq.reads {pins : List (Addr × Obj)} {σ : Sg} {H G : Hp} {s : Shared} {v : V} {u : Value} {x : D} (I : Inv X pins σ H s) (sg : Same G H) (r : Rq X.K H G v x) (rv : RelV v u) (p : x.plain = true) : ∃ as, Reads s.heap u x as :=
  Dp.reads I x v u ((r.rp sg).dp p) rv
theorem shp_ok {x : D} (h : shp x = true) : x.plain = true ∧ x.depth ≤ 64 := by
  unfold shp at h
  rw [Bool.and_eq_true] at h
  exact ⟨h.1, of_decide_eq_true h.2⟩
theorem isNone_ok {v : V} {x : D} {K : PySem.W.Frag} {H G : Hp} (r : Rq K H G v x) : decide (v = .non) = isN x := by
  cases r with
  | fz r => cases r <;> rfl
  | @top a u o h ho => cases o with
    | nod k ts => cases u <;> exact ho.elim
    | _ => rfl
theorem notBool_ok {v : V} {x : D} {K : PySem.W.Frag} {H G : Hp} (r : Rq K H G v x) {b : Bool} {u : Value} (rv : RelV v u) (h : ∀ c, x ≠ .bool c) : plainIs u (.bool b) = true ∧ u ≠ .bool b := by
  have key : ∀ {w : V}, RelV w u → (∀ c, w ≠ .bl c) → (∀ n, w ≠ .ty n) → (∀ n, w ≠ .byt n) → (∀ n, w ≠ .flt n) → plainIs u (.bool b) = true ∧ u ≠ .bool b := by
    intro w rw' hw ht hb hf
    cases w with
    | non => cases rw'; exact ⟨rfl, fun z => nomatch z⟩
    | bl c => exact absurd rfl (hw c)
    | int i => obtain ⟨t, rfl⟩ := rw'; exact ⟨rfl, fun z => nomatch z⟩
    | str i => obtain ⟨t, rfl⟩ := rw'; exact ⟨rfl, fun z => nomatch z⟩
    | byt i => exact absurd rfl (hb i)
    | flt i => exact absurd rfl (hf i)
    | ref a => cases rw'; exact ⟨rfl, fun z => nomatch z⟩
    | ty n => exact absurd rfl (ht n)
  cases r with
  | fz r =>
    refine key rv (fun c z => ?_) (fun c z => ?_) (fun c z => ?_) (fun c z => ?_) <;> subst z <;> cases r
    exact h c rfl
  | @top a w o hh ho => exact key rv (fun c z => nomatch z) (fun c z => nomatch z) (fun c z => nomatch z) (fun c z => nomatch z)
theorem op_isF : OpR X (compareOp .Is) (r2P X.K fun x y => (isF x y).map fun b => .is (.bool b)) := by
  intro pins s σ H x y v u Q I rx ry h
  obtain ⟨G, d1, d2, r, sg, q1, q2, e, k⟩ := h
  cases d2 with
  | none =>
    obtain rfl := q2.none
    refine op_isN pins s σ H _ _ v u Q I rx ry ⟨rfl, ?_⟩
    cases e
    rw [isNone_ok q1]
    exact k _ _ _ (.of sg (.bl _))
  | bool b =>
    obtain rfl := q2.bool
    cases e
    by_cases hb : ∃ c, d1 = .bool c
    · obtain ⟨c, rfl⟩ := hb
      obtain rfl := q1.bool
      refine op_isBl pins s σ H _ _ v u Q I rx ry ⟨c, b, rfl, rfl, ?_⟩
      rw [← Bool.beq_eq_decide_eq]
      exact k _ _ _ (.of sg (.bl _))
    · have hb' : ∀ c, d1 ≠ .bool c := fun c z => hb ⟨c, z⟩
      obtain ⟨h1, h2⟩ := notBool_ok (b := b) q1 rx hb'
      cases ry
      have e0 : isB b d1 = false := by
        cases d1 <;> first | rfl | exact absurd rfl (hb' _)
      rw [e0] at k
      exact wpAny_is_other h1 h2 ⟨.bl false, H, I, rfl, k _ _ _ (.of sg (.bl _))⟩
  | _ => cases e
theorem op_isnF : OpR X (compareOp .IsNot) (r2P X.K fun x y => ((isF x y).map (!·)).map fun b => .is (.bool b)) := by
  intro pins s σ H x y v u Q I rx ry h
  obtain ⟨G, d1, d2, r, sg, q1, q2, e, k⟩ := h
  cases d2 with
  | none =>
    obtain rfl := q2.none
    refine op_notN pins s σ H _ _ v u Q I rx ry ⟨rfl, ?_⟩
    cases e
    rw [isNone_ok q1]
    exact k _ _ _ (.of sg (.bl _))
  | bool b =>
    obtain rfl := q2.bool
    cases e
    by_cases hb : ∃ c, d1 = .bool c
    · obtain ⟨c, rfl⟩ := hb
      obtain rfl := q1.bool
      refine op_notBl pins s σ H _ _ v u Q I rx ry ⟨c, b, rfl, rfl, ?_⟩
      rw [← Bool.beq_eq_decide_eq]
      exact k _ _ _ (.of sg (.bl _))
    · have hb' : ∀ c, d1 ≠ .bool c := fun c z => hb ⟨c, z⟩
      obtain ⟨h1, h2⟩ := notBool_ok (b := b) q1 rx hb'
      cases ry
      have e0 : isB b d1 = false := by
        cases d1 <;> first | rfl | exact absurd rfl (hb' _)
      rw [e0] at k
      exact wpAny_isNot_other h1 h2 ⟨.bl true, H, I, rfl, k _ _ _ (.of sg (.bl _))⟩
  | _ => cases e
theorem inStr_eq (y z : Str) : inStr y z = !(Builtin.Str.occurrences z y 0 z.length 1).isEmpty := by
  unfold inStr
  split
  · rename_i c hc
    have : y = ⟨#[c]⟩ := by
      obtain ⟨⟨l⟩⟩ := y
      have hc : l = [c] := hc
      rw [hc]
    rw [this]
    exact (PySem.StrLaws.found_one z c).symm
  · rfl
theorem inF_ok {neg : Bool} {pins : List (Addr × Obj)} {σ : Sg} {H G : Hp} {s : Shared} {x y : V} {v u : Value} {d1 d2 : D} {b : Bool} {Q : Value → Shared → Prop} {E : Value → Shared → Prop} (hu : X.A.units + 200 < cLine) (I : Inv X pins σ H s) (sg : Same G H) (q1 : Rq X.K H G x d1) (q2 : Rq X.K H G y d2) (rx : RelV x v) (ry : RelV y u)
    (e : inF d1 d2 = some b) (h : ∀ s', Inv X pins σ H s' → Q (.bool (if neg then !b else b)) s') : wpAny (model X.prog X.w) X.A (compareOp (if neg then .NotIn else .In) v u) Q E s := by
  have bound : ∀ {ys : List D}, PyData.depthAll ys ≤ 64 → ∀ {z : D}, z.depth ≤ 64 → X.A.units + 1 + min (PyData.depthAll ys) z.depth < cLine := fun h1 z h2 => by omega
  cases d2 with
  | list ys =>
    unfold inF at e
    simp only at e
    split at e
    · rename_i hc
      rw [Bool.and_eq_true] at hc
      cases e
      obtain ⟨p1, e1⟩ := shp_ok hc.1
      obtain ⟨p2, e2⟩ := shp_ok hc.2
      obtain ⟨as, r1⟩ := Rq.reads I sg q1 rx p1
      obtain ⟨bs, r2⟩ := Rq.reads I sg q2 ry p2
      have p2' : PyData.plainAll ys = true := by simpa only [PyData.plain] using p2
      have e2' : PyData.depthAll ys ≤ 64 := by simp only [PyData.depth] at e2; omega
      cases neg with
      | false => exact SeqAt.in_list_data r2 r1 p2' p1 (bound e2' e1) (h _ I)
      | true => exact SeqAt.notIn_list_data r2 r1 p2' p1 (bound e2' e1) (h _ I)
    · cases e
  | tuple ys =>
    unfold inF at e
    simp only at e
    split at e
    · rename_i hc
      rw [Bool.and_eq_true] at hc
      cases e
      obtain ⟨p1, e1⟩ := shp_ok hc.1
      obtain ⟨p2, e2⟩ := shp_ok hc.2
      obtain ⟨as, r1⟩ := Rq.reads I sg q1 rx p1
      obtain ⟨bs, r2⟩ := Rq.reads I sg q2 ry p2
      have p2' : PyData.plainAll ys = true := by simpa only [PyData.plain] using p2
      have e2' : PyData.depthAll ys ≤ 64 := by simp only [PyData.depth] at e2; omega
      cases neg with
      | false => exact SeqAt.in_tuple_data r2 r1 p2' p1 (bound e2' e1) (h _ I)
      | true => exact SeqAt.notIn_tuple_data r2 r1 p2' p1 (bound e2' e1) (h _ I)
    · cases e
  | dict kvs =>
    unfold inF at e
    simp only at e
    split at e
    · rename_i hc
      rw [Bool.and_eq_true] at hc
      cases e
      obtain ⟨k, rfl, rfl⟩ := isKey_rp hc.1 (q1.rp sg)
      obtain ⟨a, vs, rfl, h1, h2⟩ := q2.dict hc.2 sg
      cases ry
      have e1 : (valV vs k).isSome = (dget kvs (keyD k)).isSome := by
        rcases h2.get k with ⟨w1, w2⟩ | ⟨w, d, w1, w2, _⟩ <;> rw [w1, w2] <;> rfl
      rw [← e1] at h
      cases neg with
      | false => exact d_in (by omega) I (DGet.k h1) rx h
      | true => exact d_notIn (by omega) I (DGet.k h1) rx h
    · cases e
  | str z =>
    unfold inF at e
    simp only at e
    split at e
    · rename_i y
      cases e
      obtain rfl := q1.str
      obtain rfl := q2.str
      obtain ⟨t1, rfl⟩ := rx
      obtain ⟨t2, rfl⟩ := ry
      rw [inStr_eq] at h
      cases neg with
      | false => exact PyProof.Rows.in_str (h s I)
      | true => exact PyProof.Rows.notIn_str (h s I)
    · cases e
  | _ => cases e
theorem op_cmpF (op : CmpOp) (hu : X.A.units + 200 < cLine) : OpR X (compareOp op) (r2P X.K fun x y => (cmpF op x y).map fun b => .is (.bool b)) := by
  intro pins s σ H x y v u Q I rx ry h
  obtain ⟨G, d1, d2, r, sg, q1, q2, e, k⟩ := h
  rw [Option.map_eq_some_iff] at e
  obtain ⟨b, e, rfl⟩ := e
  unfold cmpF at e
  split at e
  · split at e
    · rename_i hc
      rw [Bool.and_eq_true] at hc
      cases e
      obtain ⟨p1, e1⟩ := shp_ok hc.1
      obtain ⟨p2, e2⟩ := shp_ok hc.2
      obtain ⟨as, r1⟩ := Rq.reads I sg q1 rx p1
      obtain ⟨bs, r2⟩ := Rq.reads I sg q2 ry p2
      exact SeqAt.eq_plain r1 r2 p1 p2 (by omega) ⟨.bl _, H, I, rfl, k _ _ _ (.of sg (.bl _))⟩
    · cases e
  · split at e
    · rename_i hc
      rw [Bool.and_eq_true] at hc
      cases e
      obtain ⟨p1, e1⟩ := shp_ok hc.1
      obtain ⟨p2, e2⟩ := shp_ok hc.2
      obtain ⟨as, r1⟩ := Rq.reads I sg q1 rx p1
      obtain ⟨bs, r2⟩ := Rq.reads I sg q2 ry p2
      exact SeqAt.ne_plain r1 r2 p1 p2 (by omega) ⟨.bl _, H, I, rfl, k _ _ _ (.of sg (.bl _))⟩
    · cases e
  · cases e
    obtain rfl := q1.int; obtain rfl := q2.int
    exact op_lt pins s σ H _ _ v u Q I rx ry ⟨_, _, rfl, rfl, k _ _ _ (.of sg (.bl _))⟩
  · cases e
    obtain rfl := q1.int; obtain rfl := q2.int
    exact op_le pins s σ H _ _ v u Q I rx ry ⟨_, _, rfl, rfl, k _ _ _ (.of sg (.bl _))⟩
  · cases e
    obtain rfl := q1.int; obtain rfl := q2.int
    exact op_gt pins s σ H _ _ v u Q I rx ry ⟨_, _, rfl, rfl, k _ _ _ (.of sg (.bl _))⟩
  · cases e
    obtain rfl := q1.int; obtain rfl := q2.int
    exact op_ge pins s σ H _ _ v u Q I rx ry ⟨_, _, rfl, rfl, k _ _ _ (.of sg (.bl _))⟩
  · exact op_isF pins s σ H _ _ v u Q I rx ry ⟨G, d1, d2, _, sg, q1, q2, (by show Option.map _ (isF d1 d2) = _; rw [e]; rfl), k⟩
  · exact op_isnF pins s σ H _ _ v u Q I rx ry ⟨G, d1, d2, _, sg, q1, q2, (by show Option.map _ (Option.map _ (isF d1 d2)) = _; rw [e]; rfl), k⟩
  · exact inF_ok (neg := false) hu I sg q1 q2 rx ry e fun s' I' => ⟨.bl _, H, I', rfl, k _ _ _ (.of sg (.bl _))⟩
  · rw [Option.map_eq_some_iff] at e
    obtain ⟨c, e, rfl⟩ := e
    exact inF_ok (neg := true) hu I sg q1 q2 rx ry e fun s' I' => ⟨.bl _, H, I', rfl, k _ _ _ (.of sg (.bl _))⟩
  · cases e
theorem at_ok {K : PySem.W.Frag} {G : Hp} {vs : List V} {xs : List D} {i : Int} {x : D} (h : RpL K G vs xs) (e : at? xs i = some x) : ∃ v, atI vs i = some v ∧ Rp K G v x := by
  unfold at? atI at e
  rw [Option.bind_eq_some_iff] at e
  obtain ⟨j, e1, e2⟩ := e
  obtain ⟨v, h1, h2⟩ := h.get e2
  refine ⟨v, ?_, h2⟩
  unfold atI
  rw [h.length, e1]
  exact h1
theorem ix_F (hu : X.A.units + 200 < cLine) : IxR X (r2P X.K idxF) := by
  intro value slice pins s σ H x y v u Q I rx ry h hs
  obtain ⟨G, d1, d2, r, sg, q1, q2, e, k⟩ := h
  unfold idxF at e
  split at e
  · rw [Option.map_eq_some_iff] at e
    obtain ⟨z, e, rfl⟩ := e
    obtain rfl := q2.int
    obtain ⟨a, vs, rfl, h1, h2⟩ := q1.list sg
    obtain ⟨w, e1, h3⟩ := at_ok h2 e
    exact ix_list value slice pins s σ H _ _ v u Q I rx ry ⟨a, vs, _, w, rfl, rfl, .inl h1, e1, k _ _ _ (.of sg h3)⟩ hs
  · rw [Option.map_eq_some_iff] at e
    obtain ⟨z, e, rfl⟩ := e
    obtain rfl := q2.int
    obtain ⟨a, vs, rfl, h1, _, h2⟩ := q1.tuple sg
    obtain ⟨w, e1, h3⟩ := at_ok h2 e
    exact ix_tup value slice pins s σ H _ _ v u Q I rx ry ⟨a, vs, _, w, rfl, rfl, h1, e1, k _ _ _ (.of sg h3)⟩ hs
  · split at e
    · rename_i hz
      rw [Option.map_eq_some_iff] at e
      obtain ⟨z, e, rfl⟩ := e
      obtain rfl := q2.int
      obtain rfl := q1.str
      exact ix_str value slice pins s σ H _ _ v u Q I rx ry ⟨_, _, z, rfl, rfl, hz, e, k _ _ _ (.of sg (.str _))⟩ hs
    · cases e
  · split at e
    · rename_i hc
      rw [Bool.and_eq_true] at hc
      rw [Option.map_eq_some_iff] at e
      obtain ⟨z, e, rfl⟩ := e
      obtain ⟨k0, rfl, rfl⟩ := isKey_rp hc.1 (q2.rp sg)
      obtain ⟨a, vs, rfl, h1, h2⟩ := q1.dict hc.2 sg
      rcases h2.get k0 with ⟨w1, w2⟩ | ⟨w, d, w1, w2, w3⟩
      · rw [w2] at e; cases e
      · rw [w2] at e
        cases e
        have g := DGet.k (k := k0) h1
        rw [w1] at g
        cases rx
        unfold subscriptTail
        have hT := dict_typeIs I g
        refine wpAny_bind ?_
        rw [getitemInPython_of_ne hT.not_modules]
        refine wpAny_bind (wpAny_specialOf hT PySem.F.slot_dict_getitem.lookup ?_)
        have fin : wpAny (model X.prog X.w) X.A (subscripted slice false (.ref a) u) (fun r s₃ => wpAny (model X.prog X.w) X.A (letTemporaryGo value (.ref a) r >>= fun _ => pure r) (EP X pins σ Q) X.xe s₃) X.xe s := by
          rw [hs]
          refine wpAny_operating (d_getItem (by omega) I g ry fun w' s3 I3 rw' => wpAny_bind (wpAny_letTemporaryGo (wpAny_pure ⟨w, H, I3, rw', k _ _ _ (.of sg w3)⟩)))
        first
          | exact wpAny_pure (wpAny_bind fin)
          | exact wpAny_bind (wpAny_pure (wpAny_bind fin))
          | exact wpAny_bind fin
    · cases e
  · cases e
theorem cut_ok {K : PySem.W.Frag} {G : Hp} {vs : List V} {xs : List D} (h : RpL K G vs xs) (lo hi : Option Int) : RpL K G (cutV vs lo hi) (cut xs lo hi) := by
  unfold cutV cut
  rw [h.length]
  exact (h.drop _).take _
def rSlP (K : PySem.W.Frag) : V → Option Int → Option Int → Hp → VK → Prop := fun x lo hi H Q => ∃ G d r, Same G H ∧ Rq K H G x d ∧ slcF d lo hi = some r ∧ ∀ v H' G', Pst K H G v r H' G' → Q v H'
theorem sl_F : SlR X (rSlP X.K) := by
  intro pins s σ H x v vl vu lo hi sl Q I rx hs pl pu h
  obtain ⟨G, d, r, sg, q1, e, k⟩ := h
  unfold slcF at e
  split at e
  · cases e
    obtain ⟨a, vs, rfl, h1, h2⟩ := q1.list sg
    exact sl_list pins s σ H _ v vl vu lo hi sl Q I rx hs pl pu ⟨a, vs, rfl, .inl h1, fun p np => k _ _ _ (.lst sg (cut_ok h2 lo hi) np)⟩
  · cases e
    obtain ⟨a, vs, rfl, h1, h1g, h2⟩ := q1.tuple sg
    refine sl_tupA pins s σ H _ v vl vu lo hi sl Q I rx hs pl pu ⟨a, vs, rfl, h1, fun hw => ?_, fun _ p np => k _ _ _ (.tup sg (cut_ok h2 lo hi) np)⟩
    refine k _ _ _ (.of sg (.tup h1g ?_))
    have e1 : cutV vs lo hi = vs := by
      unfold cutV
      rw [hw.1, hw.2, List.drop_zero, Nat.sub_zero, List.take_length]
    rw [← e1]
    exact cut_ok h2 lo hi
  · split at e
    · rename_i hz
      cases e
      obtain rfl := q1.str
      exact sl_str pins s σ H _ v vl vu lo hi sl Q I rx hs pl pu ⟨_, rfl, hz, k _ _ _ (.of sg (.str _))⟩
    · cases e
  · rw [Option.map_eq_some_iff] at e
    obtain ⟨xs, e1, rfl⟩ := e
    have e2 := klOf_eq e1
    subst e2
    obtain ⟨a, vs, rfl, h1, h2⟩ := q1.kl sg
    exact sl_list pins s σ H _ v vl vu lo hi sl Q I rx hs pl pu ⟨a, vs, rfl, h1, fun p np => k _ _ _ (.lst sg (cut_ok h2 lo hi) np)⟩
  · cases e
end

/-! ### built-ins -/
section
variable {X : Cx}
theorem cr_len : CallR X (.builtin "len") (rP X.K (bltF .len)) := by
  intro pins s σ H vs us Q I rv h
  obtain ⟨G, xs, r, sg, qs, e, k⟩ := h
  unfold bltF at e
  split at e <;> try cases e
  all_goals try contradiction
  rw [Option.map_eq_some_iff] at e
  obtain ⟨n, e, rfl⟩ := e
  obtain ⟨v, rfl, q⟩ := one_q qs
  unfold lenF at e
  split at e
  · cases e
    obtain ⟨a, ws, rfl, h1, h2⟩ := q.list sg
    refine call_len_seq pins s σ H _ us Q I rv ⟨a, ws, rfl, .inl (.inl h1), ?_⟩
    rw [h2.length]
    exact k _ _ _ (.of sg (.int _))
  · cases e
    obtain ⟨a, ws, rfl, h1, _, h2⟩ := q.tuple sg
    refine call_len_seq pins s σ H _ us Q I rv ⟨a, ws, rfl, .inr h1, ?_⟩
    rw [h2.length]
    exact k _ _ _ (.of sg (.int _))
  · split at e
    · rename_i hz
      cases e
      obtain rfl := q.str
      exact call_len_str pins s σ H _ us Q I rv ⟨_, rfl, hz, k _ _ _ (.of sg (.int _))⟩
    · cases e
  · split at e
    · rename_i hz
      cases e
      obtain ⟨a, ws, rfl, h1, h2⟩ := q.dict hz sg
      rw [Vals.ref1 rv]
      refine d_len I (.inl h1) fun t s' I' => ⟨.int (ws.length : Int), H, I', ⟨t, rfl⟩, ?_⟩
      rw [h2.length]
      exact k _ _ _ (.of sg (.int _))
    · cases e
  · cases e
end
end PL

/-! PL4: the built-ins keep their word. -/
namespace PL
open PySem PySem.Spec
open PyProof.Rows L2
section
variable {X : Cx}
theorem cr_abs : CallR X (.builtin "abs") (rP X.K (bltF .abs)) := by
  intro pins s σ H vs us Q I rv h
  obtain ⟨G, xs, r, sg, qs, e, k⟩ := h
  unfold bltF at e
  split at e <;> try contradiction
  cases e
  obtain ⟨v, rfl, q⟩ := one_q qs
  obtain rfl := q.int
  exact call_abs pins s σ H _ us Q I rv ⟨_, rfl, k _ _ _ (.of sg (.int _))⟩
theorem cr_int : CallR X (.type "int") (rP X.K (bltF .int)) := by
  intro pins s σ H vs us Q I rv h
  obtain ⟨G, xs, r, sg, qs, e, k⟩ := h
  unfold bltF at e
  split at e <;> try contradiction
  · cases e
    obtain ⟨v, rfl, q⟩ := one_q qs
    obtain rfl := q.int
    exact call_int1 pins s σ H _ us Q I rv (.inl ⟨_, rfl, k _ _ _ (.of sg (.int _))⟩)
  · cases e
    obtain ⟨v, rfl, q⟩ := one_q qs
    obtain rfl := q.bool
    exact call_int1 pins s σ H _ us Q I rv (.inr ⟨_, rfl, k _ _ _ (.of sg (.int _))⟩)
theorem cr_tuple : CallR X (.type "tuple") (rP X.K (bltF .tuple)) := by
  intro pins s σ H vs us Q I rv h
  obtain ⟨G, xs, r, sg, qs, e, k⟩ := h
  unfold bltF at e
  split at e <;> try contradiction
  · cases e
    obtain ⟨v, rfl, q⟩ := one_q qs
    obtain ⟨a, ws, rfl, h1, h2⟩ := q.list sg
    exact call_tuple_of pins s σ H _ us Q I rv ⟨a, ws, rfl, .inl ⟨.inl h1, fun l nl => k _ _ _ (.tup sg h2 nl)⟩⟩
  · cases e
    obtain ⟨v, rfl, q⟩ := one_q qs
    obtain ⟨a, ws, rfl, h1, h1g, h2⟩ := q.tuple sg
    exact call_tuple_of pins s σ H _ us Q I rv ⟨a, ws, rfl, .inr ⟨h1, k _ _ _ (.of sg (.tup h1g h2))⟩⟩
theorem cr_list (hc : X.calm = true) : CallR X (.type "list") (rP X.K (bltF .list)) := by
  intro pins s σ H vs us Q I rv h
  obtain ⟨G, xs, r, sg, qs, e, k⟩ := h
  unfold bltF at e
  split at e <;> try contradiction
  · cases e
    obtain ⟨v, rfl, q⟩ := one_q qs
    obtain ⟨a, ws, rfl, h1, h2⟩ := q.list sg
    exact call_list_of pins s σ H _ us Q I rv ⟨a, ws, rfl, .inl (.inl h1), fun l nl => k _ _ _ (.lst sg h2 nl)⟩
  · cases e
    obtain ⟨v, rfl, q⟩ := one_q qs
    obtain ⟨a, ws, rfl, h1, h1g, h2⟩ := q.tuple sg
    exact call_list_of pins s σ H _ us Q I rv ⟨a, ws, rfl, .inr h1, fun l nl => k _ _ _ (.lst sg h2 nl)⟩
  · split at e
    · rename_i hk
      cases e
      obtain ⟨v, rfl, q⟩ := one_q qs
      obtain ⟨a, ws, rfl, h1, h2⟩ := q.dict hk sg
      exact call_list_dK hc pins s σ H _ us Q I rv ⟨a, ws, rfl, h1, fun l nl => k _ _ _ (.lst sg h2.keyL nl)⟩
    · cases e
theorem cr_sumF (hc : X.calm = true) : CallR X (.builtin "sum") (rP X.K (bltF .sum)) := by
  intro pins s σ H vs us Q I rv h
  obtain ⟨G, xs, r, sg, qs, e, k⟩ := h
  unfold bltF at e
  split at e <;> try contradiction
  rw [Option.map_eq_some_iff] at e
  obtain ⟨ns, e, rfl⟩ := e
  obtain ⟨v, rfl, q⟩ := one_q qs
  obtain ⟨a, ws, rfl, h1, h2⟩ := q.list sg
  obtain rfl := h2.ints e
  exact cr_sum hc pins s σ H _ us Q I rv ⟨a, ns, rfl, .inl h1, k _ _ _ (.of sg (.int _))⟩
theorem cr_max2 (hc : X.calm = true) : CallR X (.builtin "max") (rP X.K (bltF .max2)) := by
  intro pins s σ H vs us Q I rv h
  obtain ⟨G, xs, r, sg, qs, e, k⟩ := h
  unfold bltF at e
  split at e <;> try contradiction
  cases e
  obtain ⟨v, w, rfl, q, q'⟩ := two_q qs
  obtain rfl := q.int
  obtain rfl := q'.int
  exact call_max2 hc pins s σ H _ us Q I rv ⟨_, _, rfl, k _ _ _ (.of sg (.int _))⟩
theorem cr_min2 (hc : X.calm = true) : CallR X (.builtin "min") (rP X.K (bltF .min2)) := by
  intro pins s σ H vs us Q I rv h
  obtain ⟨G, xs, r, sg, qs, e, k⟩ := h
  unfold bltF at e
  split at e <;> try contradiction
  cases e
  obtain ⟨v, w, rfl, q, q'⟩ := two_q qs
  obtain rfl := q.int
  obtain rfl := q'.int
  exact call_min2 hc pins s σ H _ us Q I rv ⟨_, _, rfl, k _ _ _ (.of sg (.int _))⟩
/-! ### sorted -/
def StandsF (K : PySem.W.Frag) (G : Hp) (u : Value) (d : D) : Prop := ∃ v, RelV v u ∧ Rp K G v d
open PySem.W in
theorem each_stands {K : PySem.W.Frag} {G : Hp} : ∀ {vs : List V} {us : List Value} {xs : List D}, Vals vs us → RpL K G vs xs → EachIs (StandsF K G) us xs
  | _, _, _, .nil, .nil => .nil
  | _, _, _, .cons r t, .cons q p => .cons ⟨_, r, q⟩ (each_stands t p)
open PySem.W in
theorem stands_back {K : PySem.W.Frag} {G : Hp} : ∀ {us : List Value} {xs : List D}, EachIs (StandsF K G) us xs → ∃ vs, Vals vs us ∧ RpL K G vs xs
  | _, _, .nil => ⟨[], .nil, .nil⟩
  | _, _, .cons ⟨v, r, q⟩ t => by
    obtain ⟨vs, h1, h2⟩ := stands_back t
    exact ⟨v :: vs, .cons r h1, .cons q h2⟩
open PySem.W in
theorem each_reads {pins : List (Addr × Obj)} {σ : Sg} {H : Hp} {s : Shared} (I : Inv X pins σ H s) : ∀ {vs : List V} {us : List Value} {xs : List D}, Vals vs us → RpL X.K H vs xs → (∀ x ∈ xs, x.plain = true) → EachIs (fun v b => ∃ as, Reads s.heap v (id b) as) us xs
  | _, _, _, .nil, .nil, _ => .nil
  | _, _, _, .cons r t, .cons q p, h => .cons (Dp.reads I _ _ _ (q.dp (h _ List.mem_cons_self)) r) (each_reads I t p fun x hx => h x (List.mem_cons_of_mem _ hx))
theorem sort_fit {xs : List D} (h : sortOk xs = true) : PySem.W.AllAlike (xs.map id) ∧ PySem.W.Sortable (xs.map id) ∧ xs.length ≤ sizeLine ∧ ∀ x ∈ xs, x.plain = true ∧ x.depth ≤ 64 := by
  unfold sortOk at h
  simp only [Bool.and_eq_true, decide_eq_true_eq, List.all_eq_true] at h
  obtain ⟨⟨⟨h1, h2⟩, h3⟩, h4⟩ := h
  rw [List.map_id]
  refine ⟨fun d hd d' hd' => h1 d hd d' hd', ?_, h3, fun x hx => shp_ok (h4 x hx)⟩
  rw [Bool.or_eq_true, List.all_eq_true, List.all_eq_true] at h2
  rcases h2 with h2 | h2
  · refine .inl fun d hd => ?_
    have := h2 d hd
    unfold tupNE at this
    split at this
    · exact ⟨_, _, rfl⟩
    · cases this
  · refine .inr fun d hd => ?_
    have := h2 d hd
    unfold notNT at this
    split at this
    · cases this
    · cases this
    · rename_i a b
      exact ⟨fun z => a z, fun ys z => b ys z⟩
theorem cr_sortedF (hu : X.A.units + 200 < cLine) : CallR X (.builtin "sorted") (rP X.K (bltF .sorted)) := by
  intro pins s σ H vs us Q I rv h
  obtain ⟨G, xs, r, sg, qs, e, k⟩ := h
  unfold bltF at e
  split at e <;> try contradiction
  split at e
  · rename_i hs
    cases e
    obtain ⟨v, rfl, q⟩ := one_q qs
    obtain ⟨a, ws, rfl, h1, h2⟩ := q.list sg
    obtain ⟨z, its, n, ri, hl, hobj⟩ := PL.Inv.lstR I h1
    rw [Vals.ref1 rv]
    obtain ⟨s1, s2, s3, s4⟩ := sort_fit hs
    refine PySem.W.sorted_data (bs := _) (enc := id) (R := StandsF X.K G) ⟨_, hobj, rfl, _, rfl⟩ (each_stands ri h2) (each_reads I ri (h2.mono sg) fun x hx => (s4 x hx).1) s1 s2 s3 (fun b hb => by have := (s4 b hb).2; show X.A.units + 2 + b.depth < cLine; omega) fun out ho eo => ?_
    obtain ⟨vs', h5, h6⟩ := stands_back eo
    obtain ⟨ep, he'⟩ := PyProof.Rows.sortedAll_at s.heap its out.toArray
    have hn := I.hok.fresh (Nat.le_succ s.heap.objs.size)
    refine ⟨.ref _, upd H (s.heap.objs.size + 1) (.lst vs'), I.laid (t' := s.toks) (fun _ _ => PyProof.Rows.sortedAll_old) (Nat.le_succ _) ⟨?_, out, ep, h5, he'⟩, rfl, k _ _ _ (.lst sg h6 hn)⟩
    rw [h5.length, ho]; exact s3
  · cases e
/-! ### isinstance -/
theorem kitB_ok {t T : String} (ht : t = "NoneType" ∨ t = "bool" ∨ t = "int" ∨ t = "str" ∨ t = "list" ∨ t = "tuple" ∨ t = "dict") (h : isiT T = true) : kitB t T = some (isiB t T) := by
  unfold isiT at h
  simp only [Bool.or_eq_true, beq_iff_eq] at h
  rcases h with ((((h | h) | h) | h) | h) | h <;> subst h <;> rcases ht with h | h | h | h | h | h | h <;> subst h <;> decide +kernel
theorem tyN_ok (x : D) : tyN x = "NoneType" ∨ tyN x = "bool" ∨ tyN x = "int" ∨ tyN x = "str" ∨ tyN x = "list" ∨ tyN x = "tuple" ∨ tyN x = "dict" := by
  cases x <;> simp [tyN]
theorem tyx_ok {K : PySem.W.Frag} {H G : Hp} {v : V} {x : D} (nd : isD x = false) (sg : Same G H) (q : Rq K H G v x) : TyX K H v (.type (tyN x)) := by
  have key := q.rp sg
  cases key with
  | non => exact .base .non
  | bl b => exact .base (.bl b)
  | int i => exact .base (.int i)
  | str z => exact .base (.str z)
  | lst h1 h2 =>
    rcases h1 with h1 | ⟨o, h1⟩
    · exact .base (.lst h1)
    · exact .base (.frz h1)
  | tup h1 h2 =>
    rcases h1 with (h1 | ⟨o, h1⟩) | ⟨o, its, n, h1, h3, _⟩
    · exact .base (.tup h1)
    · exact .fTuple h1
    · exact .kTuple h1 h3
  | dic h1 h2 => cases nd
  | kl h1 h2 => cases nd
def rIsiP (K : PySem.W.Frag) (T : String) : List V → Hp → VK → Prop := fun vs H Q => ∃ v w G x r, vs = [v, w] ∧ w = .ty T ∧ Same G H ∧ Rq K H G v x ∧ isiF T x = some r ∧ ∀ v H' G', Pst K H G v r H' G' → Q v H'
theorem cr_isi (T : String) : CallR X (.builtin "isinstance") (rIsiP X.K T) := by
  intro pins s σ H vs us Q I rv h
  obtain ⟨v, w, G, x, r, rfl, rfl, sg, q, e, k⟩ := h
  unfold isiF at e
  split at e
  · rename_i hT
    rw [Bool.and_eq_true, Bool.not_eq_true'] at hT
    obtain ⟨hT, nd⟩ := hT
    cases e
    exact call_isi pins s σ H _ us Q I rv ⟨v, .ty T, .type (tyN x), .type T, _, rfl, .ty T, tyx_ok nd sg q, kit_ty (kitB_ok (tyN_ok x) hT), k _ _ _ (.of sg (.bl _))⟩
  · cases e
theorem max?_ok {ns : List Int} {m : Int} (h : ns.max? = some m) : 0 < ns.length ∧ ∀ k, k ∈ ns → (∀ y, y ∈ ns → y ≤ k) → k = m := by
  have h' := List.max?_eq_some_iff.mp h
  refine ⟨List.length_pos_of_mem h'.1, fun k hk hm => Int.le_antisymm (h'.2 k hk) (hm m h'.1)⟩
theorem min?_ok {ns : List Int} {m : Int} (h : ns.min? = some m) : 0 < ns.length ∧ ∀ k, k ∈ ns → (∀ y, y ∈ ns → k ≤ y) → k = m := by
  have h' := List.min?_eq_some_iff.mp h
  refine ⟨List.length_pos_of_mem h'.1, fun k hk hm => Int.le_antisymm (hm m h'.1) (h'.2 k hk)⟩
theorem cr_max1 (hc : X.calm = true) : CallR X (.builtin "max") (rP X.K (bltF .max1)) := by
  intro pins s σ H vs us Q I rv h
  obtain ⟨G, xs, r, sg, qs, e, k⟩ := h
  unfold bltF at e
  split at e <;> try contradiction
  rw [Option.bind_eq_some_iff] at e
  obtain ⟨ns, e, e2⟩ := e
  rw [Option.map_eq_some_iff] at e2
  obtain ⟨m, e2, rfl⟩ := e2
  obtain ⟨v, rfl, q⟩ := one_q qs
  obtain ⟨a, ws, rfl, h1, h2⟩ := q.list sg
  obtain rfl := h2.ints e
  obtain ⟨l1, l2⟩ := max?_ok e2
  exact cr_max hc pins s σ H _ us Q I rv ⟨a, ns, rfl, .inl h1, l1, fun m' h3 h4 => by rw [l2 m' h3 h4]; exact k _ _ _ (.of sg (.int _))⟩
theorem cr_min1 (hc : X.calm = true) : CallR X (.builtin "min") (rP X.K (bltF .min1)) := by
  intro pins s σ H vs us Q I rv h
  obtain ⟨G, xs, r, sg, qs, e, k⟩ := h
  unfold bltF at e
  split at e <;> try contradiction
  rw [Option.bind_eq_some_iff] at e
  obtain ⟨ns, e, e2⟩ := e
  rw [Option.map_eq_some_iff] at e2
  obtain ⟨m, e2, rfl⟩ := e2
  obtain ⟨v, rfl, q⟩ := one_q qs
  obtain ⟨a, ws, rfl, h1, h2⟩ := q.list sg
  obtain rfl := h2.ints e
  obtain ⟨l1, l2⟩ := min?_ok e2
  exact cr_min hc pins s σ H _ us Q I rv ⟨a, ns, rfl, .inl h1, l1, fun m' h3 h4 => by rw [l2 m' h3 h4]; exact k _ _ _ (.of sg (.int _))⟩
theorem cr_strF : CallR X (.type "str") (rP X.K (bltF .str)) := by
  intro pins s σ H vs us Q I rv h
  obtain ⟨G, xs, r, sg, qs, e, k⟩ := h
  unfold bltF at e
  split at e <;> try contradiction
  · cases e
    obtain ⟨v, rfl, q⟩ := one_q qs
    obtain rfl := q.str
    exact SkE.call_str_str pins s σ H _ us Q I rv ⟨_, rfl, k _ _ _ (.of sg (.str _))⟩
  · split at e
    · rename_i hz
      cases e
      obtain ⟨v, rfl, q⟩ := one_q qs
      obtain rfl := q.int
      exact call_str_int pins s σ H _ us Q I rv ⟨_, rfl, hz, k _ _ _ (.of sg (.str _))⟩
    · cases e
theorem hasDict_plain : ∀ {d : D}, d.plain = true → d.hasDict = false
  | .none, _ => rfl
  | .bool _, _ => rfl
  | .int _, _ => rfl
  | .str _, _ => rfl
  | .list xs, h => by
    simp only [PyData.hasDict]
    simp only [PyData.plain] at h
    exact allD h
  | .tuple xs, h => by
    simp only [PyData.hasDict]
    simp only [PyData.plain] at h
    exact allD h
  | .dict _, h => by simp [PyData.plain] at h
where
  allD : ∀ {xs : List D}, PyData.plainAll xs = true → PyData.hasDictAll xs = false
    | [], _ => rfl
    | x :: xs, h => by
      simp only [PyData.plainAll, Bool.and_eq_true] at h
      simp only [PyData.hasDictAll, hasDict_plain h.1, allD h.2, Bool.or_false]
theorem cr_reprF (hg : X.A.guards = some []) (hu : X.A.units + 200 < cLine) : CallR X (.builtin "repr") (rP X.K (bltF .repr)) := by
  intro pins s σ H vs us Q I rv h
  obtain ⟨G, xs, r, sg, qs, e, k⟩ := h
  unfold bltF at e
  split at e <;> try contradiction
  rename_i x _
  split at e
  · rename_i hz
    cases e
    unfold showOk at hz
    simp only [Bool.and_eq_true, decide_eq_true_eq] at hz
    obtain ⟨⟨⟨z1, z2⟩, z3⟩, z4⟩ := hz
    obtain ⟨v, rfl, q⟩ := one_q qs
    obtain ⟨u, rfl, ru⟩ := rv.one
    obtain ⟨as, rd⟩ := Rq.reads I sg q ru z1
    have fin : ∀ {s' : Shared} {t : Tok}, Inv X pins σ H s' → EP X pins σ Q (.str x.shown t) s' := fun I' => ⟨.str x.shown, H, I', ⟨_, rfl⟩, k _ _ _ (.of sg (.str _))⟩
    cases hx : u with
    | ref a =>
      subst hx
      exact repr_of_reads' rd z2 (fun e0 => by rw [hasDict_plain z1] at e0; cases e0) hg (by omega) (fun _ _ e0 => e0) (fun h' u tk hk => fin (I.kept hk)) z4
    | _ =>
      subst hx
      cases rd <;> first
        | exact PySem.P.repr_of_none (fin (I.tok _))
        | exact PySem.P.repr_of_bool (fin (I.tok _))
        | exact PySem.P.repr_of_int (by simpa [PyData.showable] using z2) (fin (I.tok _))
        | exact PySem.P.repr_of_str (fin (I.tok _)) z4
  · cases e
end
end PL

/-! PLG: promises of defs that are called where no repr is under way. -/
namespace PL
open PySem PySem.Spec
open PyProof.Rows L2
/-- what a def keeps, where no guard of a repr stands -/
structure FnG (P : Program) (w : World) (K : PySem.W.Frag) (mg : Str → Option Value) (base : Heap) (Cc : CXT) (k : Nat) (f : Addr) (fd : FuncData) (ps : List Str) (sp : Sp) : Prop where
  count : ∀ vs H Q E, sp vs H Q E → vs.length = ps.length
  runs : ∀ (A : Around) (outer : List Env) (s : Shared) (H : Hp) (args : Args) (us : List Value) (vs : List V) (Q : VK) (E : XK),
    A.guards = some [] → Room k A → Env0 P w K mg base A outer s H → BindsTo s fd args (ps.zip us) → Vals vs us →
    sp vs H Q E → codeAny (model P w) A (.call (.ref f) args) (CR Cc outer P w H s Q E) s
section
variable {X : Cx} {Cc : CXT} {k : Nat} {f : Addr} {fd : FuncData} {ps : List Str} {sp : Sp} {dvs : List V} {ds : List Value} {E : XK} {x : Str} {p pos : Pos} {e : Expr} {es : List Expr} {t : TA}
theorem goG {pins : List (Addr × Obj)} {σ : Sg} {H : Hp} {s : Shared} {Q : VK} {us : List Value} {vs : List V} (F : FnG X.prog X.w X.K X.mg X.base Cc k f fd ps sp)
    (hgd : X.A.guards = some []) (hr : Room k X.A) (hb : Binds X.K fd ps ds) (hd : Vals dvs ds) (hx : Passes Cc X E) (I : Inv X pins σ H s) (r : Vals vs us)
    (h : sp (vs ++ dvs) H Q E) : wpAny (model X.prog X.w) X.A (call (.ref f) us) (EP X pins σ Q) X.xe s := by
  have all := r.append hd
  have hl : (us ++ ds).length = ps.length := (all.length).symm.trans (F.count _ _ _ _ h)
  refine wpAny_call (codeAny_mono (F.runs X.A X.stack s H ⟨us, []⟩ _ _ Q E hgd hr I.env0 (hb s us I.kIn hl) all h) ?_)
  intro r s' hq
  match r, hq with
  | .error e, hq => exact hx pins σ H s e s' I hq
  | .ok (.ret u), hq => exact I.after hq
  | .ok .next, hq => exact hq.elim
  | .ok .brk, hq => exact hq.elim
  | .ok .cont, hq => exact hq.elim
theorem pe_callG (F : FnG X.prog X.w X.K X.mg X.base Cc k f fd ps sp) (hgd : X.A.guards = some []) (hr : Room k X.A) (hg : Gl X x) (hm : X.mg x = some (.ref f))
    (hk : PySem.W.keepIn X.K (.ref f) = true) (hb : Binds X.K fd ps ds) (hd : Vals dvs ds) (hx : Passes Cc X E) (ha : PA X (e :: es) t)
    (hdb : (x == ("__debug__" : Str)) = false) (he : starEach (e :: es) X.env = (false, eval e X.env) :: starEach es X.env)
    (hpl : (backTo pos (starEach es X.env)).any (·.1) = false) : PE X (.Call (.Name x p) (e :: es) [] pos) (tCall sp dvs E t) := by
  constructor
  intro pins s σ H Q I h
  refine wpAny_Call_Name_kw (ld_glob I hg hm (PySem.W.callWith_K (h₀ := X.base) I.ok.mod.kin hk (thn (ha.run pos pins s σ H _ I h) ?_) he hpl) hdb)
  rintro us s1 ⟨vs, H1, I1, r, q⟩
  exact ⟨I1.kIn, goG F hgd hr hb hd hx I1 r q⟩
theorem pe_callG0 (F : FnG X.prog X.w X.K X.mg X.base Cc k f fd ps sp) (hgd : X.A.guards = some []) (hr : Room k X.A) (hg : Gl X x) (hm : X.mg x = some (.ref f))
    (hk : PySem.W.keepIn X.K (.ref f) = true) (hb : Binds X.K fd ps ds) (hd : Vals dvs ds) (hx : Passes Cc X E)
    (hdb : (x == ("__debug__" : Str)) = false) : PE X (.Call (.Name x p) [] [] pos) (tCall sp dvs E tNil) := by
  constructor
  intro pins s σ H Q I h
  exact wpAny_Call_Name_kw (ld_glob I hg hm (PySem.W.callWith_K0 I.kIn hk (goG (us := []) F hgd hr hb hd hx I .nil h)) hdb)
end
/-- a def by its body -/
theorem fnG_of {Cc : CXT} {P : Program} {w : World} {K : PySem.W.Frag} {mg : Str → Option Value} {base : Heap} {k : Nat} {f : Addr} {x qual : Str} {params : Arguments} {body : List Stmt} {scope : Scope} {dvs : List V} {kws : List (Str × V)} {fd : FuncData}
    {N ps : List Str} {sp : Sp} (FF : FunD K x qual params body scope dvs kws f fd) (S : FnScope N ps scope) (len : ∀ vs H Q E, sp vs H Q E → vs.length = ps.length)
    (hbody : ∀ (cdv : Value) (A : Around) (outer : List Env) (s : Shared) (H : Hp) (vs : List V) (Q : VK) (E : XK), (A.deeper (envOfC qual scope s.heap.objs.size f cdv)).guards = some [] →
      Room k (A.deeper (envOfC qual scope s.heap.objs.size f cdv)) → sp vs H Q E →
      ∃ t, PSs (cxOf Cc P w K mg base N qual scope f cdv A outer s H E) body t ∧ t { nx := fun _ H' => Q .non H', rt := Q } (L2.start N vs) H) :
    FnG P w K mg base Cc (k + 1) f fd ps sp := by
  obtain ⟨oc, od, dV, kV, doc, pm, an, cdv, ct, osl, rfl, lk, hcd, _, _⟩ := FF.ex
  refine ⟨len, ?_⟩
  intro A outer s H args us vs Q E hgd hr e0 hb r hsp
  have kin : K.In s.heap := e0.mod.kin.keeps fun b o z => (e0.bs b o z).1
  have nolim : s.heap.NoLimit := e0.mod.nolimit.keeps fun b o z => (e0.bs b o z).1
  have params_ok : ∀ y ∈ ps.zip us, scope.names.lookup y.1 = some .local ∨ (scope.names.lookup y.1 = some .cell ∧ ((cellsFrom (s.heap.objs.size + 1) scope.names []).lookup y.1).isSome = true) := by
    rintro ⟨n, v⟩ hy
    cases S.par n (List.of_mem_zip hy).1 with
    | inl q => exact .inl q
    | inr q => exact .inr ⟨q, PySem.W.cellsFrom_some _ _ _ (.inl q)⟩
  refine codeAny_call_function hr.depth (kin _ _ lk) rfl S.co S.gen rfl (PySem.W.codeRec_of kin hcd) (hb _ _ _ _ (wpAny_newFunctionEnv_cells S.kind params_ok ?_))
  rintro env rfl s1 z
  refine ⟨nolim.keeps z.toInCall.keep, codeAny_func ?_⟩
  obtain ⟨t, ht, hq⟩ := hbody cdv A outer s H vs Q E hgd (hr.deeper _) hsp
  refine wpAny_mono (ht.run [] s1 (L2.start N vs) H _ (inv_start S hr.hd e0 (len _ _ _ _ hsp) r z) hq) ?_ (fun _ _ hs => hs)
  intro fl s' hs
  match fl, hs with
  | .ret u, ⟨v, σ', H', J, rv, q⟩ => exact ⟨v, H', J.os, J.bare, J.base, J.hok, rv, q⟩
  | .next, ⟨σ', H', J, q⟩ => exact ⟨V.non, H', J.os, J.bare, J.base, J.hok, rfl, q⟩
  | .brk, ⟨_, _, _, q⟩ => exact q.elim
  | .cont, ⟨_, _, _, q⟩ => exact q.elim
/-- the law's end, by such a promise -/
theorem law_goG {P : Program} {w : World} {K : PySem.W.Frag} {mg mb : Str → Option Value} {Cc : CXT} {k : Nat} {fa a : Addr} {fd : FuncData} {x : Str} {sp : Sp} {s₁ : Shared} {vs : List Value} {ns : List Int}
    (kin : K.In s₁.heap) (hns : s₁.heap.Ns mainGlobals mg) (hb : s₁.heap.Ns builtinsNs mb) (hbb : ∀ x : Str, x ≠ "__name__" → mb x = bootBuiltins x) (hlim : s₁.heap.NoLimit) (hg : s₁.gens = #[])
    (ha : s₁.heap.get? a = some { cls := .type "list", data := .seq vs.toArray }) (hi : IntsAre vs ns) (hl : ns.length ≤ sizeLine) (hr : Room k callerA)
    (F : ∀ base : Heap, K.In base → base.Ns mainGlobals mg → FnG P w K mg base Cc k fa fd [x] sp) (hbind : ∀ (s : Shared) (u : Value), BindsTo s fd ⟨[u], []⟩ [(x, u)])
    (hsp : ∀ H : Hp, Only H → SqL K H a (ns.map V.int) → sp [.ref a] H (fun v _ => v = .bl true) fun _ _ _ => False)
    (hCX : ∀ H e s', Cc [] H s₁ (fun _ _ _ => False) e s' → False) :
    codeAny (model P w) callerA (.call (.ref fa) ⟨[.ref a], []⟩) (fun r s' => r = .ok (.ret (.bool true)) ∧ OldK s₁.heap s'.heap ∧ s'.os = s₁.os ∧ AllBare s'.gens) s₁ := by
  have rv := vals_ints hi
  have main : ∀ H : Hp, Only H → SqL K H a (ns.map V.int) → HOk P w H s₁.heap → (∀ b, H b ≠ none → b = a ∧ K.lookup a = none) →
      codeAny (model P w) callerA (.call (.ref fa) ⟨[.ref a], []⟩) (fun r s' => r = .ok (.ret (.bool true)) ∧ OldK s₁.heap s'.heap ∧ s'.os = s₁.os ∧ AllBare s'.gens) s₁ := by
    intro H only seq hok own
    have stays : ∀ {b : Addr} {o : Obj}, s₁.heap.get? b = some o → H b = none → (hidT s₁.heap H).get? b = some o := fun z n => hidT_get z n
    have isDict : ∀ {b : Addr} {o : Obj} {es : Array DictEntry} {ep : Nat}, s₁.heap.get? b = some o → o.data = .dict es ep → H b = none := by
      intro b o es ep z d
      cases q : H b with
      | none => rfl
      | some u =>
        obtain ⟨rfl, _⟩ := own b (by rw [q]; simp)
        rw [ha] at z
        cases z
        cases (d : Data.seq vs.toArray _ = Data.dict es ep)
    have nsT : ∀ {b : Addr} {m : Str → Option Value}, s₁.heap.Ns b m → (hidT s₁.heap H).Ns b m := by
      rintro b m ⟨o, es, ep, z, d, r⟩
      exact ⟨o, es, ep, stays z (isDict z d), d, r⟩
    have kinT : K.In (hidT s₁.heap H) := by
      intro b o z
      refine stays (kin b o z) ?_
      cases q : H b with
      | none => rfl
      | some u =>
        obtain ⟨rfl, n⟩ := own b (by rw [q]; simp)
        rw [n] at z
        cases z
    obtain ⟨mc, n1, n2⟩ := hlim
    have e0 : Env0 P w K mg (hidT s₁.heap H) callerA [] s₁ H :=
      ⟨rfl, ⟨kinT, nsT hns, ⟨mb, nsT hb, hbb⟩, ⟨mc, nsT n1, n2⟩⟩, fun b o z => of_hidT z, Nat.le_of_eq (hidT_size _ _), trivial, fun b z => (List.not_mem_nil (show b ∈ ([] : List Addr) from z)).elim, hok, .of_eq hg⟩
    refine codeAny_mono ((F _ kinT (nsT hns)).runs callerA [] s₁ H ⟨[.ref a], []⟩ [.ref a] [.ref a] _ _ rfl hr e0 (hbind s₁ (.ref a)) (.cons rfl .nil) (hsp H only seq)) ?_
    intro r s' h
    match r, h with
    | .error e, h => exact (hCX H e s' h).elim
    | .ok .next, h => exact h.elim
    | .ok .brk, h => exact h.elim
    | .ok .cont, h => exact h.elim
    | .ok (.ret u), ⟨v, H', os, bare, un, hok', r', q⟩ =>
      have q' : v = .bl true := q
      subst q'
      obtain rfl : u = Value.bool true := r'
      refine ⟨rfl, OldK.of_keep ?_, os, bare⟩
      intro b o z
      cases q : H b with
      | none => exact un.keep b o z q (fun n => (List.not_mem_nil (show b ∈ ([] : List Addr) from n)).elim) (by simp)
      | some u =>
        rcases only b with n | ⟨ob, xs, n⟩
        · rw [q] at n; cases n
        · obtain ⟨e1, _⟩ := hok b _ n
          obtain ⟨e2, _⟩ := hok' b _ (un.frzs b ob _ n)
          rw [z] at e1
          cases e1
          exact e2
  cases hk : K.lookup a with
  | some o =>
    have z := kin a o hk
    rw [ha] at z
    cases z
    exact main (fun _ => none) (fun _ => .inl rfl) (.inr ⟨_, vs.toArray, _, hk, rfl, rfl, rfl, by rw [List.size_toArray, hi.length]; exact hl, by simpa using rv⟩) (fun b u n => nomatch (n : (none : Option HO) = some u)) (fun b n => absurd rfl n)
  | none =>
    let H1 : Hp := fun b => if b = a then some (.frz { cls := .type "list", data := .seq vs.toArray } (.lst (ns.map V.int))) else none
    have at1 : H1 a = some (.frz { cls := .type "list", data := .seq vs.toArray } (.lst (ns.map V.int))) := if_pos rfl
    have off : ∀ b, b ≠ a → H1 b = none := fun b n => if_neg n
    refine main H1 (fun b => ?_) (.inl (.inr ⟨_, at1⟩)) (fun b u z => ?_) (fun b z => ?_)
    · by_cases n : b = a
      · exact .inr ⟨_, _, n ▸ at1⟩
      · exact .inl (off b n)
    · by_cases n : b = a
      · subst n
        rw [at1] at z
        cases z
        exact ⟨ha, by rw [List.length_map]; exact hl, vs, _, rv, ha⟩
      · rw [off b n] at z
        cases z
    · by_cases n : b = a
      · exact ⟨n, hk⟩
      · exact absurd (off b n) z
theorem walk_G {l : PySem.W.OpenLaw} {n k : Nat} {q : Program} {loose : List Str} {XP : (Str → Option Value) → Heap → Prop} {YP : World → Heap → Prop} {d : DefRec} {Cc : CXT} {x : Str}
    (hn : l.most = some n) (hn2 : n ≤ sizeLine) (hdf : d.params.defaults = []) (hr : Room k callerA)
    (F : ∀ (w : World) (mg : Str → Option Value) (fa : Addr) (h : Heap), YP w h → h.Ns mainGlobals mg → mg d.name = some (.ref fa) →
      ∃ (K : PySem.W.Frag) (fd : FuncData) (sp : Sp), K.In h ∧ (∀ (s : Shared) (u : Value), BindsTo s fd ⟨[u], []⟩ [(x, u)]) ∧
        (∀ (H : Hp) (a : Addr) (ns : List Int), ns.length ≤ n → Only H → SqL K H a (ns.map V.int) → sp [.ref a] H (fun v _ => v = .bl true) fun _ _ _ => False) ∧
        ∀ base : Heap, K.In base → base.Ns mainGlobals mg → FnG l.prog w K mg base Cc k fa fd [x] sp)
    (hCX : ∀ (H : Hp) (s : Shared) (e : Value) (s' : Shared), Cc [] H s (fun _ _ _ => False) e s' → False) :
    PySem.W.WalkO q loose XP YP l.row.toRowW d [] (fun f vs => PySem.call f vs) := by
  refine Att.attach_call hn hdf ?_
  intro w s₀ s₁ mg mb fa o pm cd doc a vs ns G Y ho hd hcd hmg hobj hints hlen hg
  obtain ⟨K, fd, sp, kin, hb, hsp, hF⟩ := F w mg fa _ Y G.T.g hmg
  exact law_goG kin G.T.g G.T.b G.T.builtins G.T.nolimit hg hobj hints (Nat.le_trans hlen hn2) hr hF hb (fun H hO hS => hsp H a ns hlen hO hS) fun H e s' => hCX H s₁ e s'
end PL

/-! PL5: readings, the checker, argument lists. -/
namespace PL
open PySem PySem.Spec
open PyProof.Rows L2

/-! ### readings -/
def rdE (K : PySem.W.Frag) (c : Cf) (t : Ex) : TE := fun σ H Q => ∃ C e G r e1, C.K = K ∧ Rel C σ H e G ∧ ev c t e = some (r, e1) ∧ ∀ v H' G', Rel C σ H' e1 G' → Same G G' → RR C H' G' σ e1 v r → Q v H'
def rdA (K : PySem.W.Frag) (c : Cf) (ts : Es) : TA := fun σ H Q => ∃ C e G rs e1, C.K = K ∧ Rel C σ H e G ∧ evs c ts e = some (rs, e1) ∧ ∀ vs H' G', Rel C σ H' e1 G' → Same G G' → Paired (RR C H' G' σ e1) vs rs → NewsD H' vs rs → Q vs H'
def rdAP (K : PySem.W.Frag) (c : Cf) (ts : Es) (Φ : List R → Prop) : TA := fun σ H Q => ∃ C e G rs e1, C.K = K ∧ Rel C σ H e G ∧ evs c ts e = some (rs, e1) ∧ Φ rs ∧ ∀ vs H' G', Rel C σ H' e1 G' → Same G G' → Paired (RR C H' G' σ e1) vs rs → NewsD H' vs rs → Q vs H'
def rdT (K : PySem.W.Frag) (c : Cf) (t : Ex) : TT := fun σ H Q => ∃ C e G b e1, C.K = K ∧ Rel C σ H e G ∧ tst c t e = some (b, e1) ∧ ∀ H' G', Rel C σ H' e1 G' → Same G G' → Q b H'
/-- an iterator over data that stays -/
structure ItOk (K : PySem.W.Frag) (G : Hp) (xs : List D) (J : L2.It) : Prop where
  go : ∀ i H, Same G H → i < xs.length → J.go i H
  yld : ∀ i H v H', Same G H → i < xs.length → J.yld i H v H' → H' = H ∧ ∃ x, xs[i]? = some x ∧ Rp K G v x
  stop : ∀ i H, Same G H → xs.length ≤ i → J.stop i H
theorem ItOk.mono {K : PySem.W.Frag} {G G' : Hp} {xs : List D} {J : L2.It} (h : ItOk K G xs J) (g : Same G G') : ItOk K G' xs J :=
  ⟨fun i H s l => h.go i H (g.trans s) l, fun i H v H' s l y => by
    obtain ⟨h1, x, h2, h3⟩ := h.yld i H v H' (g.trans s) l y
    exact ⟨h1, x, h2, h3.mono g⟩, fun i H s l => h.stop i H (g.trans s) l⟩
def rdI (K : PySem.W.Frag) (c : Cf) (t : PL.It) : TI := fun σ H R => ∃ C e G xs e1, C.K = K ∧ Rel C σ H e G ∧ evIt c t e = some (xs, e1) ∧ ∀ J H' G', Rel C σ H' e1 G' → Same G G' → ItOk K G' xs J → R J H'
def rdG (K : PySem.W.Frag) (tg : Tg) : TG := fun v σ H Q => ∃ C e G x e1, C.K = K ∧ Rel C σ H e G ∧ Rp K G v x ∧ setTg tg x e = some e1 ∧ ∀ σ', Rel C σ' H e1 G → (∀ own : List Nat, (∀ i ∈ tg.sl, i ∈ own) → wipe σ' own = wipe σ own) → Q σ' H
section
variable {X : Cx} {x : Expr} {t t' : TE}
theorem pe_imp (h : PE X x t) (i : ∀ σ H Q, t' σ H Q → t σ H Q) : PE X x t' := ⟨fun pins s σ H Q I q => h.run pins s σ H Q I (i σ H Q q)⟩
theorem pt_imp {t t' : TT} (h : PT X x t) (i : ∀ σ H Q, t' σ H Q → t σ H Q) : PT X x t' := ⟨fun pins s σ H Q I q => h.run pins s σ H Q I (i σ H Q q)⟩
theorem pa_imp {xs : List Expr} {t t' : TA} (h : PA X xs t) (i : ∀ σ H Q, t' σ H Q → t σ H Q) : PA X xs t' := ⟨fun pos pins s σ H Q I q => h.run pos pins s σ H Q I (i σ H Q q)⟩
theorem ps_imp {st : Stmt} {t t' : TS} (h : PS X st t) (i : ∀ σ H D, t' D σ H → t D σ H) : PS X st t' := ⟨fun pins s σ H D I q => h.run pins s σ H D I (i σ H D q)⟩
theorem pss_imp {st : List Stmt} {t t' : TS} (h : PSs X st t) (i : ∀ σ H D, t' D σ H → t D σ H) : PSs X st t' := ⟨fun pins s σ H D I q => h.run pins s σ H D I (i σ H D q)⟩
theorem pg_imp {g : Expr} {t t' : TG} (h : PG X g t) (i : ∀ v σ H Q, t' v σ H Q → t v σ H Q) : PG X g t' := ⟨fun pins s σ H v u Q I r q => h.run pins s σ H v u Q I r (i v σ H Q q)⟩
theorem pi_imp {g it : Expr} {t t' : TI} (h : PI X g it t) (i : ∀ σ H R, t' σ H R → t σ H R) : PI X g it t' := ⟨fun pins s σ H R I q => h.run pins s σ H R I (i σ H R q)⟩
end

/-! ### one part behind another: what the first one made is kept -/
section
variable {C : Co} {σ : Sg} {H G : Hp} {e e1 : En}
/-- the objects at F are protected from here on -/
def Co.guard (C : Co) (F : List Addr) (H G : Hp) : Co := { C with H0 := ov F H C.H0, G0 := G }
theorem Rel.guard {F : List Addr} (h : Rel C σ H e G) (hF : ∀ p ∈ F, (∃ u, H p = some u) ∧ G p = none ∧ C.H0 p = none ∧ NotOwn σ H e p) : Rel (C.guard F H G) σ H e G :=
  { sub := h.sub, gold := Same.refl _, len := h.len, dat := h.dat, sep := h.sep, iok := h.iok, bor := h.bor
    old := fun b o q hi => by
      have q' : ov F H C.H0 b = some o := q
      by_cases hb : b ∈ F
      · rw [ov_in hb] at q'; exact q'
      · rw [ov_out hb] at q'; exact h.old b o q' hi
    dom := fun b q => by
      have q' : ov F H C.H0 b ≠ none := q
      by_cases hb : b ∈ F
      · rw [ov_in hb] at q'; exact q'
      · rw [ov_out hb] at q'; exact h.dom b q'
    rok := fun b hr => by
      show ov F H C.H0 b ≠ none
      by_cases hb : b ∈ F
      · rw [ov_in hb]
        obtain ⟨u, hu⟩ := (hF b hb).1
        rw [hu]; exact fun z => nomatch z
      · rw [ov_out hb]; exact h.rok b hr
    gnew := fun b o q => .inl q
    own := fun i b o q => by
      obtain ⟨d, h1, h2, h3, h4, h5⟩ := h.own i b o q
      refine ⟨d, h1, h2, h3, fun p hp => ?_, h5⟩
      have np : p ∉ F := fun z => (hF p z).2.2.2 i b o d q h1 hp
      show G p = none ∧ (ov F H C.H0 p = none ∨ (b = true ∧ C.reg i p))
      rw [ov_out np]
      exact h4 p hp
    bok := fun i o a q => by
      obtain ⟨h1, h2⟩ := h.bok i o a q
      have l : ∀ p ∈ foot C.H0 o a, ov F H C.H0 p = C.H0 p := fun p hp => by
        by_cases hb : p ∈ F
        · obtain ⟨u, hu⟩ := h1.ex p hp
          rw [(hF p hb).2.2.1] at hu; cases hu
        · exact ov_out hb
      refine ⟨(h1.mono h.gold).loc l, fun p hp => ?_⟩
      have hp' : p ∈ foot C.H0 o a := by rw [← foot_loc o a l]; exact hp
      refine ⟨(h2 p hp').1, ?_⟩
      show G p = none
      cases qg : G p with
      | none => rfl
      | some w =>
        obtain ⟨u, hu⟩ := h1.ex p hp'
        rcases h.gnew p w qg with z | z | z
        · rw [(h2 p hp').2] at z; cases z
        · rw [hu] at z; cases z
        · exact absurd z (h2 p hp').1 }
theorem Rel.unguard {F : List Addr} {σ2 : Sg} {H2 G2 : Hp} {e2 : En} (h : Rel C σ H e G) (hF : ∀ p ∈ F, (∃ u, H p = some u) ∧ G p = none ∧ C.H0 p = none) (h2 : Rel (C.guard F H G) σ2 H2 e2 G2) (g2 : Same G G2) :
    Rel C σ2 H2 e2 G2 ∧ ∀ p ∈ F, H2 p = H p ∧ G2 p = none ∧ NotOwn σ2 H2 e2 p := by
  have nr : ∀ p ∈ F, ¬ C.rg p := fun p hp z => h.rok p z (hF p hp).2.2
  have hH : ∀ p ∈ F, H2 p = H p := fun p hp => by
    obtain ⟨u, hu⟩ := (hF p hp).1
    rw [hu]
    exact h2.old p u (show ov F H C.H0 p = some u by rw [ov_in hp]; exact hu) (nr p hp)
  have hG : ∀ p ∈ F, G2 p = none := fun p hp => by
    cases q : G2 p with
    | none => rfl
    | some o =>
      rcases h2.gnew p o q with z | z | z
      · have z' : G p = some o := z
        rw [(hF p hp).2.1] at z'; cases z'
      · have z' : ov F H C.H0 p = none := z
        rw [ov_in hp] at z'
        obtain ⟨u, hu⟩ := (hF p hp).1
        rw [hu] at z'; cases z'
      · exact absurd z (nr p hp)
  have hN : ∀ p ∈ F, NotOwn σ2 H2 e2 p := fun p hp i b o a q z hf => by
    obtain ⟨d, q1, q2, q3, q4, q5⟩ := h2.own i b o q
    rw [z] at q1; cases q1
    rcases (q4 p hf).2 with w | w
    · have w' : ov F H C.H0 p = none := w
      rw [ov_in hp] at w'
      obtain ⟨u, hu⟩ := (hF p hp).1
      rw [hu] at w'; cases w'
    · exact nr p hp ⟨_, w.2⟩
  refine ⟨{ sub := h2.sub, gold := h.gold.trans g2, len := h2.len, dat := h2.dat, sep := h2.sep, iok := h2.iok, bor := h2.bor, bok := h.bok, rok := h.rok
            old := fun b o q hi => ?_, dom := fun b q => ?_, gnew := fun b o q => ?_, own := fun i b o q => ?_ }, fun p hp => ⟨hH p hp, hG p hp, hN p hp⟩⟩
  · have hb : b ∉ F := fun z => by rw [(hF b z).2.2] at q; cases q
    exact h2.old b o (by show ov F H C.H0 b = some o; rw [ov_out hb]; exact q) hi
  · have hb : b ∉ F := fun z => q (hF b z).2.2
    exact h2.dom b (by show ov F H C.H0 b ≠ none; rw [ov_out hb]; exact q)
  · rcases h2.gnew b o q with z | z | z
    · exact h.gnew b o z
    · have z' : ov F H C.H0 b = none := z
      by_cases hb : b ∈ F
      · exact .inr (.inl (hF b hb).2.2)
      · rw [ov_out hb] at z'; exact .inr (.inl z')
    · exact .inr (.inr z)
  · obtain ⟨d, q1, q2, q3, q4, q5⟩ := h2.own i b o q
    refine ⟨d, q1, q2, q3, fun p hp => ?_, q5⟩
    have np : p ∉ F := fun z => hN p z i b o d q q1 hp
    have := q4 p hp
    have this : G2 p = none ∧ (ov F H C.H0 p = none ∨ (b = true ∧ C.reg i p)) := this
    rw [ov_out np] at this
    exact this
end
theorem rdA_nil {K : PySem.W.Frag} {c : Cf} {σ : Sg} {H : Hp} {Q : List V → Hp → Prop} (h : rdA K c .nil σ H Q) : Q [] H := by
  obtain ⟨C, e, G, rs, e1, hK, rel, hv, k⟩ := h
  unfold evs at hv
  cases hv
  exact k [] H G rel (Same.refl _) .nil (NewsD.nil _)
/-- behind the first part: the others, while its value waits -/
theorem rd_tail {K : PySem.W.Frag} {c : Cf} {ts : Es} {Φ : List R → Prop} {σ : Sg} {C : Co} {G : Hp} {r : R} {rs' : List R} {e1 e2 : En} {Q : List V → Hp → Prop} (hK : C.K = K) (h2 : evs c ts e1 = some (rs', e2)) (hΦ : Φ (r :: rs'))
    (k : ∀ vs H' G', Rel C σ H' e2 G' → Same G G' → Paired (RR C H' G' σ e2) vs (r :: rs') → NewsD H' vs (r :: rs') → Q vs H') {v : V} {H1 G1 : Hp} (rel1 : Rel C σ H1 e1 G1) (g1 : Same G G1) (rr1 : RR C H1 G1 σ e1 v r) :
    rdAP K c ts (fun rs => Φ (r :: rs)) σ H1 fun vs H2 => Q (v :: vs) H2 := by
  by_cases hn : ∃ o, r = .new o
  · obtain ⟨o, rfl⟩ := hn
    obtain ⟨a, rfl, z2, z3, z4⟩ := rr1
    have hF : ∀ p ∈ foot H1 o a, (∃ u, H1 p = some u) ∧ G1 p = none ∧ C.H0 p = none ∧ NotOwn σ H1 e1 p := fun p hp => ⟨z2.ex p hp, z4 p hp⟩
    have hF' : ∀ p ∈ foot H1 o a, (∃ u, H1 p = some u) ∧ G1 p = none ∧ C.H0 p = none := fun p hp => ⟨z2.ex p hp, (z4 p hp).1, (z4 p hp).2.1⟩
    refine ⟨C.guard (foot H1 o a) H1 G1, e1, G1, rs', e2, hK, rel1.guard hF, h2, hΦ, fun vs H2 G2 rel2 g2 rrs nd => ?_⟩
    obtain ⟨w1, w2⟩ := rel1.unguard hF' rel2 g2
    have fe := foot_loc o a fun p hp => (w2 p hp).1
    have rrs' : Paired (RR C H2 G2 σ e2) vs rs' := Paired.mapP rrs fun v r q => by
      cases r with
      | d x => exact q
      | slot i => exact q
      | new o' =>
        obtain ⟨b, y1, y2, y3, y4⟩ := q
        refine ⟨b, y1, y2, y3, fun p hp => ?_⟩
        obtain ⟨x1, x2, x3⟩ := y4 p hp
        have x2' : ov (foot H1 o a) H1 C.H0 p = none := x2
        have np : p ∉ foot H1 o a := fun z => by
          rw [ov_in z] at x2'
          obtain ⟨u, hu⟩ := z2.ex p z
          rw [hu] at x2'; cases x2'
        rw [ov_out np] at x2'
        exact ⟨x1, x2', x3⟩
    have hnot : ∀ p ∈ foot H2 o a, ¬ InNews H2 vs rs' p := by
      rintro p hp ⟨j, b, o', q1, q2, q3⟩
      rw [fe] at hp
      obtain ⟨r0, y1, y2⟩ := Paired.get rrs q1
      rw [q2] at y1; cases y1
      obtain ⟨b', x1, x2, x3, x4⟩ := y2
      cases x1
      have x5 : ov (foot H1 o a) H1 C.H0 p = none := (x4 p q3).2.1
      rw [ov_in hp] at x5
      obtain ⟨u, hu⟩ := z2.ex p hp
      rw [hu] at x5; cases x5
    refine k _ H2 G2 w1 (g1.trans g2) (.cons ⟨a, rfl, (z2.mono g2).loc fun p hp => (w2 p hp).1, by rw [fe]; exact z3, fun p hp => ?_⟩ rrs') (nd.cons hnot)
    rw [fe] at hp
    exact ⟨(w2 p hp).2.1, (z4 p hp).2.1, (w2 p hp).2.2⟩
  · refine ⟨C, e1, G1, rs', e2, hK, rel1, h2, hΦ, fun vs H2 G2 rel2 g2 rrs nd => ?_⟩
    refine k _ H2 G2 rel2 (g1.trans g2) (.cons ?_ rrs) (nd.cons' fun o z => hn ⟨o, z⟩)
    cases r with
    | d x => exact Rp.mono g2 rr1
    | slot i => exact rr1
    | new o => exact absurd ⟨o, rfl⟩ hn
theorem rdAP_cons {K : PySem.W.Frag} {c : Cf} {t : Ex} {ts : Es} {Φ : List R → Prop} {σ : Sg} {H : Hp} {Q : List V → Hp → Prop} (h : rdAP K c (.cons t ts) Φ σ H Q) :
    ∃ C e G r e1, C.K = K ∧ Rel C σ H e G ∧ ev c t e = some (r, e1) ∧ (∃ rs, Φ (r :: rs)) ∧ ∀ v H' G', Rel C σ H' e1 G' → Same G G' → RR C H' G' σ e1 v r → rdAP K c ts (fun rs => Φ (r :: rs)) σ H' fun vs H2 => Q (v :: vs) H2 := by
  obtain ⟨C, e, G, rs, e2, hK, rel, hv, hΦ, k⟩ := h
  unfold evs at hv
  rw [Option.bind_eq_some_iff] at hv
  obtain ⟨⟨r, e1⟩, h1, hv⟩ := hv
  simp only [Option.map_eq_some_iff, Prod.exists] at hv
  obtain ⟨rs', e2', h2, q⟩ := hv
  cases q
  exact ⟨C, e, G, r, e1, hK, rel, h1, ⟨rs', hΦ⟩, fun v H1 G1 rel1 g1 rr1 => rd_tail hK h2 hΦ k rel1 g1 rr1⟩
theorem rdA_cons {K : PySem.W.Frag} {c : Cf} {t : Ex} {ts : Es} {σ : Sg} {H : Hp} {Q : List V → Hp → Prop} (h : rdA K c (.cons t ts) σ H Q) : tCons (rdE K c t) (rdA K c ts) σ H Q := by
  obtain ⟨C, e, G, rs, e2, hK, rel, hv, k⟩ := h
  obtain ⟨C, e, G, r, e1, h1, h2, h3, _, k⟩ := rdAP_cons (Φ := fun _ => True) ⟨C, e, G, rs, e2, hK, rel, hv, trivial, k⟩
  refine ⟨C, e, G, r, e1, h1, h2, h3, fun v H1 G1 rel1 g1 rr1 => ?_⟩
  obtain ⟨C', e', G', rs', e2', q1, q2, q3, _, k'⟩ := k v H1 G1 rel1 g1 rr1
  exact ⟨C', e', G', rs', e2', q1, q2, q3, k'⟩
/-! ### the checker -/
abbrev Nms := List (Str × NameKind)
def visK : Option NameKind → Bool
  | some .local => true
  | some .cell => true
  | some .free => true
  | _ => false
def cstOk : D → Const → Bool
  | .none, .none => true
  | .bool b, .bool b' => b == b'
  | .int i, .int j => i == j
  | .str x, .str y => decide (x = y)
  | _, _ => false
def glK (sc : Nms) (x : Str) : Bool := decide (sc.lookup x = some .globalImplicit) && !(x == ("__debug__" : Str)) && !(x == ("__name__" : Str))
def isNm (x : Str) : Expr → Bool
  | .Name y _ => decide (x = y)
  | _ => false
/-- the operands of a primitive -/
def argsP (sc : Nms) : Prm → Expr → Option (List Expr)
  | .bin op, .BinOp x op' y _ => if op = op' then some [x, y] else none
  | .cmp op, .Compare x [op'] [y] _ => if op = op' then some [x, y] else none
  | .neg, .UnaryOp .USub x _ => some [x]
  | .slc false false, .Subscript x (.Slice none none none _) _ => some [x]
  | .slc true false, .Subscript x (.Slice (some l) none none _) _ => some [x, l]
  | .slc false true, .Subscript x (.Slice none (some u) none _) _ => some [x, u]
  | .slc true true, .Subscript x (.Slice (some l) (some u) none _) _ => some [x, l, u]
  | .rev, .Subscript x (.Slice none none (some (.UnaryOp .USub (.Constant (.int 1) _ _) _)) _) _ => some [x]
  | .stp, .Subscript x (.Slice none none (some k) _) _ => some [x, k]
  | .idx, .Subscript x y _ => some [x, y]
  | .isi T, .Call (.Name f _) [x, .Name g _] [] _ => if decide (f = ("isinstance" : Str)) && decide (g = Str.ofString T) && glK sc ("isinstance" : Str) && glK sc (Str.ofString T) && isiT T then some [x] else none
  | .blt b, .Call (.Name f _) (x :: xs) [] _ => if decide (f = b.nm) && glK sc f then some (x :: xs) else none
  | .lset, .Call (.Name f _) [.Call (.Name g _) [x] [] _] [] _ => if decide (f = ("len" : Str)) && decide (g = ("set" : Str)) && glK sc f && glK sc g then some [x] else none
  | .lrng, .Call (.Name f _) [.Call (.Name g _) [x] [] _] [] _ => if decide (f = ("list" : Str)) && decide (g = ("range" : Str)) && glK sc f && glK sc g then some [x] else none
  | .lrng, .Call (.Name f _) [.Call (.Name g _) [x, y] [] _] [] _ => if decide (f = ("list" : Str)) && decide (g = ("range" : Str)) && glK sc f && glK sc g then some [x, y] else none
  | .dnew, .Dict [] [] _ => some []
  | _, _ => none
def chkTg (N : List Str) (sc : Nms) : Tg → Expr → Bool
  | .nm i, .Name x _ => decide (N[i]? = some x) && (decide (sc.lookup x = some .local) || decide (sc.lookup x = some .cell))
  | .tp js, .Tuple xs _ _ => chkNs js xs
  | _, _ => false
where
  chkNs : List Nat → List Expr → Bool
    | [], [] => true
    | i :: is, .Name x _ :: xs => decide (N[i]? = some x) && (decide (sc.lookup x = some .local) || decide (sc.lookup x = some .cell)) && chkNs is xs
    | _, _ => false
/-- a comprehension's block -/
def chkB (N : List Str) (sc : Nms) (scope : Scope) (own : List Nat) : Bool :=
  decide (scope.kind = .function) && (scope.names.all fun y => decide (scope.names.lookup y.1 = some y.2)) && (own.all fun i => (N[i]?).isSome) &&
    (scope.names.all fun y => match y.2 with
      | .free => decide (sc.lookup y.1 = some .cell) || decide (sc.lookup y.1 = some .free)
      | .local => (own.any fun i => decide (N[i]? = some y.1)) || decide (y.1 ∉ N)
      | .cell => (own.any fun i => decide (N[i]? = some y.1)) || decide (y.1 ∉ N)
      | _ => true)
/-- written keys -/
def chkKs : List D → List (Option Expr) → Bool
  | [], [] => true
  | k :: ks, some (.Constant c _ _) :: es => isKey k && cstOk k c && chkKs ks es
  | _, _ => false
def notBare : Expr → Bool
  | .Call (.Name _ _) [] [] _ => false
  | _ => true
/-- a written number -/
def isLit (z : Int) : Expr → Bool
  | .Constant (.int k) _ _ => z == k
  | .UnaryOp .USub (.Constant (.int k) _ _) _ => z == -k
  | _ => false
/-- a place: x[k] -/
def chkPl (N : List Str) (sc : Nms) (i : Nat) (st : Stp) : Expr → Bool
  | .Subscript (.Name y _) k _ => match st with
    | .at z => decide (N[i]? = some y) && visK (sc.lookup y) && !(y == ("__debug__" : Str)) && !(y == ("__classdict__" : Str)) && isLit z k
    | _ => false
  | _ => false
mutual
def chkE (P : Pg) (N : List Str) (sc : Nms) : Ex → Expr → Bool
  | .var i, x => match x with
    | .Name y _ => decide (N[i]? = some y) && visK (sc.lookup y) && !(y == ("__debug__" : Str)) && !(y == ("__classdict__" : Str))
    | _ => false
  | .cst d, x => match x with
    | .Constant k _ _ => cstOk d k
    | _ => false
  | .glb k, x => match x with
    | .Name y _ => decide (y = k) && (P.glb k).isSome && glK sc y
    | _ => false
  | .prm p ts, x => match argsP sc p x with
    | some xs => chkEs P N sc ts xs
    | none => false
  | .cmp2 op op' a b c, x => match x with
    | .Compare y [o, o'] [z, w] _ => decide (op = o) && decide (op' = o') && decide (op' ≠ .In) && decide (op' ≠ .NotIn) && chkE P N sc a y && chkE P N sc b z && chkE P N sc c w
    | _ => false
  | .and a b, x => match x with
    | .BoolOp .And [y, z] _ => chkE P N sc a y && chkE P N sc b z
    | .BoolOp .And (y :: z :: w :: r) pos => chkE P N sc a y && chkE P N sc b (.BoolOp .And (z :: w :: r) pos)
    | _ => false
  | .or a b, x => match x with
    | .BoolOp .Or [y, z] _ => chkE P N sc a y && chkE P N sc b z
    | .BoolOp .Or (y :: z :: w :: r) pos => chkE P N sc a y && chkE P N sc b (.BoolOp .Or (z :: w :: r) pos)
    | _ => false
  | .not a, x => match x with
    | .UnaryOp .Not y _ => chkE P N sc a y
    | _ => false
  | .ite t a b, x => match x with
    | .IfExp y z w _ => chkE P N sc t y && chkE P N sc a z && chkE P N sc b w
    | _ => false
  | .tup ts, x => match x with
    | .Tuple xs _ _ => chkEs P N sc ts xs
    | _ => false
  | .lst ts, x => match x with
    | .List xs _ => chkEs P N sc ts xs
    | _ => false
  | .call f ts, x => match x with
    | .Call (.Name y _) zs [] _ => decide (y = f) && (P.fn? f).isSome && glK sc y && chkEs P N sc ts zs
    | _ => false
  | .mut m i ts, x => match x with
    | .Call (.Attribute (.Name y _) at' apos) xs [] cpos => decide (N[i]? = some y) && visK (sc.lookup y) && !(y == ("__debug__" : Str)) && !(y == ("__classdict__" : Str)) && decide (at' = m.nm) && (apos.endLine == cpos.line) && decide (xs.length < 30) && chkEs P N sc ts xs
    | _ => false
  | .mth m t ts, x => match x with
    | .Call (.Attribute o at' apos) (y :: ys) [] cpos => decide (at' = m.nm) && (apos.endLine == cpos.line) && decide ((y :: ys).length < 30) && notBare o && chkE P N sc t o && chkEs P N sc ts (y :: ys)
    | _ => false
  | .lc tg it ifs el own, x => match x with
    | .ListComp y [⟨g, i, fs, 0⟩] scope _ => chkB N sc scope own && (tg.sl.all fun i => own.contains i) && chkTg N scope.names tg g && chkIt P N sc it i && chkEs P N scope.names ifs fs && decide (fs.length ≤ 1) && chkE P N scope.names el y
    | _ => false
  | .dc tg it ifs k el own, x => match x with
    | .DictComp z y [⟨g, i, fs, 0⟩] scope _ => chkB N sc scope own && (tg.sl.all fun i => own.contains i) && chkTg N scope.names tg g && chkIt P N sc it i && chkEs P N scope.names ifs fs && decide (fs.length ≤ 1) && chkE P N scope.names k z && chkE P N scope.names el y
    | _ => false
  | .dsp ks ts, x => match x with
    | .Dict keys vals _ => chkKs ks keys && decide (keys.length = vals.length) && decide (keys ≠ []) && decide (keys.length ≤ 15) && chkEs P N sc ts vals
    | _ => false
  | .tupN ts, x => match x with
    | .Tuple xs _ _ => chkEs P N sc ts xs
    | _ => false
  | .lstN ts, x => match x with
    | .List xs _ => chkEs P N sc ts xs
    | _ => false
  | .kid i st, x => chkPl N sc i st x
  | .mutC m i st ts, x => match x with
    | .Call (.Attribute o at' apos) xs [] cpos => chkPl N sc i st o && decide (at' = m.nm) && (apos.endLine == cpos.line) && decide (xs.length < 30) && chkEs P N sc ts xs
    | _ => false
  | .meth _ _, _ => false
  | .make _ _, _ => false
def chkEs (P : Pg) (N : List Str) (sc : Nms) : Es → List Expr → Bool
  | .nil, xs => xs.isEmpty
  | .cons t ts, xs => match xs with
    | y :: ys => chkE P N sc t y && chkEs P N sc ts ys
    | [] => false
def chkIt (P : Pg) (N : List Str) (sc : Nms) : PL.It → Expr → Bool
  | .ex t, x => chkE P N sc t x
  | .rng ts, x => match x with
    | .Call (.Name y _) [a] [] _ => decide (y = ("range" : Str)) && glK sc y && chkEs P N sc ts [a]
    | .Call (.Name y _) [a, b] [] _ => decide (y = ("range" : Str)) && glK sc y && chkEs P N sc ts [a, b]
    | .Call (.Name y _) [a, b, c] [] _ => decide (y = ("range" : Str)) && glK sc y && chkEs P N sc ts [a, b, c]
    | _ => false
end
end PL

/-! PL6: calls of the program's own defs. -/
namespace PL
open PySem PySem.Spec
open PyProof.Rows L2

/-- p belongs to an object that is handed in -/
def InOwn (H : Hp) (vs : List V) (as : List SV) (p : Addr) : Prop := ∃ (j : Nat) (a : Addr) (b : Bool) (o : OD), vs[j]? = some (.ref a) ∧ as[j]? = some (.own b o) ∧ p ∈ foot H o a
/-- they lie apart -/
def OwnD (H : Hp) (vs : List V) (as : List SV) : Prop := ∀ (i j : Nat) a a' b b' o o' p, vs[i]? = some (.ref a) → vs[j]? = some (.ref a') → as[i]? = some (.own b o) → as[j]? = some (.own b' o') → p ∈ foot H o a → p ∈ foot H o' a' → i = j
def ArgR (K : PySem.W.Frag) (H G : Hp) (v : V) : SV → Prop
  | .d x => Rp K G v x
  | .own io o => io = true ∧ ∃ a, v = .ref a ∧ Std K G H o a ∧ (foot H o a).Nodup ∧ ∀ p ∈ foot H o a, G p = none
  | .bor _ => False
structure CallPost (K : PySem.W.Frag) (H G : Hp) (vs : List V) (as : List SV) (r : R) (outs : En) (v : V) (H' G' : Hp) : Prop where
  gs : Same G G'
  sub : Same G' H'
  dom : ∀ a, H a ≠ none → H' a ≠ none
  gn : ∀ a o, G' a = some o → G a = some o ∨ H a = none ∨ InOwn H vs as a
  old : ∀ a o, H a = some o → ¬ InOwn H vs as a → H' a = some o
  res : match r with
    | .d x => Rp K G' v x
    | .new o => ∃ a, v = .ref a ∧ Std K G' H' o a ∧ (foot H' o a).Nodup ∧ ∀ p ∈ foot H' o a, H p = none ∧ G' p = none ∧ ∀ (j : Nat) a' o', vs[j]? = some (.ref a') → as[j]? ≠ none → outs[j]? = some (some (.own true o')) → p ∉ foot H' o' a'
    | .slot _ => False
  osep : ∀ (i j : Nat) a a' b b' o1 o2 o o' p, vs[i]? = some (.ref a) → vs[j]? = some (.ref a') → as[i]? = some (.own b o1) → as[j]? = some (.own b' o2) → outs[i]? = some (some (.own true o)) → outs[j]? = some (some (.own true o')) → p ∈ foot H' o a → p ∈ foot H' o' a' → i = j
  outs : ∀ (j : Nat) a o, vs[j]? = some (.ref a) → as[j]? = some (.own true o) → ∃ o', outs[j]? = some (some (.own true o')) ∧ Std K G' H' o' a ∧ (foot H' o' a).Nodup ∧ ∀ p ∈ foot H' o' a, G' p = none ∧ (H p = none ∨ p ∈ foot H o a)
theorem atom_rp {K : PySem.W.Frag} {G G' : Hp} {v : V} : ∀ {x : D}, atom (.d x) = true → Rp K G' v x → Rp K G v x
  | .none, _, r => by cases r; exact .non
  | .bool _, _, r => by cases r; exact .bl _
  | .int _, _, r => by cases r; exact .int _
  | .str _, _, r => by cases r; exact .str _
  | .list _, h, _ => absurd h Bool.false_ne_true
  | .tuple _, h, _ => absurd h Bool.false_ne_true
  | .dict _, h, _ => absurd h Bool.false_ne_true
/-- what the def f promises, at most n calls deep -/
def spF (K : PySem.W.Frag) (P : Pg) (n : Nat) (f : Str) : Sp := fun vs H Q _ => ∃ fn G as r outs, P.fn? f = some fn ∧ as.length = fn.io.length ∧ Same G H ∧ Paired (ArgR K H G) vs as ∧ OwnD H vs as ∧ run P n f as = some (r, outs) ∧
  ∀ v H' G', CallPost K H G vs as r outs v H' G' → Q v H'

/-! ### the caller's slots behind a call -/
theorem mem_slotsOf : ∀ {rs : List R} {i : Nat}, i ∈ slotsOf rs ↔ ∃ j : Nat, rs[j]? = some (.slot i)
  | [], i => by
    constructor
    · intro h; exact absurd (show i ∈ [] from h) List.not_mem_nil
    · rintro ⟨j, h⟩; simp at h
  | r :: rs, i => by
    have ih := @mem_slotsOf rs i
    have split : (∃ j : Nat, (r :: rs)[j]? = some (.slot i)) ↔ (r = .slot i ∨ i ∈ slotsOf rs) := by
      rw [ih]
      constructor
      · rintro ⟨j, h⟩
        cases j with
        | zero => simp at h; exact .inl h
        | succ j => exact .inr ⟨j, by simpa using h⟩
      · rintro (h | ⟨j, h⟩)
        · exact ⟨0, by simp [h]⟩
        · exact ⟨j + 1, by simpa using h⟩
    rw [split]
    cases r with
    | slot k =>
      rw [show slotsOf (.slot k :: rs) = k :: slotsOf rs from rfl, List.mem_cons]
      constructor
      · rintro (h | h)
        · exact .inl (by rw [h])
        · exact .inr h
      · rintro (h | h)
        · cases h; exact .inl rfl
        · exact .inr h
    | d x => rw [show slotsOf (.d x :: rs) = slotsOf rs from rfl]; simp
    | new x => rw [show slotsOf (.new x :: rs) = slotsOf rs from rfl]; simp
theorem slots_ix : ∀ {rs : List R}, (slotsOf rs).Nodup → ∀ {j k i : Nat}, rs[j]? = some (.slot i) → rs[k]? = some (.slot i) → j = k
  | [], _, j, k, i, h, _ => by simp at h
  | r :: rs, nd, j, k, i, h1, h2 => by
    have nd2 : (slotsOf rs).Nodup := by
      cases r with
      | slot m => exact (List.nodup_cons.mp nd).2
      | _ => exact nd
    cases j with
    | zero =>
      cases k with
      | zero => rfl
      | succ k =>
        simp at h1 h2
        subst h1
        exact absurd (mem_slotsOf.mpr ⟨k, h2⟩) (List.nodup_cons.mp (show (i :: slotsOf rs).Nodup from nd)).1
    | succ j =>
      cases k with
      | zero =>
        simp at h1 h2
        subst h2
        exact absurd (mem_slotsOf.mpr ⟨j, h1⟩) (List.nodup_cons.mp (show (i :: slotsOf rs).Nodup from nd)).1
      | succ k =>
        simp at h1 h2
        rw [slots_ix nd2 h1 h2]
/-- what became of the slot i, handed at j -/
def Back (at' io : Bool) (out : Option SV) (x y : Option (Option SV)) : Prop :=
  (∃ d, x = some (some (.d d)) ∧ y = x) ∨ (∃ b o o', io = true ∧ x = some (some (.own b o)) ∧ out = some (.own true o') ∧ y = some (some (.own b o'))) ∨
    (∃ b o, io = false ∧ at' = true ∧ x = some (some (.own b o)) ∧ y = x) ∨ (∃ o, io = false ∧ at' = false ∧ o.dat = true ∧ x = some (some (.own false o)) ∧ y = some (some (.d o.toD)))
theorem backOf_spec {at' io : Bool} {i : Nat} {out : Option SV} {e e1 : En} (h : backOf at' io (.slot i) out e = some e1) : e1.length = e.length ∧ (∀ k, k ≠ i → e1[k]? = e[k]?) ∧ Back at' io out e[i]? e1[i]? := by
  unfold backOf at h
  simp only at h
  split at h
  · rename_i b o he
    split at h
    · split at h
      · cases h
        refine ⟨by rw [List.length_set], fun k hk => List.getElem?_set_ne (Ne.symm hk), .inr (.inl ⟨b, o, _, rfl, he, rfl, get_set_self he⟩)⟩
      · cases h
    · split at h
      · rename_i ha
        cases h
        exact ⟨rfl, fun _ _ => rfl, .inr (.inr (.inl ⟨b, o, rfl, ha, he, rfl⟩))⟩
      · rename_i ha
        split at h
        · cases h
        · rename_i hb
          rw [Option.map_eq_some_iff] at h
          obtain ⟨x, hx, rfl⟩ := h
          obtain ⟨hd, rfl⟩ := fzO_some hx
          have hb' : b = false := by simpa using hb
          subst hb'
          exact ⟨by rw [List.length_set], fun k hk => List.getElem?_set_ne (Ne.symm hk), .inr (.inr (.inr ⟨o, rfl, by simpa using ha, hd, he, get_set_self he⟩))⟩
  · rename_i d he
    cases h
    exact ⟨rfl, fun _ _ => rfl, .inl ⟨d, he, rfl⟩⟩
  · cases h
theorem backs_spec {at' : Bool} : ∀ {io : List Bool} {rs : List R} {outs : En} {e e1 : En}, backs at' io rs outs e = some e1 → (slotsOf rs).Nodup →
    e1.length = e.length ∧ io.length = rs.length ∧ outs.length = rs.length ∧ (∀ k, k ∉ slotsOf rs → e1[k]? = e[k]?) ∧ ∀ (j i : Nat) b out, rs[j]? = some (.slot i) → io[j]? = some b → outs[j]? = some out → Back at' b out e[i]? e1[i]?
  | [], [], [], e, e1, h, _ => by
    unfold backs at h
    cases h
    exact ⟨rfl, rfl, rfl, fun _ _ => rfl, fun j i b out h1 => by simp at h1⟩
  | b :: io, r :: rs, o :: outs, e, e1, h, nd => by
    unfold backs at h
    rw [Option.bind_eq_some_iff] at h
    obtain ⟨e2, h1, h2⟩ := h
    by_cases hs : ∃ i, r = .slot i
    · obtain ⟨i, rfl⟩ := hs
      have nd' : (i :: slotsOf rs).Nodup := nd
      obtain ⟨hi, nd2⟩ := List.nodup_cons.mp nd'
      obtain ⟨l1, l2, l3, l4, l5⟩ := backs_spec h2 nd2
      obtain ⟨m1, m2, m3⟩ := backOf_spec h1
      refine ⟨l1.trans m1, by simp [l2], by simp [l3], fun k hk => ?_, fun j k b' out q1 q2 q3 => ?_⟩
      · have hk' : k ∉ i :: slotsOf rs := hk
        rw [List.mem_cons, not_or] at hk'
        rw [l4 k hk'.2, m2 k hk'.1]
      · cases j with
        | zero =>
          simp at q1 q2 q3
          subst q1 q2 q3
          rw [l4 i hi]
          exact m3
        | succ j =>
          simp at q1 q2 q3
          have hk : k ≠ i := fun z => hi (mem_slotsOf.mpr ⟨j, z ▸ q1⟩)
          rw [← m2 k hk]
          exact l5 j k b' out q1 q2 q3
    · have e2e : e2 = e := by
        unfold backOf at h1
        cases r with
        | slot i => exact absurd ⟨i, rfl⟩ hs
        | _ => simp only [Option.some.injEq] at h1; exact h1.symm
      subst e2e
      have es : slotsOf (r :: rs) = slotsOf rs := by
        cases r with
        | slot i => exact absurd ⟨i, rfl⟩ hs
        | _ => rfl
      rw [es] at nd
      obtain ⟨l1, l2, l3, l4, l5⟩ := backs_spec h2 nd
      refine ⟨l1, by simp [l2], by simp [l3], fun k hk => l4 k (by rw [← es]; exact hk), fun j k b' out q1 q2 q3 => ?_⟩
      cases j with
      | zero => simp at q1; exact absurd ⟨k, q1⟩ hs
      | succ j =>
        simp at q1 q2 q3
        exact l5 j k b' out q1 q2 q3
  | [], [], _ :: _, _, _, h, _ => by unfold backs at h; cases h
  | [], _ :: _, _, _, _, h, _ => by unfold backs at h; cases h
  | _ :: _, [], _, _, _, h, _ => by unfold backs at h; cases h
  | _ :: _, _ :: _, [], _, _, h, _ => by unfold backs at h; cases h
theorem argsOf_spec : ∀ {io : List Bool} {rs : List R} {e : En} {as : List SV}, argsOf io rs e = some as → as.length = io.length ∧ rs.length = io.length ∧ ∀ (j : Nat) b r, io[j]? = some b → rs[j]? = some r → ∃ a, as[j]? = some a ∧ argOf b r e = some a
  | [], [], e, as, h => by
    unfold argsOf at h
    cases h
    exact ⟨rfl, rfl, fun j b r h1 => by simp at h1⟩
  | b :: io, r :: rs, e, as, h => by
    unfold argsOf at h
    rw [Option.bind_eq_some_iff] at h
    obtain ⟨a, h1, h2⟩ := h
    rw [Option.map_eq_some_iff] at h2
    obtain ⟨as', h2, rfl⟩ := h2
    obtain ⟨l1, l2, l3⟩ := argsOf_spec h2
    refine ⟨by simp [l1], by simp [l2], fun j b' r' q1 q2 => ?_⟩
    cases j with
    | zero =>
      simp at q1 q2
      subst q1 q2
      exact ⟨a, rfl, h1⟩
    | succ j =>
      simp at q1 q2
      obtain ⟨a', q3, q4⟩ := l3 j b' r' q1 q2
      exact ⟨a', by simpa using q3, q4⟩
  | [], _ :: _, _, _, h => by unfold argsOf at h; cases h
  | _ :: _, [], _, _, h => by unfold argsOf at h; cases h
/-- the places that stay as data from the call on -/
def Lent (H : Hp) (vs : List V) (rs : List R) (io : List Bool) (e : En) (p : Addr) : Prop := ∃ (j : Nat) (a : Addr), vs[j]? = some (.ref a) ∧ ((∃ o, rs[j]? = some (.new o) ∧ p ∈ foot H o a) ∨ (io[j]? = some false ∧ ∃ i b o, rs[j]? = some (.slot i) ∧ e[i]? = some (some (.own b o)) ∧ p ∈ foot H o a))
open Classical in
noncomputable def lentG (H G : Hp) (L : Addr → Prop) : Hp := fun a => if L a then H a else G a
section
variable {C : Co} {σ : Sg} {H G : Hp} {e : En} {vs : List V} {rs : List R} {io : List Bool}
theorem lent_out {L : Addr → Prop} {a : Addr} (h : ¬ L a) : lentG H G L a = G a := by unfold lentG; rw [if_neg h]
theorem lent_in {L : Addr → Prop} {a : Addr} (h : L a) : lentG H G L a = H a := by unfold lentG; rw [if_pos h]
theorem lent_none (h : Rel C σ H e G) (rr : Paired (RR C H G σ e) vs rs) {p : Addr} (l : Lent H vs rs io e p) : G p = none ∧ (C.H0 p = none ∨ C.rg p) ∧ ∃ u, H p = some u := by
  obtain ⟨j, a, h1, ⟨o, h2, h3⟩ | ⟨_, i, b, o, h2, h3, h4⟩⟩ := l
  · obtain ⟨r, q1, q2⟩ := Paired.get rr h1
    rw [h2] at q1; cases q1
    obtain ⟨c, z1, z2, _, z4⟩ := q2
    cases z1; exact ⟨(z4 p h3).1, .inl (z4 p h3).2.1, z2.ex p h3⟩
  · obtain ⟨r, q1, q2⟩ := Paired.get rr h1
    rw [h2] at q1; cases q1
    obtain ⟨c, z1, z2, _, z4, _⟩ := h.own i b o h3
    have q2' : σ[i]? = some (some (.ref a)) := q2
    rw [q2'] at z1; cases z1; exact ⟨(z4 p h4).1, (z4 p h4).2.imp id fun z => ⟨_, z.2⟩, z2.ex p h4⟩
/-- an owned slot's object is lent only by that slot, handed as data -/
theorem lent_own (h : Rel C σ H e G) (rr : Paired (RR C H G σ e) vs rs) {i : Nat} {b : Bool} {o : OD} {a p : Addr} (he : e[i]? = some (some (.own b o))) (hs : σ[i]? = some (some (.ref a))) (hp : p ∈ foot H o a) (l : Lent H vs rs io e p) : ∃ j : Nat, rs[j]? = some (.slot i) ∧ io[j]? = some false := by
  obtain ⟨j, a', h1, ⟨o', h2, h4⟩ | ⟨h0, i', b', o', h2, h3, h4⟩⟩ := l
  · obtain ⟨r, q1, q2⟩ := Paired.get rr h1
    rw [h2] at q1; cases q1
    obtain ⟨c, z1, _, _, z4⟩ := q2
    cases z1
    exact absurd hp ((z4 p h4).2.2 i b o a he hs)
  · obtain ⟨r, q1, q2⟩ := Paired.get rr h1
    rw [h2] at q1; cases q1
    have q2' : σ[i']? = some (some (.ref a')) := q2
    have := h.sep i i' a a' _ _ _ _ p he h3 hs q2' hp h4
    subst this
    exact ⟨j, h2, h0⟩
theorem ldR_slot {i : Nat} {x : D} (h : ldR (.slot i) e = some x) : e[i]? = some (some (.d x)) ∨ ∃ b o, e[i]? = some (some (.own b o)) ∧ o.dat = true ∧ x = o.toD := by
  unfold ldR at h
  simp only at h
  split at h
  · rename_i y hy; cases h; exact .inl hy
  · rename_i y hy; cases h; exact .inl hy
  · rename_i b o hy; obtain ⟨hd, rfl⟩ := fzO_some h; exact .inr ⟨b, o, hy, hd, rfl⟩
  · cases h
theorem call_ok {P : Pg} {n : Nat} {f : Str} {fn : Fn} {c : Cf} {r : R} {e1 : En} {Q : V → Hp → Prop} {E : XK} (hc : c.call = run P n) (hf : P.fn? f = some fn) (h : Rel C σ H e G) (rr : Paired (RR C H G σ e) vs rs) (nd : NewsD H vs rs)
    (hcall : callF c.call fn.io f rs e = some (r, e1)) (k : ∀ v H' G', Rel C σ H' e1 G' → Same G G' → RR C H' G' σ e1 v r → Q v H') : spF C.K P n f vs H Q E := by
  unfold callF at hcall
  split at hcall
  · rename_i nds
    rw [Option.bind_eq_some_iff] at hcall
    obtain ⟨as, ha, hcall⟩ := hcall
    rw [Option.bind_eq_some_iff] at hcall
    obtain ⟨⟨r', outs⟩, hrun, hcall⟩ := hcall
    simp only [Option.map_eq_some_iff] at hcall
    obtain ⟨e1', hb, q⟩ := hcall
    cases q
    rw [hc] at hrun
    obtain ⟨al, rl, ax⟩ := argsOf_spec ha
    obtain ⟨bl, _, ol, bout, bx⟩ := backs_spec hb nds
    have vl : vs.length = rs.length := Paired.length rr
    generalize hL : Lent H vs rs fn.io e = L at *
    have ln : ∀ a, L a → G a = none ∧ (C.H0 a = none ∨ C.rg a) ∧ ∃ u, H a = some u := fun a l => lent_none h rr (by rw [hL]; exact l)
    have lo : ∀ (i : Nat) b o a p, e[i]? = some (some (.own b o)) → σ[i]? = some (some (.ref a)) → p ∈ foot H o a → L p → ∃ j : Nat, rs[j]? = some (.slot i) ∧ fn.io[j]? = some false := fun i b o a p h1 h2 h3 l => lent_own h rr h1 h2 h3 (by rw [hL]; exact l)
    have gG : Same G (lentG H G L) := fun a o q => by
      have : ¬ L a := fun z => by rw [(ln a z).1] at q; cases q
      rw [lent_out this]; exact q
    have gH : Same (lentG H G L) H := fun a o q => by
      by_cases z : L a
      · rw [lent_in z] at q; exact q
      · rw [lent_out z] at q; exact h.sub a o q
    -- the arguments
    have arg : ∀ (j : Nat) v a, vs[j]? = some v → as[j]? = some a → ArgR C.K H (lentG H G L) v a ∧ (∀ b o, a = .own b o → ∃ i b' , rs[j]? = some (.slot i) ∧ fn.io[j]? = some true ∧ e[i]? = some (some (.own b' o)) ∧ σ[i]? = some (some v)) := by
      intro j v a h1 h2
      obtain ⟨r0, q1, q2⟩ := Paired.get rr h1
      have hj : j < fn.io.length := by rw [← al]; exact lt_of_get h2
      obtain ⟨a', q3, q4⟩ := ax j _ r0 (List.getElem?_eq_getElem hj) q1
      rw [h2] at q3; cases q3
      unfold argOf at q4
      split at q4
      · rename_i hio
        split at q4
        · rename_i i
          split at q4
          · rename_i b' o he
            cases q4
            have q2' : σ[i]? = some (some v) := q2
            obtain ⟨d, z1, z2, z3, z4, z5⟩ := h.own i b' o he
            rw [q2'] at z1; cases z1
            refine ⟨⟨rfl, d, rfl, z2.mono gG, z3, fun p hp => ?_⟩, fun b o' q => ?_⟩
            · have nl : ¬ L p := fun z => by
                obtain ⟨j', w1, w2⟩ := lo i b' o d p he q2' hp z
                have := slots_ix nds q1 w1
                subst this
                rw [List.getElem?_eq_getElem hj, hio] at w2
                cases w2
              rw [lent_out nl]; exact (z4 p hp).1
            · cases q
              exact ⟨i, b', q1, by rw [List.getElem?_eq_getElem hj, hio], he, q2'⟩
          · cases q4
        · cases q4
      · rename_i hio
        rw [Option.map_eq_some_iff] at q4
        obtain ⟨x, q4, rfl⟩ := q4
        refine ⟨?_, fun b o q => nomatch q⟩
        show Rp C.K (lentG H G L) v x
        cases r0 with
        | d y => cases q4; exact Rp.mono gG q2
        | new o =>
          obtain ⟨hd, rfl⟩ := fzO_some q4
          obtain ⟨d, rfl, z2, z3, z4⟩ := q2
          refine z2.rp gG hd fun p hp => ?_
          have l : L p := by rw [← hL]; exact ⟨j, d, h1, .inl ⟨o, q1, hp⟩⟩
          exact lent_in l
        | slot i =>
          have q2' : σ[i]? = some (some v) := q2
          rcases ldR_slot q4 with hy | ⟨b, o, hy, hd, rfl⟩
          · obtain ⟨w, z1, z2⟩ := h.dat i _ hy
            rw [q2'] at z1; cases z1
            exact z2.mono gG
          · obtain ⟨d, z1, z2, z3, z4, z5⟩ := h.own i _ _ hy
            rw [q2'] at z1; cases z1
            refine z2.rp gG hd fun p hp => ?_
            have l : L p := by
              rw [← hL]
              exact ⟨j, d, h1, .inr ⟨by rw [List.getElem?_eq_getElem hj, hio], i, b, o, q1, hy, hp⟩⟩
            exact lent_in l
    have ownIx : ∀ p, InOwn H vs as p → ∃ (j i : Nat) (b : Bool) (o : OD) (a : Addr), rs[j]? = some (.slot i) ∧ fn.io[j]? = some true ∧ e[i]? = some (some (.own b o)) ∧ σ[i]? = some (some (.ref a)) ∧ vs[j]? = some (.ref a) ∧ p ∈ foot H o a := fun p hm => by
      obtain ⟨j, a, b, o, h1, h2, h3⟩ := hm
      obtain ⟨i, b', z1, z2, z3, z4⟩ := (arg j _ _ h1 h2).2 b o rfl
      exact ⟨j, i, b', o, a, z1, z2, z3, z4, h1, h3⟩
    have ownFr : ∀ p, InOwn H vs as p → C.H0 p = none ∨ C.rg p := fun p hm => by
      obtain ⟨j, i, b, o, a, z1, z2, z3, z4, z5, z6⟩ := ownIx p hm
      obtain ⟨d, w1, w2, w3, w4, w5⟩ := h.own i _ _ z3
      rw [z4] at w1; cases w1
      exact (w4 p z6).2.imp id fun z => ⟨_, z.2⟩
    refine ⟨fn, lentG H G L, as, r, outs, hf, al, gH, Paired.mk (by omega) fun j v a h1 h2 => (arg j v a h1 h2).1, fun i j a a' b b' o o' p h1 h2 h3 h4 h5 h6 => ?_, hrun, fun v H' G' post => ?_⟩
    · obtain ⟨i1, b1, z1, z2, z3, z4⟩ := (arg i _ _ h1 h3).2 b o rfl
      obtain ⟨i2, b2, w1, w2, w3, w4⟩ := (arg j _ _ h2 h4).2 b' o' rfl
      have := h.sep i1 i2 a a' _ _ _ _ p z3 w3 z4 w4 h5 h6
      subst this
      exact slots_ix nds z1 w1
    -- behind the call
    have dom' : ∀ a, C.H0 a ≠ none → H' a ≠ none := fun a q => post.dom a (h.dom a q)
    by_cases hat : (atom r && !(fn.io.any id)) = true
    · rw [hat] at hb bx
      rw [Bool.and_eq_true, Bool.not_eq_true'] at hat
      obtain ⟨hat, hio⟩ := hat
      have noio : ∀ (j : Nat) b, fn.io[j]? = some b → b = false := fun j b q => by
        cases b with
        | false => rfl
        | true =>
          have : fn.io.any id = true := List.any_eq_true.mpr ⟨true, List.mem_of_getElem? q, rfl⟩
          rw [hio] at this; cases this
      have noas : ∀ a, ¬ InOwn H vs as a := fun a hm => by
        obtain ⟨j, i, b, o, _, _, z2, _⟩ := ownIx a hm
        cases noio j _ z2
      have same : ∀ k, e1[k]? = e[k]? := fun k => by
        by_cases hk : k ∈ slotsOf rs
        · obtain ⟨j, hj⟩ := mem_slotsOf.mp hk
          have lj := lt_of_get hj
          have q1 : fn.io[j]? = some (fn.io[j]'(by omega)) := List.getElem?_eq_getElem _
          have q2 : outs[j]? = some (outs[j]'(by omega)) := List.getElem?_eq_getElem _
          rcases bx j k _ _ hj q1 q2 with ⟨d, w1, w2⟩ | ⟨b, o, o', w1, _⟩ | ⟨b, o, w1, w2, w3, w4⟩ | ⟨o, w1, w2, _⟩
          · exact w2
          · rw [noio j _ q1] at w1; cases w1
          · exact w4
          · cases w2
        · exact bout k hk
      have ee : e1 = e := List.ext_getElem? same
      subst ee
      have keep : ∀ a o, H a = some o → H' a = some o := fun a o q => post.old a o q (noas a)
      have rel' : Rel C σ H' e1 G :=
        { sub := fun a o q => keep a o (h.sub a o q), gold := h.gold, old := fun a o q hi => keep a o (h.old a o q hi), dom := dom', rok := h.rok, gnew := h.gnew, len := h.len, dat := h.dat, bor := h.bor, bok := h.bok, iok := h.iok
          own := fun i b o q => by
            obtain ⟨d, z1, z2, z3, z4, z5⟩ := h.own i b o q
            have l : ∀ p ∈ foot H o d, H' p = H p := fun p hp => by
              obtain ⟨u, hu⟩ := z2.ex p hp
              rw [hu, keep p u hu]
            have fe := foot_loc o d l
            exact ⟨d, z1, z2.loc l, by rw [fe]; exact z3, by rw [fe]; exact z4, z5⟩
          sep := fun i j a a' b b' o o' p q1 q2 q3 q4 q5 q6 => by
            have fl : ∀ (i : Nat) b o a, e1[i]? = some (some (.own b o)) → σ[i]? = some (some (.ref a)) → foot H' o a = foot H o a := fun i b o a y1 y2 => by
              obtain ⟨d, z1, z2, _⟩ := h.own i b o y1
              rw [y2] at z1; cases z1
              exact foot_loc o a fun p hp => by
                obtain ⟨u, hu⟩ := z2.ex p hp
                rw [hu, keep p u hu]
            rw [fl i b o a q1 q3] at q5
            rw [fl j b' o' a' q2 q4] at q6
            exact h.sep i j a a' b b' o o' p q1 q2 q3 q4 q5 q6 }
      refine k v H' G rel' (Same.refl _) ?_
      have res := post.res
      cases r with
      | d x => exact atom_rp hat res
      | new o => exact absurd hat Bool.false_ne_true
      | slot i => exact absurd hat Bool.false_ne_true
    · have hat' : (atom r && !(fn.io.any id)) = false := by simpa using hat
      rw [hat'] at hb bx
      have bk : ∀ (j i : Nat), rs[j]? = some (.slot i) → ∃ b out, fn.io[j]? = some b ∧ outs[j]? = some out ∧ Back false b out e[i]? e1[i]? := fun j i hj => by
        have lj := lt_of_get hj
        exact ⟨fn.io[j]'(by omega), outs[j]'(by omega), List.getElem?_eq_getElem _, List.getElem?_eq_getElem _, bx j i _ _ hj (List.getElem?_eq_getElem _) (List.getElem?_eq_getElem _)⟩
      have g1 : Same G G' := gG.trans post.gs
      -- owned slots behind: handed and given back, or as they were
      have ownB : ∀ (i : Nat) b o, e1[i]? = some (some (.own b o)) → (∃ (j : Nat) (o0 : OD) (d : Addr), rs[j]? = some (.slot i) ∧ vs[j]? = some (.ref d) ∧ as[j]? = some (.own true o0) ∧ outs[j]? = some (some (.own true o)) ∧ e[i]? = some (some (.own b o0)) ∧ σ[i]? = some (some (.ref d))) ∨ (i ∉ slotsOf rs ∧ e[i]? = some (some (.own b o))) := fun i b o q => by
        by_cases hk : i ∈ slotsOf rs
        · left
          obtain ⟨j, hj⟩ := mem_slotsOf.mp hk
          obtain ⟨b0, out, q1, q2, w⟩ := bk j i hj
          rcases w with ⟨d, w1, w2⟩ | ⟨b', o', o'', w1, w2, w3, w4⟩ | ⟨b', o', w1, w2, _⟩ | ⟨o', w1, w2, w3, w4, w5⟩
          · rw [w2, w1] at q; cases q
          · rw [w4] at q; cases q
            subst w1
            obtain ⟨d, z1, z2, z3, z4, z5⟩ := h.own i _ _ w2
            obtain ⟨v', y1, y2⟩ := Paired.get' rr hj
            have y2' : σ[i]? = some (some v') := y2
            rw [z1] at y2'; cases y2'
            obtain ⟨a', y3, y4⟩ := ax j _ _ q1 hj
            have y4' : a' = .own true o' := by
              unfold argOf at y4
              simp only [w2] at y4
              cases y4; rfl
            subst y4'
            exact ⟨j, o', d, hj, y1, y3, by rw [q2, w3], w2, z1⟩
          · cases w2
          · rw [w5] at q; cases q
        · right
          rw [bout i hk] at q
          exact ⟨hk, q⟩
      -- what was not handed stands as it was
      have stay : ∀ (i : Nat) b o d, i ∉ slotsOf rs → e[i]? = some (some (.own b o)) → σ[i]? = some (some (.ref d)) → ∀ p ∈ foot H o d, ¬ InOwn H vs as p ∧ ¬ L p ∧ H' p = H p := fun i b o d hk q z1 p hp => by
        obtain ⟨d', y1, z2, z3, z4, z5⟩ := h.own i _ _ q
        rw [z1] at y1; cases y1
        have na : ¬ InOwn H vs as p := fun hm => by
          obtain ⟨j, i', b', o', a', y1, y2, y3, y4, y5, y6⟩ := ownIx p hm
          have := h.sep i i' d a' _ _ _ _ p q y3 z1 y4 hp y6
          subst this
          exact hk (mem_slotsOf.mpr ⟨j, y1⟩)
        have nl : ¬ L p := fun l => by
          obtain ⟨j, y1, _⟩ := lo i _ _ d p q z1 hp l
          exact hk (mem_slotsOf.mpr ⟨j, y1⟩)
        obtain ⟨u, hu⟩ := z2.ex p hp
        exact ⟨na, nl, by rw [hu, post.old p u hu na]⟩
      have rel' : Rel C σ H' e1 G' :=
        { sub := post.sub, gold := h.gold.trans g1, dom := dom', rok := h.rok, len := bl.trans h.len, bok := h.bok
          old := fun a o q hi => by
            refine post.old a o (h.old a o q hi) fun hm => ?_
            rcases ownFr a hm with z | z
            · rw [z] at q; cases q
            · exact hi z
          gnew := fun a o q => by
            rcases post.gn a o q with z | z | z
            · by_cases l : L a
              · exact .inr (ln a l).2.1
              · rw [lent_out l] at z; exact h.gnew a o z
            · exact .inr (.inl (h.h0 z))
            · exact .inr (ownFr a z)
          dat := fun i x q => by
            by_cases hk : i ∈ slotsOf rs
            · obtain ⟨j, hj⟩ := mem_slotsOf.mp hk
              obtain ⟨b0, out, q1, q2, w⟩ := bk j i hj
              rcases w with ⟨d, w1, w2⟩ | ⟨b', o', o'', w1, w2, w3, w4⟩ | ⟨b', o', w1, w2, _⟩ | ⟨o', w1, w2, hd, w3, w4⟩
              · rw [w2] at q
                obtain ⟨v', z1, z2⟩ := h.dat i x q
                exact ⟨v', z1, z2.mono g1⟩
              · rw [w4] at q; cases q
              · cases w2
              · rw [w4] at q; cases q
                subst w1
                obtain ⟨d, z1, z2, z3, z4, z5⟩ := h.own i _ _ w3
                obtain ⟨v', y1, y2⟩ := Paired.get' rr hj
                have y2' : σ[i]? = some (some v') := y2
                rw [z1] at y2'; cases y2'
                refine ⟨_, z1, (z2.rp gG hd fun p hp => ?_).mono post.gs⟩
                have l : L p := by rw [← hL]; exact ⟨j, d, y1, .inr ⟨q1, i, false, o', hj, w3, hp⟩⟩
                exact lent_in l
            · rw [bout i hk] at q
              obtain ⟨v', z1, z2⟩ := h.dat i x q
              exact ⟨v', z1, z2.mono g1⟩
          own := fun i b o q => by
            rcases ownB i b o q with ⟨j, o0, d, hj, y1, y3, y5, w2, z1⟩ | ⟨hk, q⟩
            · obtain ⟨d', z1', z2, z3, z4, z5⟩ := h.own i _ _ w2
              rw [z1] at z1'; cases z1'
              obtain ⟨o2, x1, x2, x3, x4⟩ := post.outs j d o0 y1 y3
              rw [y5] at x1; cases x1
              refine ⟨d, z1, x2, x3, fun p hp => ⟨(x4 p hp).1, ?_⟩, z5⟩
              rcases (x4 p hp).2 with z | z
              · exact .inl (h.h0 z)
              · exact (z4 p z).2
            · obtain ⟨d, z1, z2, z3, z4, z5⟩ := h.own i _ _ q
              have st := stay i b o d hk q z1
              have fe := foot_loc o d fun p hp => (st p hp).2.2
              refine ⟨d, z1, (z2.mono g1).loc fun p hp => (st p hp).2.2, by rw [fe]; exact z3, fun p hp => ?_, z5⟩
              rw [fe] at hp
              refine ⟨?_, (z4 p hp).2⟩
              cases qg : G' p with
              | none => rfl
              | some w =>
                rcases post.gn p w qg with y | y | y
                · rw [lent_out (st p hp).2.1, (z4 p hp).1] at y; cases y
                · obtain ⟨u, hu⟩ := z2.ex p hp
                  rw [hu] at y; cases y
                · exact absurd y (st p hp).1
          sep := fun i j a a' b b' o o' p q1 q2 q3 q4 q5 q6 => by
            rcases ownB i b o q1 with ⟨j1, o1, d1, hj1, y1, y3, y5, w1, z1⟩ | ⟨hk1, q1⟩
            · rw [q3] at z1; cases z1
              rcases ownB j b' o' q2 with ⟨j2, o2, d2, hj2, x1, x3, x5, w2, z2⟩ | ⟨hk2, q2⟩
              · rw [q4] at z2; cases z2
                have := post.osep j1 j2 a a' _ _ _ _ o o' p y1 x1 y3 x3 y5 x5 q5 q6
                subst this
                rw [hj1] at hj2; cases hj2; rfl
              · have st := stay j b' o' a' hk2 q2 q4
                rw [foot_loc o' a' fun p hp => (st p hp).2.2] at q6
                obtain ⟨o3, s1, s2, s3, s4⟩ := post.outs j1 a o1 y1 y3
                rw [y5] at s1; cases s1
                rcases (s4 p q5).2 with z | z
                · obtain ⟨d', t1, t2, _⟩ := h.own j _ _ q2
                  rw [q4] at t1; cases t1
                  obtain ⟨u, hu⟩ := t2.ex p q6
                  rw [hu] at z; cases z
                · exact absurd ⟨j1, a, true, o1, y1, y3, z⟩ (st p q6).1
            · have st := stay i b o a hk1 q1 q3
              rw [foot_loc o a fun p hp => (st p hp).2.2] at q5
              rcases ownB j b' o' q2 with ⟨j2, o2, d2, hj2, x1, x3, x5, w2, z2⟩ | ⟨hk2, q2⟩
              · rw [q4] at z2; cases z2
                obtain ⟨o3, s1, s2, s3, s4⟩ := post.outs j2 a' o2 x1 x3
                rw [x5] at s1; cases s1
                rcases (s4 p q6).2 with z | z
                · obtain ⟨d', t1, t2, _⟩ := h.own i _ _ q1
                  rw [q3] at t1; cases t1
                  obtain ⟨u, hu⟩ := t2.ex p q5
                  rw [hu] at z; cases z
                · exact absurd ⟨j2, a', true, o2, x1, x3, z⟩ (st p q5).1
              · have st2 := stay j b' o' a' hk2 q2 q4
                rw [foot_loc o' a' fun p hp => (st2 p hp).2.2] at q6
                exact h.sep i j a a' _ _ _ _ p q1 q2 q3 q4 q5 q6
          bor := fun i o q => by
            by_cases hk : i ∈ slotsOf rs
            · obtain ⟨j, hj⟩ := mem_slotsOf.mp hk
              obtain ⟨b0, out, q1, q2, w⟩ := bk j i hj
              rcases w with ⟨d, w1, w2⟩ | ⟨b', o', o'', w1, w2, w3, w4⟩ | ⟨b', o', w1, w2, _⟩ | ⟨o', w1, w2, w3, w4, w5⟩
              · rw [w2, w1] at q; cases q
              · rw [w4] at q; cases q
              · cases w2
              · rw [w5] at q; cases q
            · rw [bout i hk] at q; exact h.bor i o q
          iok := fun i a q => by
            obtain ⟨⟨o, z1⟩, z2⟩ := h.iok i a q
            refine ⟨?_, z2⟩
            by_cases hk : i ∈ slotsOf rs
            · obtain ⟨j, hj⟩ := mem_slotsOf.mp hk
              obtain ⟨b0, out, q1, q2, w⟩ := bk j i hj
              rcases w with ⟨d, w1, w2⟩ | ⟨b', o', o'', w1, w2, w3, w4⟩ | ⟨b', o', w1, w2, _⟩ | ⟨o', w1, w2, w3, w4, w5⟩
              · rw [z1] at w1; cases w1
              · rw [z1] at w2; cases w2; exact ⟨_, w4⟩
              · cases w2
              · rw [z1] at w4; cases w4
            · exact ⟨o, by rw [bout i hk]; exact z1⟩ }
      refine k v H' G' rel' g1 ?_
      have res := post.res
      cases r with
      | d x => exact res
      | slot i => exact res.elim
      | new o =>
        obtain ⟨a, z1, z2, z3, z4⟩ := res
        refine ⟨a, z1, z2, z3, fun p hp => ⟨(z4 p hp).2.1, h.h0 (z4 p hp).1, fun i b o' d q w hf => ?_⟩⟩
        rcases ownB i b o' q with ⟨j, o0, d', hj, y1, y3, y5, w2, s1⟩ | ⟨hk, q⟩
        · rw [w] at s1; cases s1
          exact (z4 p hp).2.2 j d o' y1 (by rw [y3]; exact fun z => nomatch z) y5 hf
        · have st := stay i b o' d hk q w
          rw [foot_loc o' d fun p hp => (st p hp).2.2] at hf
          obtain ⟨d', t1, t2, _⟩ := h.own i _ _ q
          rw [w] at t1; cases t1
          obtain ⟨u, hu⟩ := t2.ex p hf
          rw [(z4 p hp).1] at hu; cases hu
  · cases hcall
end
end PL

/-! PL7: expressions keep their word: primitives, calls, methods. -/
namespace PL
open PySem PySem.Spec
open PyProof.Rows L2

/-- the builtins that the language knows -/
def bltNames : List Str := ["len", "abs", "int", "tuple", "list", "sorted", "sum", "max", "min", "str", "repr", "bool", "isinstance", "range", "dict", "set", "any", "all", "zip", "enumerate"]
/-- what is known where code of the program runs -/
structure XOk (P : Pg) (n : Nat) (X : Cx) (sc : Nms) : Prop where
  calm : X.calm = true
  nd : X.N.Nodup
  room : Room n X.A
  gd : X.A.guards = some []
  xe : X.xe = fun _ _ => False
  loc : ∀ x, sc.lookup x = some .local → X.env.scope.names.lookup x = some .local
  cell : ∀ x, sc.lookup x = some .cell → X.env.scope.names.lookup x = some .cell ∧ X.fn x = true
  free : ∀ x, sc.lookup x = some .free → X.env.scope.names.lookup x = some .cell ∨ X.env.scope.names.lookup x = some .free
  glob : ∀ x, sc.lookup x = some .globalImplicit → X.env.kindOf x = some .globalImplicit
  fns : ∀ f fn, P.fn? f = some fn → ∃ fa fd ps, FnG X.prog X.w X.K X.mg X.base CX0 n fa fd ps (spF X.K P n f) ∧ X.mg fn.name = some (.ref fa) ∧ PySem.W.keepIn X.K (.ref fa) = true ∧ Binds X.K fd ps []
  blt : ∀ x ∈ bltNames, X.mg x = none
  glbs : ∀ x d, P.glb x = some d → ∃ u v, X.mg x = some u ∧ RelV v u ∧ ∀ H, Rp X.K H v d
/-- the forms that the checker takes -/
def shape : Expr → Bool
  | .BoolOp .. => true | .BinOp .. => true | .UnaryOp .. => true | .IfExp .. => true | .ListComp .. => true | .Compare .. => true | .Call .. => true | .Constant .. => true
  | .Subscript .. => true | .Name .. => true | .List .. => true | .Tuple .. => true | .Dict .. => true | .DictComp .. => true | .Attribute .. => true
  | _ => false
structure Plain (x : Expr) : Prop where
  star : ∀ env xs, starEach (x :: xs) env = (false, eval x env) :: starEach xs env
  ix : PlainIx x
  mark : ∀ op, behindInMarks op x = false
  fold : ∀ env y, foldedSetIterable x env y = pure y
theorem plain_of {x : Expr} (h : shape x = true) : Plain x := by
  cases x <;> first | exact absurd h Bool.false_ne_true | exact ⟨fun _ _ => rfl, fun _ _ => rfl, fun _ => rfl, fun _ _ => rfl⟩
theorem argsP_shape {sc : Nms} {p : Prm} {x : Expr} {xs : List Expr} (h : argsP sc p x = some xs) : shape x = true := by
  unfold argsP at h
  split at h <;> first | rfl | cases h
theorem chk_shape {P : Pg} {N : List Str} {sc : Nms} : ∀ {t : Ex} {x : Expr}, chkE P N sc t x = true → shape x = true := by
  intro t x h
  cases t with
  | prm p ts =>
    unfold chkE at h
    split at h
    · rename_i xs hx; exact argsP_shape hx
    · cases h
  | kid i st =>
    unfold chkE chkPl at h
    split at h <;> first | rfl | cases h
  | meth f ts => cases h
  | make f ts => cases h
  | _ =>
    unfold chkE at h
    split at h <;> first | rfl | cases h
inductive PEs (X : Cx) (c : Cf) : Es → List Expr → Prop
  | nil : PEs X c .nil []
  | cons {t : Ex} {ts : Es} {x : Expr} {xs : List Expr} : PE X x (rdE X.K c t) → Plain x → PEs X c ts xs → PEs X c (.cons t ts) (x :: xs)
section
variable {P : Pg} {n : Nat} {X : Cx} {sc : Nms} {c : Cf}
theorem PEs.pa : ∀ {ts : Es} {xs : List Expr}, PEs X c ts xs → PA X xs (rdA X.K c ts)
  | _, _, .nil => pa_imp pa_nil fun σ H Q q => rdA_nil q
  | _, _, .cons h p r => pa_imp (pa_cons h r.pa (p.star _ _)) fun σ H Q q => rdA_cons q
theorem PEs.plain : ∀ {ts : Es} {xs : List Expr}, PEs X c ts xs → ∀ x ∈ xs, Plain x
  | _, _, .nil, x, h => absurd h List.not_mem_nil
  | _, _, .cons _ p r, x, h => by
    rcases List.mem_cons.mp h with h | h
    · rw [h]; exact p
    · exact r.plain x h
theorem star_map : ∀ {xs : List Expr} {env : Env}, (∀ x ∈ xs, Plain x) → starEach xs env = xs.map fun x => (false, eval x env)
  | [], _, _ => rfl
  | x :: xs, env, h => by
    rw [(h x List.mem_cons_self).star, star_map fun y hy => h y (List.mem_cons_of_mem _ hy)]
    rfl
theorem star_back {xs : List Expr} {env : Env} {pos : Pos} (h : ∀ x ∈ xs, Plain x) : (backTo pos (starEach xs env)).any (·.1) = false := by
  rw [star_map h]
  unfold backTo
  rw [List.map_map, List.any_map]
  exact List.any_eq_false.mpr fun x _ => by simp
theorem star_few {xs : List Expr} {env : Env} {pos : Pos} (h : ∀ x ∈ xs, Plain x) (hl : xs.length < 30) : ((backTo pos (starEach xs env)).all (fun x => !x.1) && (backToKw pos (keywordEach [] env)).all (fun x => x.1.isSome)
      && decide (xs.length + ([] : List Keyword).length + (if ([] : List Keyword).isEmpty then 0 else 1) < 30)) = true := by
  rw [star_map h]
  unfold backTo
  rw [List.map_map, List.all_map]
  rw [Bool.and_eq_true, Bool.and_eq_true]
  exact ⟨⟨List.all_eq_true.mpr fun x _ => rfl, rfl⟩, decide_eq_true (by simpa using hl)⟩
theorem rdE_mono {K : PySem.W.Frag} {t : Ex} {σ : Sg} {H : Hp} {Q Q' : VK} (h : rdE K c t σ H Q) (i : ∀ v H, Q v H → Q' v H) : rdE K c t σ H Q' := by
  obtain ⟨C, e, G, r, e1, h1, h2, h3, k⟩ := h
  exact ⟨C, e, G, r, e1, h1, h2, h3, fun v H' G' a b d => i _ _ (k v H' G' a b d)⟩
theorem one_rd {K : PySem.W.Frag} {a : Ex} {σ : Sg} {H : Hp} {Q : List V → Hp → Prop} (h : rdA K c (.cons a .nil) σ H Q) : rdE K c a σ H fun x H1 => Q [x] H1 :=
  rdE_mono (rdA_cons h) fun _ _ q => rdA_nil q
theorem two_rd {K : PySem.W.Frag} {a b : Ex} {σ : Sg} {H : Hp} {Q : List V → Hp → Prop} (h : rdA K c (.cons a (.cons b .nil)) σ H Q) : rdE K c a σ H fun x H1 => rdE K c b σ H1 fun y H2 => Q [x, y] H2 :=
  rdE_mono (rdA_cons h) fun _ _ q => one_rd (Q := fun vs => Q (_ :: vs)) q
/-- a new leaf, one by one -/
theorem RR.leaf {C : Co} {H G : Hp} {σ : Sg} {e : En} {v : V} {o : OD} (h : RR C H G σ e v (.new o)) (hl : o.leaf = true) : ∃ a u, v = .ref a ∧ H a = some u ∧ ObR C.K G u o ∧ G a = none ∧ C.H0 a = none ∧ NotOwn σ H e a := by
  obtain ⟨a, h1, h2, h3, h4⟩ := h
  obtain ⟨⟨u, z1, z2⟩, _⟩ := h2.leaf hl
  have := h4 a (root_mem H o a)
  exact ⟨a, u, h1, z1, z2, this⟩
theorem RR.mkLeaf {C : Co} {H G : Hp} {σ : Sg} {e : En} {a : Addr} {u : HO} {o : OD} (ha : H a = some u) (ho : ObR C.K G u o) (hg : G a = none) (h0 : C.H0 a = none) (hn : NotOwn σ H e a) : RR C H G σ e (.ref a) (.new o) := by
  have hf : foot H o a = [a] := foot_leaf ho.leaf
  refine ⟨a, rfl, ho.std ha, by rw [hf]; exact List.nodup_cons.mpr ⟨List.not_mem_nil, List.nodup_nil⟩, fun p hp => ?_⟩
  rw [hf] at hp
  rw [List.mem_singleton.mp hp]
  exact ⟨hg, h0, hn⟩
theorem Rel.guard1 {C : Co} {σ : Sg} {H G : Hp} {e : En} {a : Addr} {u : HO} (h : Rel C σ H e G) (ha : H a = some u) (hg : G a = none) (h0 : C.H0 a = none) (hn : NotOwn σ H e a) : Rel (C.guard [a] H G) σ H e G :=
  h.guard fun p hp => by rw [List.mem_singleton.mp hp]; exact ⟨⟨u, ha⟩, hg, h0, hn⟩
theorem Rel.unguard1 {C : Co} {σ σ2 : Sg} {H G H2 G2 : Hp} {e e2 : En} {a : Addr} {u : HO} (h : Rel C σ H e G) (ha : H a = some u) (h0 : C.H0 a = none) (hg : G a = none) (h2 : Rel (C.guard [a] H G) σ2 H2 e2 G2) (g2 : Same G G2) :
    Rel C σ2 H2 e2 G2 ∧ H2 a = some u ∧ G2 a = none ∧ NotOwn σ2 H2 e2 a := by
  obtain ⟨w1, w2⟩ := h.unguard (F := [a]) (fun p hp => by rw [List.mem_singleton.mp hp]; exact ⟨⟨u, ha⟩, hg, h0⟩) h2 g2
  obtain ⟨q1, q2, q3⟩ := w2 a List.mem_cons_self
  exact ⟨w1, by rw [q1]; exact ha, q2, q3⟩
theorem Rel.pst {C : Co} {σ : Sg} {H G : Hp} {e : En} (h : Rel C σ H e G) {v : V} {r : PR} {H' G' : Hp} (p : Pst C.K H G v r H' G') : Rel C σ H' e G' ∧ RR C H' G' σ e v r.toR := by
  have loc : ∀ {o : OD} {a : Addr}, Std C.K G H o a → ∀ q ∈ foot H o a, H' q = H q := fun z q hq => by
    obtain ⟨u, hu⟩ := z.ex q hq
    rw [hu, p.hs q u hu]
  have fl : ∀ (i : Nat) b o a, e[i]? = some (some (.own b o)) → σ[i]? = some (some (.ref a)) → foot H' o a = foot H o a := fun i b o a q w => by
    obtain ⟨d, h1, h2, _⟩ := h.own i b o q
    rw [w] at h1; cases h1
    exact foot_loc o a (loc h2)
  refine ⟨{ sub := p.sub, gold := h.gold.trans p.gs, old := fun a o q hi => p.hs a o (h.old a o q hi), rok := h.rok, len := h.len, bor := h.bor, bok := h.bok, iok := h.iok
            dom := fun a q => ?_, gnew := fun a o q => ?_, dat := fun i x q => ?_, own := fun i b o q => ?_, sep := fun i j a a' b b' o o' x q1 q2 q3 q4 q5 q6 => ?_ }, ?_⟩
  · cases z : H a with
    | none => exact absurd z (h.dom a q)
    | some u => rw [p.hs a u z]; exact fun w => nomatch w
  · rcases p.gn a o q with z | z
    · exact h.gnew a o z
    · exact .inr (.inl (h.h0 z))
  · obtain ⟨v, h1, h2⟩ := h.dat i x q
    exact ⟨v, h1, h2.mono p.gs⟩
  · obtain ⟨a, h1, h2, h3, h4, h5⟩ := h.own i b o q
    have fe := foot_loc o a (loc h2)
    refine ⟨a, h1, (h2.mono p.gs).loc (loc h2), by rw [fe]; exact h3, fun x hx => ?_, h5⟩
    rw [fe] at hx
    refine ⟨?_, (h4 x hx).2⟩
    cases q0 : G' x with
    | none => rfl
    | some w =>
      rcases p.gn x w q0 with z | z
      · rw [(h4 x hx).1] at z; cases z
      · obtain ⟨u, hu⟩ := h2.ex x hx
        rw [hu] at z; cases z
  · rw [fl i b o a q1 q3] at q5
    rw [fl j b' o' a' q2 q4] at q6
    exact h.sep i j a a' b b' o o' x q1 q2 q3 q4 q5 q6
  · have res := p.res
    cases r with
    | is x => exact res
    | new o =>
      obtain ⟨a, u, h1, h2, h3, h4, h5⟩ := res
      have hf : foot H' o a = [a] := foot_leaf h5.leaf
      refine ⟨a, h1, h5.std h3, by rw [hf]; exact List.nodup_cons.mpr ⟨List.not_mem_nil, List.nodup_nil⟩, fun x hx => ?_⟩
      rw [hf] at hx
      have hx := List.mem_singleton.mp hx
      subst hx
      refine ⟨h4, h.h0 h2, fun i b o' d q w hf => ?_⟩
      rw [fl i b o' d q w] at hf
      obtain ⟨d', w1, w2, _⟩ := h.own i b o' q
      rw [w] at w1; cases w1
      obtain ⟨u', hu⟩ := w2.ex x hf
      rw [h2] at hu; cases hu
theorem prm_rd {K : PySem.W.Frag} {p : Prm} {ts : Es} {σ : Sg} {H : Hp} {Q : VK} (h : rdE K c (.prm p ts) σ H Q) : rdA K c ts σ H fun vs H1 => rP K (prmF p) vs H1 Q := by
  obtain ⟨C, e, G, r, e1, hK, rel, hv, k⟩ := h
  unfold ev at hv
  rw [Option.bind_eq_some_iff] at hv
  obtain ⟨⟨rs, e2⟩, h1, hv⟩ := hv
  simp only [Option.bind_eq_some_iff, Option.map_eq_some_iff] at hv
  obtain ⟨xs, h2, r', h3, q⟩ := hv
  cases q
  subst hK
  refine ⟨C, e, G, rs, e1, rfl, rel, h1, fun vs H1 G1 rel1 g1 rr nd => ?_⟩
  obtain ⟨G3, g3, rel3, qs⟩ := rel1.pks rr nd h2
  refine ⟨G3, xs, r', rel3.sub, qs, h3, fun v H2 G2 pst => ?_⟩
  obtain ⟨z1, z2⟩ := rel3.pst pst
  exact k v H2 G2 z1 ((g1.trans g3).trans pst.gs) z2
/-- two operands by values -/
theorem rP_two {K : PySem.W.Frag} {f : List D → Option PR} {g : D → D → Option PR} (hfg : ∀ x y, f [x, y] = g x y) {v w : V} {H : Hp} {Q : VK} (h : rP K f [v, w] H Q) : r2P K g v w H Q := by
  obtain ⟨G, xs, r, sg, qs, e, k⟩ := h
  cases qs with
  | cons q1 qs =>
    cases qs with
    | cons q2 qs =>
      cases qs
      exact ⟨G, _, _, r, sg, q1, q2, by rw [← hfg]; exact e, k⟩
theorem gl_of (ok : XOk P n X sc) {x : Str} (h : glK sc x = true) : Gl X x ∧ (x == ("__debug__" : Str)) = false ∧ x ≠ "__name__" := by
  unfold glK at h
  rw [Bool.and_eq_true, Bool.and_eq_true, Bool.not_eq_true', Bool.not_eq_true'] at h
  exact ⟨ok.glob x (of_decide_eq_true h.1.1), h.1.2, fun z => by rw [z] at h; exact absurd h.2 (by decide)⟩
theorem hu200 (ok : XOk P n X sc) : X.A.units + 200 < cLine := by have := ok.room.un; omega
theorem blt_call (ok : XOk P n X sc) (b : Blt) {x : Expr} {xs : List Expr} {t : TA} {p pos : Pos} (hg : glK sc b.nm = true) (ha : PA X (x :: xs) t) (hpl : Plain x) (hps : ∀ y ∈ xs, Plain y) :
    PE X (.Call (.Name b.nm p) (x :: xs) [] pos) (tCB (rP X.K (bltF b)) t) := by
  obtain ⟨g1, g2, g3⟩ := gl_of ok hg
  have never : ∀ {f : Value}, (∀ xs, bltF b xs = none) → CallR X f (rP X.K (bltF b)) := fun h pins s σ H vs us Q I r q => by
    obtain ⟨G, xs, r, sg, qs, e, k⟩ := q
    rw [h] at e; cases e
  have he := hpl.star X.env xs
  have hb := star_back (env := X.env) (pos := pos) hps
  cases b with
  | len => exact pe_callB cr_len g1 (ok.blt _ (by decide +kernel)) (by decide +kernel) ha g3 g2 he hb
  | abs => exact pe_callB cr_abs g1 (ok.blt _ (by decide +kernel)) (by decide +kernel) ha g3 g2 he hb
  | int => exact pe_callTy cr_int g1 (ok.blt _ (by decide +kernel)) (by decide +kernel) ha g3 g2 he hb
  | tuple => exact pe_callTy cr_tuple g1 (ok.blt _ (by decide +kernel)) (by decide +kernel) ha g3 g2 he hb
  | list => exact pe_callTy (cr_list ok.calm) g1 (ok.blt _ (by decide +kernel)) (by decide +kernel) ha g3 g2 he hb
  | sorted => exact pe_callB (cr_sortedF (hu200 ok)) g1 (ok.blt _ (by decide +kernel)) (by decide +kernel) ha g3 g2 he hb
  | sum => exact pe_callB (cr_sumF ok.calm) g1 (ok.blt _ (by decide +kernel)) (by decide +kernel) ha g3 g2 he hb
  | max1 => exact pe_callB (cr_max1 ok.calm) g1 (ok.blt _ (by decide +kernel)) (by decide +kernel) ha g3 g2 he hb
  | min1 => exact pe_callB (cr_min1 ok.calm) g1 (ok.blt _ (by decide +kernel)) (by decide +kernel) ha g3 g2 he hb
  | max2 => exact pe_callB (cr_max2 ok.calm) g1 (ok.blt _ (by decide +kernel)) (by decide +kernel) ha g3 g2 he hb
  | min2 => exact pe_callB (cr_min2 ok.calm) g1 (ok.blt _ (by decide +kernel)) (by decide +kernel) ha g3 g2 he hb
  | str => exact pe_callTy cr_strF g1 (ok.blt _ (by decide +kernel)) (by decide +kernel) ha g3 g2 he hb
  | repr => exact pe_callB (cr_reprF ok.gd (hu200 ok)) g1 (ok.blt _ (by decide +kernel)) (by decide +kernel) ha g3 g2 he hb
  | bool => exact pe_callTy (never fun xs => by unfold bltF; split <;> first | rfl | contradiction) g1 (ok.blt _ (by decide +kernel)) (by decide +kernel) ha g3 g2 he hb (T := "bool")
theorem pe1 {ts : Es} {x : Expr} (h : PEs X c ts [x]) : ∃ a, ts = .cons a .nil ∧ PE X x (rdE X.K c a) ∧ Plain x := by
  cases h with | cons h p r => cases r; exact ⟨_, rfl, h, p⟩
theorem pe2 {ts : Es} {x y : Expr} (h : PEs X c ts [x, y]) : ∃ a b, ts = .cons a (.cons b .nil) ∧ PE X x (rdE X.K c a) ∧ Plain x ∧ PE X y (rdE X.K c b) ∧ Plain y := by
  cases h with | cons h p r => cases r with | cons h2 p2 r => cases r; exact ⟨_, _, rfl, h, p, h2, p2⟩
theorem pe3 {ts : Es} {x y z : Expr} (h : PEs X c ts [x, y, z]) : ∃ a b d, ts = .cons a (.cons b (.cons d .nil)) ∧ PE X x (rdE X.K c a) ∧ PE X y (rdE X.K c b) ∧ PE X z (rdE X.K c d) := by
  cases h with | cons h p r => cases r with | cons h2 p2 r => cases r with | cons h3 p3 r => cases r; exact ⟨_, _, _, rfl, h, h2, h3⟩
end
end PL

/-! PL8: primitives by the checker's forms. -/
namespace PL
open PySem PySem.Spec
open PyProof.Rows L2
section
variable {P : Pg} {n : Nat} {X : Cx} {sc : Nms} {c : Cf}
theorem toD_noint {o : OD} {i : Int} (hd : o.dat = true) (h : PyData.int i = o.toD) : False := by
  cases o with
  | lst xs => unfold OD.toD at h; cases h
  | dic xs => unfold OD.toD at h; cases h
  | nod k ts =>
    unfold OD.toD at h
    cases k with
    | ins c fs => unfold OD.dat at hd; cases hd
    | _ => cases h
theorem RpL.places {K : PySem.W.Frag} {G : Hp} {vs : List V} {xs : List D} (h : RpL K G vs xs) : ∀ ks : List Nat, RpL K G (ks.filterMap (vs[·]?)) (ks.filterMap (xs[·]?))
  | [] => .nil
  | k :: ks => by
    cases q : xs[k]? with
    | none =>
      have q2 : vs[k]? = none := by
        rw [List.getElem?_eq_none_iff] at q ⊢
        rw [h.length]; exact q
      rw [List.filterMap_cons, List.filterMap_cons, q, q2]
      exact RpL.places h ks
    | some x =>
      obtain ⟨v, h1, h2⟩ := h.get q
      rw [List.filterMap_cons, List.filterMap_cons, q, h1]
      exact .cons h2 (RpL.places h ks)
theorem Vals.places {vs : List V} {us : List Value} (h : Vals vs us) : ∀ ks : List Nat, Vals (ks.filterMap (vs[·]?)) (ks.filterMap (us[·]?))
  | [] => .nil
  | k :: ks => by
    cases q : vs[k]? with
    | none =>
      have q2 : us[k]? = none := h.none_of q
      rw [List.filterMap_cons, List.filterMap_cons, q, q2]
      exact Vals.places h ks
    | some x =>
      obtain ⟨u, h1, h2⟩ := Vals.get h q
      rw [List.filterMap_cons, List.filterMap_cons, q, h1]
      exact .cons h2 (Vals.places h ks)
theorem places_len {α β : Type} {xs : List α} {ys : List β} (h : xs.length = ys.length) : ∀ ks : List Nat, (ks.filterMap (xs[·]?)).length = (ks.filterMap (ys[·]?)).length
  | [] => rfl
  | k :: ks => by
    have ih := places_len h ks
    cases q : xs[k]? with
    | none =>
      have q2 : ys[k]? = none := by
        rw [List.getElem?_eq_none_iff] at q ⊢
        omega
      rw [List.filterMap_cons, List.filterMap_cons, q, q2]
      exact ih
    | some x =>
      have hk : k < ys.length := by have := lt_of_get q; omega
      rw [List.filterMap_cons, List.filterMap_cons, q, List.getElem?_eq_getElem hk]
      show _ + 1 = _ + 1
      rw [ih]
theorem pickL_len {α : Type} (xs : List α) (k : Int) : (pickL xs k).length ≤ xs.length := by
  have h := slicePick_size_le (List.replicate xs.length Value.none).toArray none none (some k)
  unfold pickL
  rw [places_len (ys := List.replicate xs.length Value.none) (by simp)]
  unfold slicePick at h
  simp only [List.size_toArray, List.length_replicate, List.getElem?_toArray] at h
  exact h
/-- x[::k] -/
def tStp (te tk : TE) : TE := fun σ H Q => te σ H fun x H1 => tPart tk σ H1 fun o H2 => ∃ i, o = some i ∧ i ≠ 0 ∧ ∃ a xs, x = .ref a ∧ Rd H2 a (.lst xs) ∧ ∀ p, H2 p = none → Q (.ref p) (upd H2 p (.lst (pickL xs i)))
theorem pe_stp {e kx : Expr} {te tk : TE} {p3 pos : Pos} (he : PE X e te) (hk : PE X kx tk) : PE X (.Subscript e (.Slice none none (some kx) p3) pos) (tStp te tk) := by
  refine ⟨fun pins s σ H Q I h => ?_⟩
  refine Subscript_ (thn (he.run pins s σ H _ I h) fun v s1 ⟨x, H1, I1, r1, q1⟩ => ?_)
  have hst : PO X (some kx) (tPart tk) := po_some hk
  refine wpAny_Slice (thn (po_none.run pins s1 σ H1 (fun o H2 => o = none ∧ H2 = H1) I1 ⟨rfl, rfl⟩) fun vl s2 ⟨l, H2, I2, pl, el, e2⟩ => ?_)
  subst el e2
  refine thn (po_none.run pins s2 σ H2 (fun o H3 => o = none ∧ H3 = H2) I2 ⟨rfl, rfl⟩) fun vu s3 ⟨u, H3, I3, pu, eu, e3⟩ => ?_
  subst eu e3
  refine thn (hst.run pins s3 σ H3 (fun o H4 => ∃ i, o = some i ∧ i ≠ 0 ∧ ∃ a xs, x = .ref a ∧ Rd H4 a (.lst xs) ∧ ∀ p, H4 p = none → Q (.ref p) (upd H4 p (.lst (pickL xs i)))) I3 q1) fun vs s4 ⟨o, H4, I4, ps, i, eo, hi, a, xs, ex, hx, q⟩ => ?_
  subst eo ex
  cases r1
  have I5 : Inv X pins σ H4 { s4 with heap := s4.heap.push { cls := .type "slice", data := .fields #[vl, vu, vs] } } := I4.kept (t' := s4.toks) fun b ob q => Heap.get?_push_of_some _ q
  obtain ⟨hz, its, n, r, hl⟩ := hx.ok I5.hok
  have hlen := r.length
  have ht : Heap.IsList (s4.heap.push { cls := .type "slice", data := .fields #[vl, vu, vs] }) a its.toArray := ⟨_, hl, rfl, _, rfl⟩
  show wpAny (model X.prog X.w) X.A (subscriptTail e (.Slice none none (some kx) p3) (.ref a) (.ref s4.heap.objs.size)) (EP X pins σ Q) X.xe { s4 with heap := s4.heap.push { cls := .type "slice", data := .fields #[vl, vu, vs] } }
  refine tail_any (ops := [.ref a, .ref s4.heap.objs.size]) ht.typeIs (PySem.slot_list_getitem.lookup) ?_ (by with_unfolding_all rfl)
  refine wpAny_getItem_list_slice ht (Heap.IsSliceOf.new _ vl vu vs) pl pu ps (fun z => hi (Option.some.inj z)) ?_ (by rw [List.size_toArray]; omega)
  have ep : slicePick its.toArray none none (some i) = (pickL its i).toArray := by
    unfold slicePick pickL pickN
    simp
  rw [ep]
  have pv : Vals (pickL xs i) (pickL its i) := by
    unfold pickL
    rw [hlen]
    exact Vals.places r _
  refine ⟨.ref _, _, I5.laid (t' := s4.toks) (o := .lst (pickL xs i)) (fun b ob q => Heap.get?_push_of_some _ q) (Nat.le_refl _) ?_, rfl, q _ (I5.hok.fresh (Nat.le_refl _))⟩
  exact ⟨Nat.le_trans (pickL_len xs i) hz, _, 0, pv, Heap.get?_push_size _ rfl⟩
theorem pk_int {r : R} {e : En} {i : Int} (h : pkR r e = some (.int i)) : r = .d (.int i) := by
  cases r with
  | d x => cases h; rfl
  | new o =>
    obtain ⟨hd, h⟩ := fzO_some h
    exact (toD_noint hd h).elim
  | slot j =>
    unfold pkR at h
    simp only at h
    split at h
    · cases h
    · cases h
    · rename_i b o _
      obtain ⟨hd, h⟩ := pkO_some h
      cases o with
      | nod k ts => cases hd
      | lst xs => unfold OD.toD at h; cases h
      | dic xs => unfold OD.toD at h; cases h
    · cases h
/-- the parts of a slice -/
theorem slc2_rd {K : PySem.W.Frag} {lo hi : Bool} {a l : Ex} {σ : Sg} {H : Hp} {Q : VK} (f : Int → D → Option PR) (hf : ∀ x y, prmF (.slc lo hi) [x, y] = match y with | .int i => f i x | _ => none)
    (h : rdE K c (.prm (.slc lo hi) (.cons a (.cons l .nil))) σ H Q) : rdE K c a σ H fun x H1 => rdE K c l σ H1 fun v H2 => ∃ i, v = .int i ∧ ∃ G d r, Same G H2 ∧ Rq K H2 G x d ∧ f i d = some r ∧ ∀ v H' G', Pst K H2 G v r H' G' → Q v H' := by
  refine rdE_mono (two_rd (prm_rd h)) fun x H1 q1 => rdE_mono q1 fun v H2 q2 => ?_
  obtain ⟨G, xs, r, sg, qs, e, k⟩ := q2
  cases qs with
  | cons qa qs =>
    cases qs with
    | cons qb qs =>
      cases qs
      rw [hf] at e
      split at e
      · exact ⟨_, qb.int, G, _, r, sg, qa, e, k⟩
      · cases e
theorem slc3_rd {K : PySem.W.Frag} {a l u : Ex} {σ : Sg} {H : Hp} {Q : VK} (h : rdE K c (.prm (.slc true true) (.cons a (.cons l (.cons u .nil)))) σ H Q) :
    rdE K c a σ H fun x H1 => rdE K c l σ H1 fun v H2 => ∃ i, v = .int i ∧ rdE K c u σ H2 fun w H3 => ∃ j, w = .int j ∧ rSlP K x (some i) (some j) H3 Q := by
  obtain ⟨C, e, G, r, e1, hK, rel, hv, k⟩ := h
  unfold ev at hv
  rw [Option.bind_eq_some_iff] at hv
  obtain ⟨⟨rs, e2⟩, h1, hv⟩ := hv
  simp only [Option.bind_eq_some_iff, Option.map_eq_some_iff] at hv
  obtain ⟨xs, h2, r', h3, q⟩ := hv
  cases q
  subst hK
  have hΦ : ∃ ra i j d, rs = [ra, .d (.int i), .d (.int j)] ∧ xs = [d, .int i, .int j] := by
    unfold prmF at h3
    split at h3 <;> try contradiction
    all_goals (rename_i hp; try cases hp)
    rename_i d i j
    cases rs with
    | nil => cases h2
    | cons ra rs =>
      unfold pks at h2
      simp only [Option.bind_eq_some_iff, Option.map_eq_some_iff] at h2
      obtain ⟨d', z1, ys, z2, z3⟩ := h2
      cases z3
      cases rs with
      | nil => cases z2
      | cons rb rs =>
        unfold pks at z2
        simp only [Option.bind_eq_some_iff, Option.map_eq_some_iff] at z2
        obtain ⟨d2, y1, ys, y2, y3⟩ := z2
        cases y3
        cases rs with
        | nil => cases y2
        | cons rc rs =>
          unfold pks at y2
          simp only [Option.bind_eq_some_iff, Option.map_eq_some_iff] at y2
          obtain ⟨d3, w1, ys, w2, w3⟩ := y2
          cases w3
          cases rs with
          | nil => exact ⟨ra, i, j, d, by rw [pk_int y1, pk_int w1], rfl⟩
          | cons rd rs =>
            unfold pks at w2
            simp only [Option.bind_eq_some_iff, Option.map_eq_some_iff] at w2
            obtain ⟨_, _, _, _, w⟩ := w2
            cases w
  obtain ⟨ra, i, j, d, hrs, hxs⟩ := hΦ
  have start : rdAP C.K c (.cons a (.cons l (.cons u .nil))) (fun rs' => rs' = [ra, .d (.int i), .d (.int j)]) σ H fun vs H1 => ∃ x, vs = [x, .int i, .int j] ∧ rSlP C.K x (some i) (some j) H1 Q := by
    refine ⟨C, e, G, rs, e1, rfl, rel, h1, hrs, fun vs H1 G1 rel1 g1 rr nd => ?_⟩
    obtain ⟨G3, g3, rel3, qs⟩ := rel1.pks rr nd h2
    subst hxs
    obtain ⟨x, v, w, rfl, q1, q2, q3⟩ := three_q qs
    obtain rfl := q2.int
    obtain rfl := q3.int
    refine ⟨x, rfl, G3, d, r', rel3.sub, q1, h3, fun v H2 G2 pst => ?_⟩
    obtain ⟨z1, z2⟩ := rel3.pst pst
    exact k v H2 G2 z1 ((g1.trans g3).trans pst.gs) z2
  obtain ⟨C1, e1', G1, r1, e2, q1, q2, q3, _, k1⟩ := rdAP_cons start
  refine ⟨C1, e1', G1, r1, e2, q1, q2, q3, fun v H1 G1' rel1 g1 rr1 => ?_⟩
  obtain ⟨C2, e2', G2, r2, e3, p1, p2, p3, ⟨rs2, p4⟩, k2⟩ := rdAP_cons (k1 v H1 G1' rel1 g1 rr1)
  refine ⟨C2, e2', G2, r2, e3, p1, p2, p3, fun v2 H2 G2' rel2 g2 rr2 => ?_⟩
  have er2 : r2 = .d (.int i) := by injection p4 with _ p4; injection p4
  subst er2
  cases (show Rp C2.K G2' v2 (.int i) from rr2)
  refine ⟨i, rfl, ?_⟩
  obtain ⟨C3, e3', G3, r3, e4, o1, o2, o3, ⟨rs3, o4⟩, k3⟩ := rdAP_cons (k2 _ H2 G2' rel2 g2 rr2)
  refine ⟨C3, e3', G3, r3, e4, o1, o2, o3, fun v3 H3 G3' rel3 g3 rr3 => ?_⟩
  have er3 : r3 = .d (.int j) := by injection o4 with _ o4; injection o4 with _ o4; injection o4
  subst er3
  cases (show Rp C3.K G3' v3 (.int j) from rr3)
  refine ⟨j, rfl, ?_⟩
  obtain ⟨C4, e4', G4, rs4, e5, m1, m2, m3, _, k4⟩ := k3 _ H3 G3' rel3 g3 rr3
  unfold evs at m3
  cases m3
  obtain ⟨x, ex, q⟩ := k4 [] H3 G4 m2 (Same.refl _) .nil (NewsD.nil _)
  cases ex
  exact q
theorem rgV_rp {K : PySem.W.Frag} {G : Hp} (a b : Int) : RpL K G (rgV a b) ((List.range (b - a).toNat).map fun k => .int (a + ((k : Nat) : Int))) := by
  unfold rgV
  generalize List.range (b - a).toNat = l
  induction l with
  | nil => exact .nil
  | cons i l ih => exact .cons (.int _) ih
theorem Pst.dic0 {K : PySem.W.Frag} {H G : Hp} {p : Addr} (s : Same G H) (n : H p = none) : Pst K H G (.ref p) (.new (.dic [])) (upd H p (.dK [])) G :=
  ⟨same_upd n, Same.refl _, s.trans (same_upd n), fun a o e => .inl e, ⟨p, .dK [], rfl, n, upd_same, Same.none s n, .nil⟩⟩
theorem dedup_met (ns : List Int) : PyProof.Rows.firstMet (fun i => ns.getD i 0) ns.length = dedupI ns := by
  have e : (List.range ns.length).map (fun i => ns.getD i 0) = ns := by
    refine List.ext_getElem? fun i => ?_
    rw [List.getElem?_map]
    by_cases h : i < ns.length
    · rw [List.getElem?_range h, List.getElem?_eq_getElem h]
      simp [h]
    · rw [List.getElem?_eq_none (by simp; omega), List.getElem?_eq_none (by omega)]
      rfl
  unfold PyProof.Rows.firstMet dedupI
  rw [e]
  rfl
theorem pe_lset {a : Expr} {ta : TE} {p p2 q pos : Pos} (hc : X.calm = true) (hg : Gl X "len") (hm : X.mg "len" = none) (hg2 : Gl X "set") (hm2 : X.mg "set" = none) (ha : PE X a ta)
    (na : starEach [a] X.env = (false, eval a X.env) :: starEach [] X.env) : PE X (.Call (.Name "len" p) [.Call (.Name "set" p2) [a] [] q] [] pos) (fun σ H Q => ta σ H fun v H1 => rP X.K (prmF .lset) [v] H1 Q) := by
  constructor
  intro pins s σ H Q I h
  refine Call_ (ld_blt I hg hm boot_len (PyProof.Rows.callWith_builtin1 (PyProof.Rows.args_cons (Call_ (ld_blt I hg2 hm2 boot_set (PyProof.Rows.callWith_type1 (PyProof.Rows.args_cons (thn (ha.run pins s σ H _ I h) ?_) na) na rfl))) rfl) rfl rfl))
  rintro v s1 ⟨x, H1, I1, r1, G, xs, r, sg, qs, e, k⟩
  refine PyProof.Rows.args_nil ?_
  cases xs with
  | nil => cases e
  | cons y ys =>
    cases ys with
    | cons _ _ => cases y <;> cases e
    | nil =>
      cases y with
      | list zs =>
        replace e : ((intsOf zs).bind fun ns => if ns.length + 1 < scanBound then some (PR.is (.int (dedupI ns).length)) else none) = some r := e
        rw [Option.bind_eq_some_iff] at e
        obtain ⟨ns, e1, e2⟩ := e
        split at e2
        · rename_i hb
          cases e2
          obtain ⟨w, ew, q⟩ := one_q qs
          cases ew
          obtain ⟨l, ws, rfl, h1, h2⟩ := q.list sg
          obtain rfl := h2.ints e1
          cases r1
          obtain ⟨its, r, pl, hz⟩ := I1.list (show SqL X.K H1 l _ from .inl h1)
          have hlen : its.toArray.size = ns.length := by rw [List.size_toArray, ← r.length, List.length_map]
          refine call_set_list (I1.ok.hd hc) pl.isList (by simpa using RZ.intsAre_vals r) (by rw [hlen]; exact hb) ?_
          intro h' tk hS hk
          refine PyProof.Rows.args_nil ?_
          rw [hlen, dedup_met] at hS
          obtain ⟨o, es, ep, t, ho, hex, hd, _, _, hsc, hf, hn⟩ := hS
          have hdl : (dedupI ns).length ≤ ns.length := by rw [← dedup_met]; exact PyProof.Rows.firstMet_length_le _ _
          have I2 : Inv X pins σ H1 { s1 with heap := h', toks := tk } := I1.kept fun b o e => hk b o (Heap.lt_size e) e
          refine call_len_set ho hex hd hf (by rw [hn]; unfold scanBound at hb; omega) ⟨.int ((dedupI ns).length : Int), H1, I2.tok _, ⟨_, by rw [hn]⟩, k _ _ _ (.of sg (.int _))⟩
        · cases e2
      | _ => cases e
theorem prm_ok (ok : XOk P n X sc) {p : Prm} {ts : Es} {x : Expr} {xs : List Expr} (h : argsP sc p x = some xs) (hp : PEs X c ts xs) : PE X x (rdE X.K c (.prm p ts)) := by
  unfold argsP at h
  split at h
  · -- bin
    split at h
    · rename_i e; subst e
      cases h
      obtain ⟨a, b, rfl, ha, pa, hb, pb⟩ := pe2 hp
      exact pe_imp (pe_op (op_binF _) ha hb) fun σ H Q q => rdE_mono (two_rd (prm_rd q)) fun _ _ q1 => rdE_mono q1 fun _ _ q2 => rP_two (fun _ _ => rfl) q2
    · cases h
  · -- cmp
    split at h
    · rename_i e; subst e
      cases h
      obtain ⟨a, b, rfl, ha, pa, hb, pb⟩ := pe2 hp
      exact pe_imp (pe_cmpR (op_cmpF _ (hu200 ok)) ha hb (pb.mark _)) fun σ H Q q => rdE_mono (two_rd (prm_rd q)) fun _ _ q1 => rdE_mono q1 fun _ _ q2 => rP_two (fun _ _ => rfl) q2
    · cases h
  · -- neg
    cases h
    obtain ⟨a, rfl, ha, pa⟩ := pe1 hp
    refine pe_imp (pe_un un_neg ha) fun σ H Q q => rdE_mono (one_rd (prm_rd q)) fun v H1 q1 => ?_
    obtain ⟨G, ys, r, sg, qs, e, k⟩ := q1
    unfold prmF at e
    split at e <;> try contradiction
    all_goals (rename_i hp' ; try cases hp')
    cases e
    obtain ⟨w, ew, q⟩ := one_q qs
    cases ew
    obtain rfl := q.int
    exact ⟨_, rfl, k _ _ _ (.of sg (.int _))⟩
  · -- [:]
    cases h
    obtain ⟨a, rfl, ha, pa⟩ := pe1 hp
    refine pe_imp (pe_slice sl_F ha po_none po_none) fun σ H Q q => rdE_mono (one_rd (prm_rd q)) fun v H1 q1 => ?_
    obtain ⟨G, ys, r, sg, qs, e, k⟩ := q1
    cases qs with | cons qa qs => cases qs; exact ⟨G, _, r, sg, qa, e, k⟩
  · cases h
    obtain ⟨a, b, rfl, ha, pa, hb, pb⟩ := pe2 hp
    exact pe_imp (pe_slice sl_F ha (po_some hb) po_none) fun σ H Q q => slc2_rd (fun i x => slcF x (some i) none) (fun x y => by cases y <;> rfl) q
  · cases h
    obtain ⟨a, b, rfl, ha, pa, hb, pb⟩ := pe2 hp
    exact pe_imp (pe_slice sl_F ha po_none (po_some hb)) fun σ H Q q => slc2_rd (fun i x => slcF x none (some i)) (fun x y => by cases y <;> rfl) q
  · cases h
    obtain ⟨a, b, d, rfl, ha, hb, hd⟩ := pe3 hp
    exact pe_imp (pe_slice sl_F ha (po_some hb) (po_some hd)) fun σ H Q q => slc3_rd q
  · -- rev
    cases h
    obtain ⟨a, rfl, ha, pa⟩ := pe1 hp
    refine pe_imp (pe_revL ha) fun σ H Q q => rdE_mono (one_rd (prm_rd q)) fun v H1 q1 => ?_
    obtain ⟨G, ys, r, sg, qs, e, k⟩ := q1
    unfold prmF at e
    split at e <;> try contradiction
    all_goals (rename_i hp' ; try cases hp')
    cases e
    obtain ⟨w, ew, q⟩ := one_q qs
    cases ew
    obtain ⟨a', vs, rfl, h1, h2⟩ := q.list sg
    exact ⟨a', vs, rfl, .inl h1, fun p np => k _ _ _ (.lst sg h2.reverse np)⟩
  · -- stp
    cases h
    obtain ⟨a, b, rfl, ha, pa, hb, pb⟩ := pe2 hp
    refine pe_imp (pe_stp ha hb) fun σ H Q q => rdE_mono (two_rd (prm_rd q)) fun v H1 q1 => rdE_mono q1 fun w H2 q2 => ?_
    obtain ⟨G, ys, r, sg, qs, e, k⟩ := q2
    unfold prmF at e
    split at e <;> try contradiction
    all_goals (rename_i hp' ; try cases hp')
    split at e
    · rename_i hk0
      cases e
      obtain ⟨v', w', ew, q1, q2⟩ := two_q qs
      cases ew
      obtain rfl := q2.int
      obtain ⟨a', vs, rfl, h1, h2⟩ := q1.list sg
      refine ⟨_, rfl, _, rfl, hk0, a', vs, rfl, h1, fun p np => k _ _ _ (.lst sg ?_ np)⟩
      unfold pickL
      rw [h2.length]
      exact h2.places _
    · cases e
  · -- idx
    cases h
    obtain ⟨a, b, rfl, ha, pa, hb, pb⟩ := pe2 hp
    exact pe_imp (pe_ix (ix_F (hu200 ok)) ha hb pb.ix) fun σ H Q q => rdE_mono (two_rd (prm_rd q)) fun _ _ q1 => rdE_mono q1 fun _ _ q2 => rP_two (fun _ _ => rfl) q2
  · -- isinstance
    split at h
    · rename_i T f pf y g pg pos hc
      cases h
      rw [Bool.and_eq_true, Bool.and_eq_true, Bool.and_eq_true, Bool.and_eq_true] at hc
      obtain ⟨⟨⟨⟨e1, e2⟩, g1⟩, g2⟩, hT⟩ := hc
      have e1 := of_decide_eq_true e1
      have e2 := of_decide_eq_true e2
      subst e1 e2
      obtain ⟨a, rfl, ha, pa⟩ := pe1 hp
      obtain ⟨i1, i2, i3⟩ := gl_of ok g1
      obtain ⟨j1, j2, j3⟩ := gl_of ok g2
      have hbT : bootBuiltins (Str.ofString T) = some (.type T) := by
        unfold isiT at hT
        simp only [Bool.or_eq_true, beq_iff_eq] at hT
        rcases hT with ((((h | h) | h) | h) | h) | h <;> subst h <;> decide +kernel
      have hmT : Str.ofString T ∈ bltNames := by
        unfold isiT at hT
        simp only [Bool.or_eq_true, beq_iff_eq] at hT
        rcases hT with ((((h | h) | h) | h) | h) | h <;> subst h <;> decide +kernel
      have hn : PE X (.Name (Str.ofString T) pg) (tC (.ty T)) := pe_bltn j1 (ok.blt _ hmT) hbT rfl j3 j2
      have hA : PA X [y, .Name (Str.ofString T) pg] (tCons (rdE X.K c a) (tCons (tC (.ty T)) tNil)) := pa_cons ha (pa_cons hn pa_nil) (pa.star _ _)
      refine pe_imp (pe_callB (cr_isi T) i1 (ok.blt _ (by decide +kernel)) (by decide +kernel) hA i3 i2 (pa.star _ _) rfl) fun σ H Q q => rdE_mono (one_rd (prm_rd q)) fun v H1 q1 => ?_
      obtain ⟨G, ys, r, sg, qs, e, k⟩ := q1
      cases qs with
      | cons qa qs =>
        cases qs
        exact ⟨v, .ty T, G, _, r, rfl, rfl, sg, qa, e, k⟩
    · cases h
  · -- built-ins
    split at h
    · rename_i b f pf y ys pos hc
      cases h
      rw [Bool.and_eq_true] at hc
      have e := of_decide_eq_true hc.1
      subst e
      have pl := hp.plain
      exact pe_imp (blt_call ok b hc.2 hp.pa (pl _ List.mem_cons_self) fun z hz => pl _ (List.mem_cons_of_mem _ hz)) fun σ H Q q => prm_rd q
    · cases h
  · -- len(set(x))
    split at h
    · rename_i f pf g pg y p2 pos hc
      cases h
      simp only [Bool.and_eq_true, decide_eq_true_eq] at hc
      obtain ⟨⟨⟨e1, e2⟩, g1⟩, g2⟩ := hc
      subst e1 e2
      obtain ⟨a, rfl, ha, pa⟩ := pe1 hp
      obtain ⟨i1, i2, i3⟩ := gl_of ok g1
      obtain ⟨j1, j2, j3⟩ := gl_of ok g2
      exact pe_imp (pe_lset ok.calm i1 (ok.blt _ (by decide +kernel)) j1 (ok.blt _ (by decide +kernel)) ha (pa.star _ _)) fun σ H Q q => rdE_mono (one_rd (prm_rd q)) fun v H1 q1 => q1
    · cases h
  · -- list(range(x))
    split at h
    · rename_i f pf g pg y p2 pos hc
      cases h
      simp only [Bool.and_eq_true, decide_eq_true_eq] at hc
      obtain ⟨⟨⟨e1, e2⟩, g1⟩, g2⟩ := hc
      subst e1 e2
      obtain ⟨a, rfl, ha, pa⟩ := pe1 hp
      obtain ⟨i1, i2, i3⟩ := gl_of ok g1
      obtain ⟨j1, j2, j3⟩ := gl_of ok g2
      refine pe_imp (pe_listRg ok.calm i1 (ok.blt _ (by decide +kernel)) (prg_1 j1 (ok.blt _ (by decide +kernel)) ha (pa.star _ _))) fun σ H Q q => rdE_mono (one_rd (prm_rd q)) fun v H1 q1 => ?_
      obtain ⟨G, ys, r, sg, qs, e, k⟩ := q1
      replace e : (rng1F ys).map (fun ys => PR.new (.lst ys)) = some r := e
      rw [Option.map_eq_some_iff] at e
      obtain ⟨zs, e, rfl⟩ := e
      unfold rng1F at e
      split at e
      · split at e
        · rename_i hb
          cases e
          obtain ⟨w, ew, q⟩ := one_q qs
          cases ew
          obtain rfl := q.int
          refine ⟨_, rfl, RgOk.of_le (Int.le_refl 0) hb.2 (by decide) hb.1, fun p np => k _ _ _ (.lst sg ?_ np)⟩
          have := rgV_rp (K := X.K) (G := G) 0 ‹Int›
          simpa using this
        · cases e
      · obtain ⟨_, _, ew, _⟩ := two_q qs
        cases ew
      · cases e
    · cases h
  · -- list(range(x, y))
    split at h
    · rename_i f pf g pg y z p2 pos hc
      cases h
      simp only [Bool.and_eq_true, decide_eq_true_eq] at hc
      obtain ⟨⟨⟨e1, e2⟩, g1⟩, g2⟩ := hc
      subst e1 e2
      obtain ⟨a, b, rfl, ha, pa, hb, pb⟩ := pe2 hp
      obtain ⟨i1, i2, i3⟩ := gl_of ok g1
      obtain ⟨j1, j2, j3⟩ := gl_of ok g2
      have st := star_back (env := X.env) (pos := p2) (xs := [z]) fun q hq => by rw [List.mem_singleton.mp hq]; exact pb
      refine pe_imp (pe_listRg ok.calm i1 (ok.blt _ (by decide +kernel)) (prg_2 j1 (ok.blt _ (by decide +kernel)) ha hb (pa.star _ _) (pb.star _ _) st)) fun σ H Q q => rdE_mono (two_rd (prm_rd q)) fun v H1 q1 => rdE_mono q1 fun w H2 q2 => ?_
      obtain ⟨G, ys, r, sg, qs, e, k⟩ := q2
      replace e : (rng1F ys).map (fun ys => PR.new (.lst ys)) = some r := e
      rw [Option.map_eq_some_iff] at e
      obtain ⟨zs, e, rfl⟩ := e
      unfold rng1F at e
      split at e
      · obtain ⟨_, ew, _⟩ := one_q qs
        cases ew
      · split at e
        · rename_i hb
          cases e
          obtain ⟨w1, w2, ew, q, q'⟩ := two_q qs
          cases ew
          obtain rfl := q.int
          obtain rfl := q'.int
          exact ⟨_, _, rfl, rfl, RgOk.of_le hb.1 hb.2.2.2 hb.2.1 hb.2.2.1, fun p np => k _ _ _ (.lst sg (rgV_rp _ _) np)⟩
        · cases e
      · cases e
    · cases h
  · -- {}
    cases h
    cases hp
    refine pe_imp pe_dnewK fun σ H Q q => rdA_nil (c := c) (K := X.K) (σ := σ) (Q := fun vs H1 => ∀ p, H1 p = none → Q (.ref p) (upd H1 p (.dK []))) ?_
    obtain ⟨C, e, G, rs, e1, h1, h2, h3, k⟩ := prm_rd q
    refine ⟨C, e, G, rs, e1, h1, h2, h3, fun vs H' G' rel g rr nd p np => ?_⟩
    obtain ⟨G2, ys, r, sg, qs, ef, k2⟩ := k vs H' G' rel g rr nd
    cases ys with
    | nil =>
      cases ef
      exact k2 _ _ _ (.dic0 sg np)
    | cons _ _ => cases ef
  · cases h
end
end PL

/-! PL9: the forms of expressions, one by one. -/
namespace PL
open PySem PySem.Spec
open PyProof.Rows L2
section
variable {P : Pg} {n : Nat} {X : Cx} {sc : Nms} {c : Cf}
theorem vis_of (ok : XOk P n X sc) {y : Str} (h : visK (sc.lookup y) = true) : Vis X.env.scope y := by
  cases q : sc.lookup y with
  | none => rw [q] at h; cases h
  | some k =>
    rw [q] at h
    cases k with
    | «local» => exact .inl (ok.loc y q)
    | cell => exact .inr (.inl (ok.cell y q).1)
    | free => exact .inr (ok.free y q)
    | _ => cases h
theorem var_pe (ok : XOk P n X sc) {i : Nat} {y : Str} {pos : Pos} (hN : X.N[i]? = some y) (hv : visK (sc.lookup y) = true) (hd : (y == ("__debug__" : Str)) = false) (hcd : (y == ("__classdict__" : Str)) = false) : PE X (.Name y pos) (tVar i) :=
  pe_var hN (vis_of ok hv) hd hcd
theorem ev_var (ok : XOk P n X sc) {i : Nat} {x : Expr} (h : chkE P X.N sc (.var i) x = true) : PE X x (rdE X.K c (.var i)) := by
  unfold chkE at h
  split at h
  · rename_i y pos
    simp only [Bool.and_eq_true, Bool.not_eq_true', decide_eq_true_eq] at h
    obtain ⟨⟨⟨h1, h2⟩, h3⟩, h4⟩ := h
    refine pe_imp (var_pe ok h1 h2 h3 h4) fun σ H Q q => ?_
    obtain ⟨C, e, G, r, e1, hK, rel, hv, k⟩ := q
    unfold ev at hv
    split at hv
    · rename_i d he
      cases hv
      obtain ⟨v, q1, q2⟩ := rel.dat i d he
      exact ⟨v, q1, k v H G rel (Same.refl _) q2⟩
    · rename_i b o he
      cases hv
      obtain ⟨a, q1, _⟩ := rel.own i b o he
      exact ⟨.ref a, q1, k _ H G rel (Same.refl _) q1⟩
    · cases hv
  · cases h
theorem ev_cst {d : D} {x : Expr} (h : chkE P X.N sc (.cst d) x = true) : PE X x (rdE X.K c (.cst d)) := by
  unfold chkE at h
  split at h
  · rename_i k j pos
    have key : ∀ {v : V}, PE X (.Constant k j pos) (tC v) → (∀ K G, Rp K G v d) → PE X (.Constant k j pos) (rdE X.K c (.cst d)) := fun hp hr => pe_imp hp fun σ H Q q => by
      obtain ⟨C, e, G, r, e1, hK, rel, hv, k⟩ := q
      unfold ev at hv
      cases hv
      exact k _ H G rel (Same.refl _) (hr _ _)
    unfold cstOk at h
    split at h
    · exact key pe_non fun _ _ => .non
    · have e := eq_of_beq h; subst e
      exact key pe_bl fun _ _ => .bl _
    · have e := eq_of_beq h; subst e
      exact key pe_int fun _ _ => .int _
    · have e := of_decide_eq_true h; subst e
      exact key pe_str fun _ _ => .str _
    · cases h
  · cases h
theorem ev_glb (ok : XOk P n X sc) (hc : c.glb = P.glb) {g : Str} {x : Expr} (h : chkE P X.N sc (.glb g) x = true) : PE X x (rdE X.K c (.glb g)) := by
  unfold chkE at h
  split at h
  · rename_i y pos
    rw [Bool.and_eq_true, Bool.and_eq_true, decide_eq_true_eq] at h
    obtain ⟨⟨h1, h2⟩, h3⟩ := h
    subst h1
    obtain ⟨g1, g2, g3⟩ := gl_of ok h3
    obtain ⟨d, h2⟩ := Option.isSome_iff_exists.mp h2
    obtain ⟨u, v, q1, q2, q3⟩ := ok.glbs _ d h2
    refine pe_imp (pe_glob g1 q1 q2 g2) fun σ H Q q => ?_
    obtain ⟨C, e, G, r, e1, hK, rel, hv, k⟩ := q
    unfold ev at hv
    rw [hc, h2] at hv
    cases hv
    exact k _ H G rel (Same.refl _) (by show Rp C.K G v d; rw [hK]; exact q3 G)
  · cases h
theorem ev_and {a b : Ex} {x y : Expr} {r : List Expr} {pos : Pos} (ha : PE X x (rdE X.K c a)) (hb : PE X (.BoolOp .And (y :: r) pos) (rdE X.K c b)) : PE X (.BoolOp .And (x :: y :: r) pos) (rdE X.K c (.and a b)) := by
  refine pe_imp (pe_and ha hb) fun σ H Q q => ?_
  obtain ⟨C, e, G, r, e1, hK, rel, hv, k⟩ := q
  unfold ev at hv
  rw [Option.bind_eq_some_iff] at hv
  obtain ⟨⟨r1, e2⟩, h1, hv⟩ := hv
  refine ⟨C, e, G, r1, e2, hK, rel, h1, fun v H1 G1 rel1 g1 rr1 => ?_⟩
  simp only at hv
  split at hv
  · cases (show Rp C.K G1 v (.bool true) from rr1)
    exact ⟨true, rfl, iteT ⟨C, e2, G1, r, e1, hK, rel1, hv, fun v H' G' z1 z2 z3 => k v H' G' z1 (g1.trans z2) z3⟩⟩
  · cases hv
    cases (show Rp C.K G1 v (.bool false) from rr1)
    exact ⟨false, rfl, iteF (k _ H1 G1 rel1 g1 (.bl false))⟩
  · cases hv
theorem ev_or {a b : Ex} {x y : Expr} {r : List Expr} {pos : Pos} (ha : PE X x (rdE X.K c a)) (hb : PE X (.BoolOp .Or (y :: r) pos) (rdE X.K c b)) : PE X (.BoolOp .Or (x :: y :: r) pos) (rdE X.K c (.or a b)) := by
  refine pe_imp (pe_or ha hb) fun σ H Q q => ?_
  obtain ⟨C, e, G, r, e1, hK, rel, hv, k⟩ := q
  unfold ev at hv
  rw [Option.bind_eq_some_iff] at hv
  obtain ⟨⟨r1, e2⟩, h1, hv⟩ := hv
  refine ⟨C, e, G, r1, e2, hK, rel, h1, fun v H1 G1 rel1 g1 rr1 => ?_⟩
  simp only at hv
  split at hv
  · cases (show Rp C.K G1 v (.bool false) from rr1)
    exact ⟨false, rfl, iteF ⟨C, e2, G1, r, e1, hK, rel1, hv, fun v H' G' z1 z2 z3 => k v H' G' z1 (g1.trans z2) z3⟩⟩
  · cases hv
    cases (show Rp C.K G1 v (.bool true) from rr1)
    exact ⟨true, rfl, iteT (k _ H1 G1 rel1 g1 (.bl true))⟩
  · cases hv
theorem ev_not {a : Ex} {x : Expr} {pos : Pos} (ha : PE X x (rdE X.K c a)) : PE X (.UnaryOp .Not x pos) (rdE X.K c (.not a)) := by
  refine pe_imp (pe_not ha) fun σ H Q q => ?_
  obtain ⟨C, e, G, r, e1, hK, rel, hv, k⟩ := q
  unfold ev at hv
  rw [Option.bind_eq_some_iff] at hv
  obtain ⟨⟨r1, e2⟩, h1, hv⟩ := hv
  refine ⟨C, e, G, r1, e2, hK, rel, h1, fun v H1 G1 rel1 g1 rr1 => ?_⟩
  simp only at hv
  split at hv
  · cases hv
    rename_i z
    cases (show Rp C.K G1 v (.bool z) from rr1)
    exact ⟨z, rfl, k _ H1 G1 rel1 g1 (.bl _)⟩
  · cases hv
theorem ev_ite {t a b : Ex} {x y z : Expr} {pos : Pos} (ht : PT X x (rdT X.K c t)) (ha : PE X y (rdE X.K c a)) (hb : PE X z (rdE X.K c b)) : PE X (.IfExp x y z pos) (rdE X.K c (.ite t a b)) := by
  refine pe_imp (pe_ifExp ht ha hb) fun σ H Q q => ?_
  obtain ⟨C, e, G, r, e1, hK, rel, hv, k⟩ := q
  unfold ev at hv
  rw [Option.bind_eq_some_iff] at hv
  obtain ⟨⟨d, e2⟩, h1, hv⟩ := hv
  refine ⟨C, e, G, d, e2, hK, rel, h1, fun H1 G1 rel1 g1 => ?_⟩
  cases d with
  | true => exact iteT ⟨C, e2, G1, r, e1, hK, rel1, hv, fun v H' G' z1 z2 z3 => k v H' G' z1 (g1.trans z2) z3⟩
  | false => exact iteF ⟨C, e2, G1, r, e1, hK, rel1, hv, fun v H' G' z1 z2 z3 => k v H' G' z1 (g1.trans z2) z3⟩
theorem cmp2_rd {K : PySem.W.Frag} {op op' : CmpOp} {a b d : Ex} {σ : Sg} {H : Hp} {Q : VK} (q : rdE K c (.cmp2 op op' a b d) σ H Q) :
    tChain (r2P K fun x y => (cmpF op x y).map fun b => .is (.bool b)) (r2P K fun x y => (cmpF op' x y).map fun b => .is (.bool b)) (rdE K c a) (rdE K c b) (rdE K c d) σ H Q := by
  obtain ⟨C, e, G, r, e1, hK, rel, hv, k⟩ := q
  subst hK
  unfold ev at hv
  rw [Option.bind_eq_some_iff] at hv
  obtain ⟨⟨r1, e2⟩, h3, hv⟩ := hv
  rw [Option.bind_eq_some_iff] at hv
  obtain ⟨⟨r2, e3⟩, h4, hv⟩ := hv
  refine ⟨C, e, G, r1, e2, rfl, rel, h3, fun v H1 G1 rel1 g1 rr1 => ⟨C, e2, G1, r2, e3, rfl, rel1, h4, fun w H2 G2 rel2 g2 rr2 => ?_⟩⟩
  simp only at hv
  split at hv
  · rename_i d1 d2
    rw [Option.bind_eq_some_iff] at hv
    obtain ⟨b1, h5, hv⟩ := hv
    have p1 : Rp C.K G2 v d1 := Rp.mono g2 rr1
    refine ⟨G2, d1, d2, .is (.bool b1), rel2.sub, .fz p1, .fz rr2, by show Option.map _ (cmpF op d1 d2) = _; rw [h5]; rfl, fun v3 H3 G3 pst => ?_⟩
    obtain ⟨rel3, rr3⟩ := rel2.pst pst
    cases (show Rp C.K G3 v3 (.bool b1) from rr3)
    refine ⟨b1, rfl, ?_⟩
    cases b1 with
    | false =>
      cases hv
      exact iteF (k _ H3 G3 rel3 ((g1.trans g2).trans pst.gs) (.bl _))
    | true =>
      simp only [Option.bind_eq_some_iff] at hv
      obtain ⟨⟨r3, e4⟩, h6, hv⟩ := hv
      refine iteT ⟨C, e3, G3, r3, e4, rfl, rel3, h6, fun v4 H4 G4 rel4 g4 rr4 => ?_⟩
      simp only at hv
      split at hv
      · rename_i d3
        rw [Option.map_eq_some_iff] at hv
        obtain ⟨b2, h7, q⟩ := hv
        cases q
        have p2 : Rp C.K G4 w d2 := Rp.mono (pst.gs.trans g4) rr2
        refine ⟨G4, d2, d3, .is (.bool b2), rel4.sub, .fz p2, .fz rr4, by show Option.map _ (cmpF op' d2 d3) = _; rw [h7]; rfl, fun v5 H5 G5 pst5 => ?_⟩
        obtain ⟨rel5, rr5⟩ := rel4.pst pst5
        exact k _ H5 G5 rel5 ((((g1.trans g2).trans pst.gs).trans g4).trans pst5.gs) rr5
      · cases hv
  · cases hv
theorem ev_cmp2 (ok : XOk P n X sc) {op op' : CmpOp} {a b d : Ex} {x y z : Expr} {pos : Pos} (h1 : op' ≠ .In) (h2 : op' ≠ .NotIn) (ha : PE X x (rdE X.K c a)) (hb : PE X y (rdE X.K c b)) (hd : PE X z (rdE X.K c d)) :
    PE X (.Compare x [op, op'] [y, z] pos) (rdE X.K c (.cmp2 op op' a b d)) :=
  pe_imp (pe_chain (op_cmpF op (hu200 ok)) (op_cmpF op' (hu200 ok)) ha hb hd (by show behindInMarks op' z = false; exact nobehind z h1 h2)) fun σ H Q q => cmp2_rd q
theorem tup_rd {K : PySem.W.Frag} {ts : Es} {σ : Sg} {H : Hp} {Q : VK} (q : rdE K c (.tup ts) σ H Q) : tTup (rdA K c ts) σ H Q := by
  obtain ⟨C, e, G, r, e1, hK, rel, hv, k⟩ := q
  subst hK
  unfold ev at hv
  rw [Option.bind_eq_some_iff] at hv
  obtain ⟨⟨rs, e2⟩, h1, hv⟩ := hv
  rw [Option.bind_eq_some_iff] at hv
  obtain ⟨⟨ds, e3⟩, h2, hv⟩ := hv
  refine ⟨C, e, G, rs, e2, rfl, rel, h1, fun vs H1 G1 rel1 g1 rr nd => ?_⟩
  obtain ⟨G2, g2, rel2, rl⟩ := rel1.fzs rr nd h2
  simp only at hv
  split at hv
  · rename_i hl
    cases hv
    refine ⟨by rw [rl.length]; exact hl, fun p np => ?_⟩
    have pst := Pst.tup rel2.sub rl np
    obtain ⟨rel3, rr3⟩ := rel2.pst pst
    exact k _ _ _ rel3 ((g1.trans g2).trans pst.gs) rr3
  · cases hv
theorem lst_rd {K : PySem.W.Frag} {ts : Es} {σ : Sg} {H : Hp} {Q : VK} (q : rdE K c (.lst ts) σ H Q) : tLst (rdA K c ts) σ H Q := by
  obtain ⟨C, e, G, r, e1, hK, rel, hv, k⟩ := q
  subst hK
  unfold ev at hv
  rw [Option.bind_eq_some_iff] at hv
  obtain ⟨⟨rs, e2⟩, h1, hv⟩ := hv
  rw [Option.bind_eq_some_iff] at hv
  obtain ⟨⟨ds, e3⟩, h2, hv⟩ := hv
  refine ⟨C, e, G, rs, e2, rfl, rel, h1, fun vs H1 G1 rel1 g1 rr nd => ?_⟩
  obtain ⟨G2, g2, rel2, rl⟩ := rel1.fzs rr nd h2
  simp only at hv
  split at hv
  · rename_i hl
    cases hv
    refine ⟨by rw [rl.length]; exact hl, fun p np => ?_⟩
    have pst := Pst.lst rel2.sub rl np
    obtain ⟨rel3, rr3⟩ := rel2.pst pst
    exact k _ _ _ rel3 ((g1.trans g2).trans pst.gs) rr3
  · cases hv
theorem call_rd {K : PySem.W.Frag} (hc : c = ⟨run P n, P.io, P.glb⟩) {f : Str} {fn : Fn} (hf : P.fn? f = some fn) {ts : Es} {σ : Sg} {H : Hp} {Q : VK} (q : rdE K c (.call f ts) σ H Q) : rdA K c ts σ H fun vs H1 => spF K P n f (vs ++ []) H1 Q E0 := by
  obtain ⟨C, e, G, r, e1, hK, rel, hv, k⟩ := q
  subst hK
  unfold ev at hv
  rw [Option.bind_eq_some_iff] at hv
  obtain ⟨⟨rs, e2⟩, h1, hv⟩ := hv
  refine ⟨C, e, G, rs, e2, rfl, rel, h1, fun vs H1 G1 rel1 g1 rr nd => ?_⟩
  show spF C.K P n f (vs ++ []) H1 Q E0
  rw [List.append_nil]
  have eio : c.io f = fn.io := by subst hc; show P.io f = fn.io; unfold Pg.io; rw [hf]
  simp only at hv
  rw [eio] at hv
  exact call_ok (by subst hc; rfl) hf rel1 rr nd hv fun v H' G' z1 z2 z3 => k v H' G' z1 (g1.trans z2) z3
theorem ev_tup {ts : Es} {xs : List Expr} {j : Nat} {pos : Pos} (h : PEs X c ts xs) : PE X (.Tuple xs j pos) (rdE X.K c (.tup ts)) := pe_imp (pe_tup h.pa) fun σ H Q q => tup_rd q
theorem ev_lst {ts : Es} {xs : List Expr} {pos : Pos} (h : PEs X c ts xs) : PE X (.List xs pos) (rdE X.K c (.lst ts)) := pe_imp (pe_lst h.pa) fun σ H Q q => lst_rd q
theorem fn?_name {P : Pg} {f : Str} {fn : Fn} (h : P.fn? f = some fn) : fn.name = f := by
  unfold Pg.fn? at h
  have := List.find?_some h
  exact of_decide_eq_true this
theorem ev_call (ok : XOk P n X sc) (hc : c = ⟨run P n, P.io, P.glb⟩) {f : Str} {ts : Es} {xs : List Expr} {p pos : Pos} (hn : (P.fn? f).isSome = true) (hg : glK sc f = true) (h : PEs X c ts xs) : PE X (.Call (.Name f p) xs [] pos) (rdE X.K c (.call f ts)) := by
  obtain ⟨fn, hf⟩ := Option.isSome_iff_exists.mp hn
  obtain ⟨fa, fd, ps, F, hm, hk, hb⟩ := ok.fns f fn hf
  rw [fn?_name hf] at hm
  obtain ⟨g1, g2, g3⟩ := gl_of ok hg
  cases h with
  | nil => exact pe_imp (pe_callG0 F ok.gd ok.room g1 hm hk hb .nil pass0 g2) fun σ H Q q => rdA_nil (call_rd hc hf q)
  | cons h p r => exact pe_imp (pe_callG F ok.gd ok.room g1 hm hk hb .nil pass0 (PEs.cons h p r).pa g2 (p.star _ _) (star_back r.plain)) fun σ H Q q => call_rd hc hf q
/-- an owned leaf is rewritten -/
theorem Rel.setOwn {C : Co} {σ : Sg} {H G : Hp} {e : En} (h : Rel C σ H e G) {i : Nat} {b : Bool} {o o' : OD} {a : Addr} {u' : HO} (he : e[i]? = some (some (.own b o))) (hs : σ[i]? = some (some (.ref a))) (hl : o.leaf = true) (ho : ObR C.K G u' o') : Rel C σ (upd H a u') (e.set i (some (.own b o'))) G := by
  obtain ⟨d, h1, h2, h3, h4, h5⟩ := h.own i b o he
  rw [hs] at h1; cases h1
  have f0 : foot H o a = [a] := foot_leaf hl
  have f1 : foot (upd H a u') o' a = [a] := foot_leaf ho.leaf
  have ma : a ∈ foot H o a := root_mem H o a
  have other : ∀ (j : Nat) b2 o2 c, j ≠ i → e[j]? = some (some (.own b2 o2)) → σ[j]? = some (some (.ref c)) → a ∉ foot H o2 c := fun j b2 o2 c hj q1 q2 hm => hj (h.sep j i c a _ _ _ _ a q1 he q2 hs hm ma)
  have loc : ∀ (j : Nat) b2 o2 c, j ≠ i → e[j]? = some (some (.own b2 o2)) → σ[j]? = some (some (.ref c)) → ∀ q ∈ foot H o2 c, upd H a u' q = H q := fun j b2 o2 c hj q1 q2 q hq => upd_ne fun z => other j b2 o2 c hj q1 q2 (z ▸ hq)
  have fe : ∀ (j : Nat) b2 o2 c x, (e.set i (some (.own b o')))[j]? = some (some (.own b2 o2)) → σ[j]? = some (some (.ref c)) → x ∈ foot (upd H a u') o2 c → ∃ b3 o3, e[j]? = some (some (.own b3 o3)) ∧ x ∈ foot H o3 c := fun j b2 o2 c x q1 q2 hx => by
    rcases get_set_cases q1 with ⟨rfl, z⟩ | ⟨hj, z⟩
    · cases z
      rw [hs] at q2; cases q2
      rw [f1] at hx
      exact ⟨b, o, he, by rw [f0]; exact hx⟩
    · rw [foot_loc o2 c (loc j b2 o2 c (Ne.symm hj) z q2)] at hx
      exact ⟨b2, o2, z, hx⟩
  have fr := h4 a ma
  refine { gold := h.gold, rok := h.rok, gnew := h.gnew, len := by rw [List.length_set]; exact h.len, bok := h.bok
           sub := fun c w q => ?_, old := fun c w q hi => ?_, dom := fun c q => ?_, dat := fun j x q => ?_, own := fun j b' o2 q => ?_, sep := fun j k c c' b1 b2 o1 o2 x q1 q2 q3 q4 q5 q6 => ?_, bor := fun j o2 q => ?_, iok := fun j c q => ?_ }
  · have hc : c ≠ a := fun z => by rw [z, fr.1] at q; cases q
    rw [upd_ne hc]; exact h.sub c w q
  · have hc : c ≠ a := fun z => by
      subst z
      rcases fr.2 with w | w
      · rw [w] at q; cases q
      · exact hi ⟨_, w.2⟩
    rw [upd_ne hc]; exact h.old c w q hi
  · by_cases hc : c = a
    · subst hc; rw [upd_same]; exact fun z => nomatch z
    · rw [upd_ne hc]; exact h.dom c q
  · rcases get_set_cases q with ⟨_, z⟩ | ⟨_, z⟩
    · cases z
    · exact h.dat j x z
  · rcases get_set_cases q with ⟨rfl, z⟩ | ⟨hj, z⟩
    · cases z
      refine ⟨a, hs, ho.std upd_same, by rw [f1]; exact List.nodup_cons.mpr ⟨List.not_mem_nil, List.nodup_nil⟩, fun x hx => ?_, h5⟩
      rw [f1] at hx
      rw [List.mem_singleton.mp hx]
      exact fr
    · obtain ⟨c, q1, q2, q3, q4, q5⟩ := h.own j b' o2 z
      have l := loc j b' o2 c (Ne.symm hj) z q1
      have fo := foot_loc o2 c l
      exact ⟨c, q1, q2.loc l, by rw [fo]; exact q3, by rw [fo]; exact q4, q5⟩
  · obtain ⟨_, _, y1, y2⟩ := fe j b1 o1 c x q1 q3 q5
    obtain ⟨_, _, y3, y4⟩ := fe k b2 o2 c' x q2 q4 q6
    exact h.sep j k c c' _ _ _ _ x y1 y3 q3 q4 y2 y4
  · rcases get_set_cases q with ⟨_, z⟩ | ⟨_, z⟩
    · cases z
    · exact h.bor j o2 z
  · obtain ⟨⟨o2, z1⟩, z2⟩ := h.iok j c q
    refine ⟨?_, z2⟩
    by_cases hj : i = j
    · subst hj
      rw [he] at z1; cases z1
      exact ⟨o', get_set_self he⟩
    · exact ⟨o2, by rw [List.getElem?_set_ne hj]; exact z1⟩
/-- a method that changes its object, by values -/
def rMut (K : PySem.W.Frag) (m : Mut) : V → List V → Hp → VK → Prop := fun x vs H Q => ∃ a u o G xs y o', x = .ref a ∧ H a = some u ∧ Same G H ∧ ObR K G u o ∧ RpL K G vs xs ∧ mutF m o xs = some (y, o') ∧ ∀ v u', Rp K G v y → ObR K G u' o' → Q v (upd H a u')
theorem mt_mut_append : MtM X "list.append" (rMut X.K .append) := by
  intro pins s σ H x vs v us Q I rx rv h
  obtain ⟨a, u, o, G, xs, y, o', rfl, hu, sg, ho, hx, e, k⟩ := h
  unfold mutF at e
  split at e <;> try contradiction
  split at e
  · rename_i hl
    cases e
    obtain ⟨ws, rfl, rw'⟩ := ho.lst
    cases hx with
    | cons h1 hx =>
      cases hx
      exact mt_append pins s σ H _ _ v us Q I rx rv ⟨a, ws, _, rfl, rfl, hu, by rw [rw'.length]; exact hl, k _ _ .non (rw'.append (.cons h1 .nil))⟩
  · cases e
theorem mt_mut_extend : MtM X "list.extend" (rMut X.K .extend) := by
  intro pins s σ H x vs v us Q I rx rv h
  obtain ⟨a, u, o, G, xs, y, o', rfl, hu, sg, ho, hx, e, k⟩ := h
  unfold mutF at e
  split at e <;> try contradiction
  split at e
  · rename_i hl
    cases e
    obtain ⟨ws, rfl, rw'⟩ := ho.lst
    cases hx with
    | cons h1 hx =>
      cases hx
      cases h1 with
      | lst h2 h3 =>
        exact mt_extR pins s σ H _ _ v us Q I rx rv ⟨a, _, ws, _, rfl, rfl, hu, Same.rd sg h2, by rw [rw'.length, h3.length]; exact hl, k _ _ .non (rw'.append h3)⟩
  · cases e
theorem mt_mut_pop : MtM X "list.pop" (rMut X.K .pop) := by
  intro pins s σ H x vs v us Q I rx rv h
  obtain ⟨a, u, o, G, xs, y, o', rfl, hu, sg, ho, hx, e, k⟩ := h
  unfold mutF at e
  split at e <;> try contradiction
  rw [Option.map_eq_some_iff] at e
  obtain ⟨z, e, q⟩ := e
  cases q
  obtain ⟨ws, rfl, rw'⟩ := ho.lst
  cases hx
  obtain ⟨w, h1, h2⟩ := rw'.get e
  rw [← rw'.length] at h1
  exact mt_pop pins s σ H _ _ v us Q I rx rv ⟨a, ws, w, rfl, rfl, hu, h1, k _ _ h2 rw'.dropLast⟩
theorem mt_mut_popAt : MtM X "list.pop" (rMut X.K .popAt) := by
  intro pins s σ H x vs v us Q I rx rv h
  obtain ⟨a, u, o, G, xs, y, o', rfl, hu, sg, ho, hx, e, k⟩ := h
  unfold mutF at e
  split at e <;> try contradiction
  split at e
  · rename_i hb
    rw [Option.bind_eq_some_iff] at e
    obtain ⟨j, hj, e⟩ := e
    rw [Option.map_eq_some_iff] at e
    obtain ⟨z, e, q⟩ := e
    cases q
    obtain ⟨ws, rfl, rw'⟩ := ho.lst
    cases hx with
    | cons h1 hx =>
      cases hx
      cases h1
      obtain ⟨w, h1, h2⟩ := rw'.get e
      exact mt_popAt pins s σ H _ _ v us Q I rx rv ⟨a, ws, _, j, w, rfl, rfl, hu, hb.1, hb.2, by rw [rw'.length]; exact hj, h1, k _ _ h2 (rw'.eraseIdx j)⟩
  · cases e
theorem mut_rd {K : PySem.W.Frag} {m : Mut} {i : Nat} {ts : Es} {σ : Sg} {H : Hp} {Q : VK} (q : rdE K c (.mut m i ts) σ H Q) :
    ∃ v, σ[i]? = some (some v) ∧ tyV K "list" v H ∧ rdA K c ts σ H fun vs H1 => rMut K m v vs H1 Q := by
  obtain ⟨C, e, G, r, e1, hK, rel, hv, k⟩ := q
  subst hK
  unfold ev at hv
  split at hv
  · cases hv
  · rename_i hown
    rw [Option.bind_eq_some_iff] at hv
    obtain ⟨⟨rs, e2⟩, h1, hv⟩ := hv
    rw [Option.bind_eq_some_iff] at hv
    obtain ⟨⟨ds, e3⟩, h2, hv⟩ := hv
    unfold isOwn at hown
    split at hown
    · rename_i b0 o0 he0
      obtain ⟨a, z1, z23, _⟩ := rel.own i b0 o0 he0
      have hl : ∃ ys, o0 = .lst ys := by
        cases o0 with
        | lst ys => exact ⟨ys, rfl⟩
        | dic ys => cases m <;> cases hown
        | nod k ts => cases m <;> cases hown
      obtain ⟨ys, rfl⟩ := hl
      obtain ⟨⟨u, z2, z3⟩, _⟩ := z23.leaf rfl
      obtain ⟨ws, rfl, _⟩ := z3.lst
      refine ⟨.ref a, z1, .inl ⟨rfl, ws, .inl (.inl z2)⟩, C, e, G, rs, e2, rfl, rel, h1, fun vs H1 G1 rel1 g1 rr nd => ?_⟩
      obtain ⟨G2, g2, rel2, rl⟩ := rel1.fzs rr nd h2
      simp only at hv
      split at hv
      · rename_i b1 o1 he1
        rw [Option.map_eq_some_iff] at hv
        obtain ⟨⟨x1, o2⟩, h3, q⟩ := hv
        cases q
        obtain ⟨a', y1, y23, y4, y5, y6⟩ := rel2.own i b1 o1 he1
        rw [z1] at y1; cases y1
        have hl1 : o1.leaf = true := by cases o1 with
          | nod k ts => cases m <;> cases h3
          | _ => rfl
        obtain ⟨⟨u', y2, y3⟩, _⟩ := y23.leaf hl1
        exact ⟨a, u', o1, G2, ds, x1, o2, rfl, y2, rel2.sub, y3, rl, h3, fun v u2 hv2 hu2 => k v _ G2 (rel2.setOwn he1 z1 hl1 hu2) (g1.trans g2) hv2⟩
      · cases hv
    · cases hown
theorem mut_call {m : Mut} {x : Expr} {xs : List Expr} {o : Expr} {to : TE} {t : TA} {apos cpos : Pos} (ho : PE X o to) (ha : PA X (x :: xs) t) (hb : attributeBase o m.nm X.env (eval o X.env) = eval o X.env) (hl : (apos.endLine == cpos.line) = true)
    (hf : ((backTo cpos (starEach (x :: xs) X.env)).all (fun x => !x.1) && (backToKw cpos (keywordEach [] X.env)).all (fun x => x.1.isSome) && decide ((x :: xs).length + ([] : List Keyword).length + (if ([] : List Keyword).isEmpty then 0 else 1) < 30)) = true)
    (hs : starEach (x :: xs) X.env = (false, eval x X.env) :: starEach xs X.env) (hp : (backTo cpos (starEach xs X.env)).any (·.1) = false) :
    PE X (.Call (.Attribute o m.nm apos) (x :: xs) [] cpos) (tBM X.K "list" (rMut X.K m) to t) := by
  cases m with
  | append => exact pe_bm PySem.F.plainAttrs_list PySem.F.slot_list_append PySem.F.type_list_append mt_mut_append ho ha hb hf hl hs hp
  | extend => exact pe_bm PySem.F.plainAttrs_list PySem.F.slot_list_extend PySem.F.type_list_extend mt_mut_extend ho ha hb hf hl hs hp
  | pop => exact pe_bm PySem.F.plainAttrs_list PySem.F.slot_list_pop PySem.F.type_list_pop mt_mut_pop ho ha hb hf hl hs hp
  | popAt => exact pe_bm PySem.F.plainAttrs_list PySem.F.slot_list_pop PySem.F.type_list_pop mt_mut_popAt ho ha hb hf hl hs hp
theorem mut_call0 {m : Mut} {o : Expr} {to : TE} {apos cpos : Pos} (ho : PE X o to) (hb : attributeBase o m.nm X.env (eval o X.env) = eval o X.env) (hl : (apos.endLine == cpos.line) = true) :
    PE X (.Call (.Attribute o m.nm apos) [] [] cpos) (tBM0 X.K "list" (rMut X.K m) to) := by
  cases m with
  | append => exact pe_bm0 PySem.F.plainAttrs_list PySem.F.slot_list_append PySem.F.type_list_append mt_mut_append ho hb hl
  | extend => exact pe_bm0 PySem.F.plainAttrs_list PySem.F.slot_list_extend PySem.F.type_list_extend mt_mut_extend ho hb hl
  | pop => exact pe_bm0 PySem.F.plainAttrs_list PySem.F.slot_list_pop PySem.F.type_list_pop mt_mut_pop ho hb hl
  | popAt => exact pe_bm0 PySem.F.plainAttrs_list PySem.F.slot_list_pop PySem.F.type_list_pop mt_mut_popAt ho hb hl
theorem ev_mut (ok : XOk P n X sc) {m : Mut} {i : Nat} {ts : Es} {xs : List Expr} {y : Str} {py apos cpos : Pos} (hN : X.N[i]? = some y) (hv : visK (sc.lookup y) = true) (hd : (y == ("__debug__" : Str)) = false) (hcd : (y == ("__classdict__" : Str)) = false)
    (hl : (apos.endLine == cpos.line) = true) (hx : xs.length < 30) (h : PEs X c ts xs) : PE X (.Call (.Attribute (.Name y py) m.nm apos) xs [] cpos) (rdE X.K c (.mut m i ts)) := by
  have ho := var_pe ok (pos := py) hN hv hd hcd
  cases h with
  | nil =>
    refine pe_imp (mut_call0 ho rfl hl) fun σ H Q q => ?_
    obtain ⟨v, h1, h2, h3⟩ := mut_rd q
    exact ⟨v, h1, h2, rdA_nil h3⟩
  | cons hh p r =>
    refine pe_imp (mut_call ho (PEs.cons hh p r).pa rfl hl (star_few (PEs.cons hh p r).plain hx) (p.star _ _) (star_back r.plain)) fun σ H Q q => ?_
    obtain ⟨v, h1, h2, h3⟩ := mut_rd q
    exact ⟨v, h1, h2, h3⟩
/-! ### methods that change nothing -/
theorem base_id {o : Expr} {m : Str} {env : Env} (hs : shape o = true) (hb : notBare o = true) : attributeBase o m env (eval o env) = eval o env := by
  cases o with
  | Call f as ks pos =>
    cases f with
    | Name id p =>
      cases as with
      | nil => cases ks with
        | nil => cases hb
        | cons _ _ => rfl
      | cons _ _ => rfl
    | _ => rfl
  | _ => first | rfl | cases hs
def RK.T : RK → String
  | .lst => "list"
  | .dic => "dict"
  | .str => "str"
theorem kM_ty {C : Co} {σ : Sg} {H G : Hp} {e : En} {v : V} {r : R} {m : RK} (rel : Rel C σ H e G) (rr : RR C H G σ e v r) (h : kM m r e = true) : tyV C.K m.T v H := by
  have own : ∀ {a : Addr} {o : OD}, Std C.K G H o a → m.isO o = true → tyV C.K m.T (.ref a) H := by
    intro a o h2 h
    cases o with
    | nod k ts => cases m <;> cases h
    | lst xs =>
      cases m with
      | lst =>
        unfold Std at h2
        obtain ⟨ws, h2, _⟩ := h2
        exact .inl ⟨rfl, ws, .inl (.inl h2)⟩
      | _ => cases h
    | dic kvs =>
      cases m with
      | dic =>
        unfold Std at h2
        obtain ⟨ws, h2, _⟩ := h2
        exact .inr (.inr (.inl ⟨rfl, .inl ⟨ws, h2⟩⟩))
      | _ => cases h
  cases r with
  | d x =>
    have rr : Rp C.K G v x := rr
    have h : m.isD x = true := h
    cases rr with
    | lst h1 h2 =>
      cases m with
      | lst => exact .inl ⟨rfl, _, .inl (Same.rd rel.sub h1)⟩
      | _ => cases h
    | dic h1 h2 =>
      cases m with
      | dic => exact .inr (.inr (.inl ⟨rfl, .inl ⟨_, rel.sub _ _ h1⟩⟩))
      | _ => cases h
    | str z =>
      cases m with
      | str => rfl
      | _ => cases h
    | kl h1 h2 => cases m <;> cases h
    | _ => cases m <;> cases h
  | new o =>
    obtain ⟨a, rfl, h2, _⟩ := rr
    exact own h2 h
  | slot i =>
    have hs : σ[i]? = some (some v) := rr
    unfold kM at h
    simp only at h
    split at h
    · rename_i b o he
      obtain ⟨a, h1, h2, _⟩ := rel.own i b _ he
      rw [hs] at h1; cases h1
      exact own h2 h
    · cases h
def rMth (K : PySem.W.Frag) (m : Mth) : V → List V → Hp → VK → Prop := fun x xs H Q => ∃ G ds r, Same G H ∧ Paired (Rq K H G) (x :: xs) ds ∧ mthF m ds = some r ∧ ∀ v H' G', Pst K H G v r H' G' → Q v H'
theorem mth_rd {K : PySem.W.Frag} {m : Mth} {t : Ex} {ts : Es} {σ : Sg} {H : Hp} {Q : VK} (q : rdE K c (.mth m t ts) σ H Q) : tBM K m.rk.T (rMth K m) (rdE K c t) (rdA K c ts) σ H Q := by
  obtain ⟨C, e, G, r, e9, hK, rel, hv, k⟩ := q
  unfold ev at hv
  rw [Option.bind_eq_some_iff] at hv
  obtain ⟨⟨r0, e1⟩, h1, hv⟩ := hv
  simp only at hv
  split at hv
  · cases hv
  · rename_i hk
    simp only [Option.bind_eq_some_iff, Option.map_eq_some_iff, Prod.exists] at hv
    obtain ⟨rs, e2, h2, ds, h3, p, h4, q⟩ := hv
    cases q
    subst hK
    refine ⟨C, e, G, r0, e1, rfl, rel, h1, fun v H1 G1 rel1 g1 rr1 => ⟨kM_ty rel1 rr1 hk, ?_⟩⟩
    have key := rd_tail (c := c) (Φ := fun _ => True) (Q := fun vs H2 => ∃ G ds r, Same G H2 ∧ Paired (Rq C.K H2 G) vs ds ∧ mthF m ds = some r ∧ ∀ v H' G', Pst C.K H2 G v r H' G' → Q v H') rfl h2 trivial (fun vs H2 G2 rel2 g2 rr nd => by
      obtain ⟨G4, g4, rel4, qs⟩ := rel2.pks rr nd h3
      exact ⟨G4, ds, p, rel4.sub, qs, h4, fun v H3 G3 pst => by
        obtain ⟨y1, y2⟩ := rel4.pst pst
        exact k v H3 G3 y1 ((g2.trans g4).trans pst.gs) y2⟩) rel1 g1 rr1
    obtain ⟨C', e', G', rs', e3, z1, z2, z3, _, z4⟩ := key
    exact ⟨C', e', G', rs', e3, z1, z2, z3, z4⟩
theorem hu65 {A : Around} {k : Nat} (r : Room k A) : A.units + 65 < cLine := by have := r.un; omega
theorem mt_index (hu : X.A.units + 65 < cLine) : MtR X "list.index" (rMth X.K .index) := by
  intro pins s σ H x xs v us Q I rx rxs h
  obtain ⟨G, ds, r, sg, qs, e, k⟩ := h
  unfold mthF at e
  split at e <;> try contradiction
  rename_i zs y _
  split at e
  · rename_i hc
    rw [Bool.and_eq_true] at hc
    rw [Option.map_eq_some_iff] at e
    obtain ⟨j, hj, rfl⟩ := e
    obtain ⟨v1, v2, ev, q1, q2⟩ := two_q qs
    injection ev with ev1 ev2
    subst ev1 ev2
    have p1 : (PyData.list zs).plain = true := PyData.plain_of_canLay0 _ (SeqAt.canLay_of_shaped hc.1)
    have p2 : y.plain = true := PyData.plain_of_canLay0 _ (SeqAt.canLay_of_shaped hc.2)
    obtain ⟨a, ws, rfl, _, _⟩ := q1.list sg
    rw [List.findIdx?_eq_some_iff_getElem] at hj
    obtain ⟨hl, h1, h2⟩ := hj
    exact mt_indexD hu pins s σ H _ _ v us Q I rx rxs ⟨a, v2, y, zs, j, zs[j], rfl, rfl, (q1.rp sg).dp p1, (q2.rp sg).dp p2, hc.1, hc.2, List.getElem?_eq_getElem hl, h1, fun m z' hm hz => by
      obtain ⟨hml, rfl⟩ := List.getElem?_eq_some_iff.mp hz
      simpa using h2 m hm, k _ _ _ (.of sg (.int _))⟩
  · cases e
theorem Rq.fr {K : PySem.W.Frag} {H G : Hp} {v : V} {d : D} (h : isTop d = false) (q : Rq K H G v d) : Rp K G v d := by
  cases q with
  | fz r => exact r
  | @top a u o h1 h2 => cases o with
    | nod k ts => cases u <;> exact h2.elim
    | _ => cases h
theorem mt_get (hu : X.A.units + 65 < cLine) : MtR X "dict.get" (rMth X.K .get) := by
  intro pins s σ H x xs v us Q I rx rxs h
  obtain ⟨G, ds, r, sg, qs, e, k⟩ := h
  unfold mthF at e
  split at e <;> try contradiction
  rename_i kvs y d _
  split at e
  case isFalse => cases e
  · rename_i hc
    rw [Bool.and_eq_true, Bool.and_eq_true, Bool.not_eq_true'] at hc
    obtain ⟨⟨hc1, hc2⟩, hc3⟩ := hc
    cases e
    obtain ⟨v1, v2, v3, ev, q1, q2, q3⟩ := three_q qs
    injection ev with ev1 ev2
    subst ev1 ev2
    obtain ⟨a, ws, rfl, h1, h2⟩ := q1.dict hc2 sg
    obtain ⟨k0, rfl, rfl⟩ := isKey_rp hc1 (q2.rp sg)
    cases rx
    cases rxs with
    | cons r2 rxs =>
      cases rxs with
      | cons r3 rxs =>
        cases rxs
        refine d_get2 (by omega) I (DGet.k h1) r2 r3 fun w' s' I' rw' => ⟨_, H, I', rw', ?_⟩
        rcases h2.get k0 with ⟨w1, w2⟩ | ⟨w, d', w1, w2, w3⟩
        · rw [w1]
          rw [w2] at k
          exact k _ _ _ (.of sg (Rq.fr hc3 q3))
        · rw [w1]
          rw [w2] at k
          exact k _ _ _ (.of sg w3)
theorem RpL.strs {K : PySem.W.Frag} {G : Hp} {ns : List Str} : ∀ {vs : List V} {xs : List D}, RpL K G vs xs → strsOf xs = some ns → vs = ns.map V.str
  | _, _, .nil, e => by simp [strsOf] at e; subst e; rfl
  | _, _, .cons (d := d) (ds := ds) r t, e => by
    cases d with
    | str i =>
      cases r
      unfold strsOf at e
      cases q : strsOf ds with
      | none => rw [q] at e; cases e
      | some ms =>
        rw [q] at e
        cases e
        rw [List.map_cons, RpL.strs t q]
    | _ => unfold strsOf at e; cases e
theorem RpL.of_strs {K : PySem.W.Frag} {G : Hp} : ∀ (ns : List Str), RpL K G (ns.map V.str) (ns.map PyData.str)
  | [] => .nil
  | n :: ns => .cons (.str n) (RpL.of_strs ns)
theorem mt_joinF : MtR X "str.join" (rMth X.K .join) := by
  intro pins s σ H x xs v us Q I rx rxs h
  obtain ⟨G, ds, r, sg, qs, e, k⟩ := h
  unfold mthF at e
  split at e <;> try contradiction
  rw [Option.bind_eq_some_iff] at e
  obtain ⟨ys, e1, e2⟩ := e
  split at e2
  · rename_i hz
    cases e2
    obtain ⟨v1, v2, ev, q1, q2⟩ := two_q qs
    injection ev with ev1 ev2
    subst ev1 ev2
    obtain rfl := q1.str
    obtain ⟨a, ws, rfl, h1, h2⟩ := q2.list sg
    obtain rfl := h2.strs e1
    exact mt_join pins s σ H _ _ v us Q I rx rxs ⟨_, a, ys, rfl, rfl, .inl (.inl h1), hz, k _ _ _ (.of sg (.str _))⟩
  · cases e2
theorem mt_splitF : MtR X "str.split" (rMth X.K .split) := by
  intro pins s σ H x xs v us Q I rx rxs h
  obtain ⟨G, ds, r, sg, qs, e, k⟩ := h
  unfold mthF at e
  split at e <;> try contradiction
  split at e
  · rename_i hz
    cases e
    obtain ⟨v1, v2, ev, q1, q2⟩ := two_q qs
    injection ev with ev1 ev2
    subst ev1 ev2
    obtain rfl := q1.str
    obtain rfl := q2.str
    exact mt_split pins s σ H _ _ v us Q I rx rxs ⟨_, _, rfl, rfl, by simpa using hz.1, hz.2, fun p np => k _ _ _ (.lst sg (RpL.of_strs _) np)⟩
  · cases e
theorem ev_mth (ok : XOk P n X sc) {m : Mth} {t : Ex} {ts : Es} {o x : Expr} {xs : List Expr} {apos cpos : Pos} (hs : shape o = true) (hb : notBare o = true) (ho : PE X o (rdE X.K c t)) (hl : (apos.endLine == cpos.line) = true) (hx : (x :: xs).length < 30) (h : PEs X c ts (x :: xs)) :
    PE X (.Call (.Attribute o m.nm apos) (x :: xs) [] cpos) (rdE X.K c (.mth m t ts)) := by
  cases h with
  | cons hh p r =>
    have ha := (PEs.cons hh p r).pa
    have hf := star_few (env := X.env) (pos := cpos) (PEs.cons hh p r).plain hx
    cases m with
    | index => exact pe_imp (pe_bm PySem.F.plainAttrs_list PySem.F.slot_list_index PySem.F.type_list_index (mt_index (hu65 ok.room)) ho ha (base_id hs hb) hf hl (p.star _ _) (star_back r.plain)) fun σ H Q q => mth_rd q
    | get => exact pe_imp (pe_bm PySem.F.plainAttrs_dict PySem.F.slot_dict_get PySem.F.type_dict_get (mt_get (hu65 ok.room)) ho ha (base_id hs hb) hf hl (p.star _ _) (star_back r.plain)) fun σ H Q q => mth_rd q
    | join => exact pe_imp (pe_bm PySem.F.plainAttrs_str PySem.F.slot_str_join PySem.F.type_str_join mt_joinF ho ha (base_id hs hb) hf hl (p.star _ _) (star_back r.plain)) fun σ H Q q => mth_rd q
    | split => exact pe_imp (pe_bm PySem.F.plainAttrs_str PySem.F.slot_str_split PySem.F.type_str_split mt_splitF ho ha (base_id hs hb) hf hl (p.star _ _) (star_back r.plain)) fun σ H Q q => mth_rd q
/-! ### displays of dicts with written keys -/
def Es.len : Es → Nat
  | .nil => 0
  | .cons _ ts => ts.len + 1

def cV : D → V
  | .int i => .int i
  | .str x => .str x
  | _ => .non
theorem isKey_cV {d : D} (h : isKey d = true) : ∃ k : Key, d = keyD k ∧ cV d = kV k := by
  cases d <;> first | cases h | skip
  · exact ⟨.inl _, rfl, rfl⟩
  · exact ⟨.inr _, rfl, rfl⟩
def dTrs (K : PySem.W.Frag) (c : Cf) : List D → Es → List (TE × TE)
  | k :: ks, .cons t ts => (tC (cV k), rdE K c t) :: dTrs K c ks ts
  | _, _ => []
theorem key_pe {k : D} {cc : Const} {j : Nat} {pos : Pos} (h1 : isKey k = true) (h2 : cstOk k cc = true) : PE X (.Constant cc j pos) (tC (cV k)) := by
  unfold cstOk at h2
  split at h2
  · cases h1
  · cases h1
  · have e := eq_of_beq h2
    subst e
    exact pe_int
  · have e := of_decide_eq_true h2
    subst e
    exact pe_str
  · cases h2
theorem dsp_pps {pos : Pos} : ∀ {ks : List D} {ts : Es} {keys : List (Option Expr)} {vals : List Expr}, chkKs ks keys = true → PEs X c ts vals → keys.length = vals.length → PPs X pos keys vals (dTrs X.K c ks ts)
  | [], _, [], [], _, .nil, _ => pps_nil
  | [], _, [], _ :: _, _, _, hl => by simp at hl
  | [], _, _ :: _, _, h, _, _ => by unfold chkKs at h; cases h
  | k :: ks, _, [], _, h, _, _ => by unfold chkKs at h; cases h
  | k :: ks, _, none :: _, _, h, _, _ => by unfold chkKs at h; cases h
  | k :: ks, _, some e :: es, vals, h, hp, hl => by
    cases e with
    | Constant cc j pos' =>
      have h : (isKey k && cstOk k cc && chkKs ks es) = true := by unfold chkKs at h; exact h
      rw [Bool.and_eq_true, Bool.and_eq_true] at h
      cases hp with
      | nil => simp at hl
      | cons hh p r => exact pps_cons (key_pe h.1.1 h.1.2) hh (dsp_pps h.2 r (by simpa using hl))
    | _ => unfold chkKs at h; cases h
theorem tPairs_mono {σ : Sg} : ∀ {trs : List (TE × TE)} {H : Hp} {Q Q' : List (V × V) → Hp → Prop}, (∀ p ∈ trs, ∃ v K c t, p = (tC v, rdE K c t)) → tPairs trs σ H Q → (∀ ps H, Q ps H → Q' ps H) → tPairs trs σ H Q'
  | [], _, _, _, _, h, i => i _ _ h
  | p :: trs, H, Q, Q', hp, h, i => by
    obtain ⟨v, K, c, t, rfl⟩ := hp p List.mem_cons_self
    exact rdE_mono h fun y H2 q => tPairs_mono (fun q hq => hp q (List.mem_cons_of_mem _ hq)) q fun ps H3 => i _ _
theorem dTrs_are {K : PySem.W.Frag} : ∀ {ks : List D} {ts : Es}, ∀ p ∈ dTrs K c ks ts, ∃ v K c t, p = (tC v, rdE K c t)
  | k :: ks, .cons t ts, p, h => by
    rcases List.mem_cons.mp h with h | h
    · exact ⟨_, _, _, _, h⟩
    · exact dTrs_are p h
  | [], _, p, h => absurd (show p ∈ ([] : List (TE × TE)) from h) List.not_mem_nil
  | _ :: _, .nil, p, h => absurd (show p ∈ ([] : List (TE × TE)) from h) List.not_mem_nil
theorem pairs_rd {K : PySem.W.Frag} : ∀ {ks : List D} {ts : Es} {σ : Sg} {H : Hp} {Q : List V → Hp → Prop}, ks.length = ts.len → rdA K c ts σ H Q → tPairs (dTrs K c ks ts) σ H fun ps H2 => ∃ vs, ps = (ks.map cV).zip vs ∧ Q vs H2
  | [], .nil, σ, H, Q, _, h => ⟨[], rfl, rdA_nil h⟩
  | k :: ks, .nil, σ, H, Q, hl, h => by simp [Es.len] at hl
  | k :: ks, .cons t ts, σ, H, Q, hl, h => by
    refine rdE_mono (rdA_cons h) fun y H2 q => ?_
    refine tPairs_mono dTrs_are (pairs_rd (ks := ks) (by simpa [Es.len] using hl) q) ?_
    rintro ps H3 ⟨vs, rfl, q2⟩
    exact ⟨y :: vs, rfl, q2⟩
  | [], .cons t ts, σ, H, Q, hl, h => by simp [Es.len] at hl
end
end PL

/-! PL10: targets, what is walked, comprehensions. -/
namespace PL
open PySem PySem.Spec
open PyProof.Rows L2
section
variable {C : Co} {σ : Sg} {H G : Hp} {e e1 : En}
/-- a slot gets data -/
theorem Rel.putD {i : Nat} {v : V} {x : D} (h : Rel C σ H e G) (hr : Rp C.K G v x) (q : putS i (.d x) e = some e1) : Rel C (σ.set i (some v)) H e1 G := by
  unfold putS at q
  split at q
  · cases q
  · cases q
  · rename_i y hy hb hn
    cases q
    have hi : i < e.length := lt_of_get hn
    have hiσ : i < σ.length := by rw [← h.len]; exact hi
    refine { sub := h.sub, gold := h.gold, old := h.old, dom := h.dom, rok := h.rok, gnew := h.gnew, len := by rw [List.length_set, List.length_set]; exact h.len, bok := h.bok
             dat := fun j y q => ?_, own := fun j b o q => ?_, sep := fun j k a a' b b' o o' p q1 q2 q3 q4 => ?_, bor := fun j o q => ?_, iok := fun j a q => ?_ }
    · rcases get_set_cases q with ⟨rfl, z⟩ | ⟨hj, z⟩
      · cases z; exact ⟨v, List.getElem?_set_self hiσ, hr⟩
      · obtain ⟨w, h1, h2⟩ := h.dat j y z
        exact ⟨w, by rw [List.getElem?_set_ne hj]; exact h1, h2⟩
    · rcases get_set_cases q with ⟨rfl, z⟩ | ⟨hj, z⟩
      · cases z
      · obtain ⟨a, h1, h2⟩ := h.own j b o z
        exact ⟨a, by rw [List.getElem?_set_ne hj]; exact h1, h2⟩
    · rcases get_set_cases q1 with ⟨rfl, z⟩ | ⟨hj, z⟩
      · cases z
      · rcases get_set_cases q2 with ⟨rfl, z'⟩ | ⟨hk, z'⟩
        · cases z'
        · rw [List.getElem?_set_ne hj] at q3
          rw [List.getElem?_set_ne hk] at q4
          exact h.sep j k a a' _ _ _ _ p z z' q3 q4
    · rcases get_set_cases q with ⟨rfl, z⟩ | ⟨hj, z⟩
      · cases z
      · obtain ⟨a, h1, h2⟩ := h.bor j o z
        exact ⟨a, h1, by rw [List.getElem?_set_ne hj]; exact h2⟩
    · obtain ⟨⟨o, h1⟩, h2⟩ := h.iok j a q
      have hj : i ≠ j := fun z => by subst z; exact hy _ (Option.some.inj (hn.symm.trans h1))
      exact ⟨⟨o, by rw [List.getElem?_set_ne hj]; exact h1⟩, by rw [List.getElem?_set_ne hj]; exact h2⟩
  · cases q
/-- a slot gets a new object -/
theorem Rel.putO {i : Nat} {a : Addr} {o : OD} (h : Rel C σ H e G) (h1 : Std C.K G H o a) (h2 : (foot H o a).Nodup) (h3 : ∀ p ∈ foot H o a, G p = none ∧ C.H0 p = none ∧ NotOwn σ H e p) (q : putS i (.own false o) e = some e1) :
    Rel C (σ.set i (some (.ref a))) H e1 G := by
  unfold putS at q
  split at q
  · cases q
  · cases q
  · rename_i y hy hb hn
    cases q
    have hi : i < e.length := lt_of_get hn
    have hiσ : i < σ.length := by rw [← h.len]; exact hi
    refine { sub := h.sub, gold := h.gold, old := h.old, dom := h.dom, rok := h.rok, gnew := h.gnew, len := by rw [List.length_set, List.length_set]; exact h.len, bok := h.bok
             dat := fun j y q => ?_, own := fun j b o' q => ?_, sep := fun j k c c' b b' o1 o2 p q1 q2 q3 q4 q5 q6 => ?_, bor := fun j o q => ?_, iok := fun j c q => ?_ }
    · rcases get_set_cases q with ⟨rfl, z⟩ | ⟨hj, z⟩
      · cases z
      · obtain ⟨w, k1, k2⟩ := h.dat j y z
        exact ⟨w, by rw [List.getElem?_set_ne hj]; exact k1, k2⟩
    · rcases get_set_cases q with ⟨rfl, z⟩ | ⟨hj, z⟩
      · cases z
        exact ⟨a, List.getElem?_set_self hiσ, h1, h2, fun p hp => ⟨(h3 p hp).1, .inl (h3 p hp).2.1⟩, fun z => nomatch z⟩
      · obtain ⟨c, k1, k2⟩ := h.own j b o' z
        exact ⟨c, by rw [List.getElem?_set_ne hj]; exact k1, k2⟩
    · rcases get_set_cases q1 with ⟨rfl, z⟩ | ⟨hj, z⟩
      · rcases get_set_cases q2 with ⟨rfl, z'⟩ | ⟨hk, z'⟩
        · rfl
        · cases z
          rw [List.getElem?_set_self hiσ] at q3
          cases q3
          rw [List.getElem?_set_ne hk] at q4
          exact absurd q6 ((h3 p q5).2.2 k _ _ _ z' q4)
      · rcases get_set_cases q2 with ⟨rfl, z'⟩ | ⟨hk, z'⟩
        · cases z'
          rw [List.getElem?_set_self hiσ] at q4
          cases q4
          rw [List.getElem?_set_ne hj] at q3
          exact absurd q5 ((h3 p q6).2.2 j _ _ _ z q3)
        · rw [List.getElem?_set_ne hj] at q3
          rw [List.getElem?_set_ne hk] at q4
          exact h.sep j k c c' _ _ _ _ p z z' q3 q4 q5 q6
    · rcases get_set_cases q with ⟨rfl, z⟩ | ⟨hj, z⟩
      · cases z
      · obtain ⟨a, h1, h2⟩ := h.bor j o z
        exact ⟨a, h1, by rw [List.getElem?_set_ne hj]; exact h2⟩
    · obtain ⟨⟨o', k1⟩, k2⟩ := h.iok j c q
      have hj : i ≠ j := fun z => by subst z; exact hy _ (Option.some.inj (hn.symm.trans k1))
      exact ⟨⟨o', by rw [List.getElem?_set_ne hj]; exact k1⟩, by rw [List.getElem?_set_ne hj]; exact k2⟩
  · cases q
theorem putS_len {i : Nat} {s : SV} (q : putS i s e = some e1) : e1.length = e.length := by
  unfold putS at q
  split at q
  · cases q
  · cases q
  · cases q; rw [List.length_set]
  · cases q
/-- wiping -/
theorem wipe_set {σ : Sg} {i : Nat} {v : Option V} : ∀ {vs : List Nat}, i ∈ vs → wipe (σ.set i v) vs = wipe σ vs
  | w :: vs, h => by
    unfold wipe
    by_cases hi : i ∈ vs
    · rw [wipe_set hi]
    · have hw : i = w := by
        rcases List.mem_cons.mp h with h | h
        · exact h
        · exact absurd h hi
      subst hw
      have : ∀ {ws : List Nat}, i ∉ ws → wipe (σ.set i v) ws = (wipe σ ws).set i v := by
        intro ws
        induction ws with
        | nil => intro _; rfl
        | cons x ws ih =>
          intro hx
          rw [List.mem_cons, not_or] at hx
          unfold wipe
          rw [ih hx.2, List.set_comm _ _ hx.1]
      rw [this hi, List.set_set]
theorem wipe_get {σ : Sg} {i : Nat} : ∀ {vs : List Nat}, i ∉ vs → (wipe σ vs)[i]? = σ[i]?
  | [], _ => rfl
  | w :: vs, h => by
    rw [List.mem_cons, not_or] at h
    unfold wipe
    rw [List.getElem?_set_ne (Ne.symm h.1)]
    exact wipe_get h.2
theorem wipe_in {σ : Sg} {i : Nat} {v : V} : ∀ {vs : List Nat}, i ∈ vs → (wipe σ vs)[i]? ≠ some (some v) := fun h q => (wipe_some q).2 h
theorem wipe_idem (σ : Sg) (vs : List Nat) : wipe (wipe σ vs) vs = wipe σ vs := by
  refine List.ext_getElem? fun i => ?_
  by_cases hi : i ∈ vs
  · by_cases hl : i < σ.length
    · have e1 : i < (wipe (wipe σ vs) vs).length := by rw [wipe_length, wipe_length]; exact hl
      have e2 : i < (wipe σ vs).length := by rw [wipe_length]; exact hl
      have n1 : (wipe (wipe σ vs) vs)[i]? = some none := by
        cases q : (wipe (wipe σ vs) vs)[i]? with
        | none => rw [List.getElem?_eq_none_iff] at q; omega
        | some w => cases w with
          | none => rfl
          | some v => exact absurd q (wipe_in hi)
      have n2 : (wipe σ vs)[i]? = some none := by
        cases q : (wipe σ vs)[i]? with
        | none => rw [List.getElem?_eq_none_iff] at q; omega
        | some w => cases w with
          | none => rfl
          | some v => exact absurd q (wipe_in hi)
      rw [n1, n2]
    · rw [List.getElem?_eq_none (by rw [wipe_length, wipe_length]; omega), List.getElem?_eq_none (by rw [wipe_length]; omega)]
  · rw [wipe_get hi]
theorem wipeE_len (e : En) : ∀ vs : List Nat, (wipeE e vs).length = e.length
  | [] => rfl
  | v :: vs => by unfold wipeE; rw [List.length_set, wipeE_len e vs]
theorem wipeE_some {e : En} {i : Nat} {x : SV} : ∀ {vs : List Nat}, (wipeE e vs)[i]? = some (some x) → e[i]? = some (some x) ∧ i ∉ vs
  | [], h => ⟨h, List.not_mem_nil⟩
  | v :: vs, h => by
    unfold wipeE at h
    rcases get_set_cases h with ⟨_, z⟩ | ⟨hj, z⟩
    · cases z
    · obtain ⟨h1, h2⟩ := wipeE_some z
      exact ⟨h1, by rw [List.mem_cons, not_or]; exact ⟨Ne.symm hj, h2⟩⟩
theorem wipeE_get {e : En} {i : Nat} : ∀ {vs : List Nat}, i ∉ vs → (wipeE e vs)[i]? = e[i]?
  | [], _ => rfl
  | w :: vs, h => by
    rw [List.mem_cons, not_or] at h
    unfold wipeE
    rw [List.getElem?_set_ne (Ne.symm h.1)]
    exact wipeE_get h.2
theorem Rel.wiped {vs : List Nat} (h : Rel C σ H e G) (hio : ∀ i ∈ vs, C.io i = none) : Rel C (wipe σ vs) H (wipeE e vs) G := by
  refine { sub := h.sub, gold := h.gold, old := h.old, dom := h.dom, rok := h.rok, gnew := h.gnew, len := by rw [wipeE_len, wipe_length]; exact h.len, bok := h.bok
           dat := fun i x q => ?_, own := fun i b o q => ?_, sep := fun i j a a' b b' o o' p q1 q2 q3 q4 => ?_, bor := fun i o q => ?_, iok := fun i a q => ?_ }
  · obtain ⟨q1, q2⟩ := wipeE_some q
    obtain ⟨v, h1, h2⟩ := h.dat i x q1
    exact ⟨v, by rw [wipe_get q2]; exact h1, h2⟩
  · obtain ⟨q1, q2⟩ := wipeE_some q
    obtain ⟨a, h1, h2⟩ := h.own i b o q1
    exact ⟨a, by rw [wipe_get q2]; exact h1, h2⟩
  · exact h.sep i j a a' _ _ _ _ p (wipeE_some q1).1 (wipeE_some q2).1 (wipe_some q3).1 (wipe_some q4).1
  · obtain ⟨q1, q2⟩ := wipeE_some q
    obtain ⟨a, h1, h2⟩ := h.bor i o q1
    exact ⟨a, h1, by rw [wipe_get q2]; exact h2⟩
  · have hi : i ∉ vs := fun z => by rw [hio i z] at q; cases q
    obtain ⟨⟨o, h1⟩, h2⟩ := h.iok i a q
    exact ⟨⟨o, by rw [wipeE_get hi]; exact h1⟩, by rw [wipe_get hi]; exact h2⟩
theorem backE_len (e e1 : En) : ∀ vs : List Nat, (backE e e1 vs).length = e1.length
  | [] => rfl
  | v :: vs => by unfold backE; rw [List.length_set, backE_len e e1 vs]
theorem backE_some {e e1 : En} {i : Nat} {x : SV} : ∀ {vs : List Nat}, (backE e e1 vs)[i]? = some (some x) → (i ∈ vs ∧ e[i]? = some (some x)) ∨ (i ∉ vs ∧ e1[i]? = some (some x))
  | [], h => .inr ⟨List.not_mem_nil, h⟩
  | v :: vs, h => by
    unfold backE at h
    rcases get_set_cases h with ⟨rfl, z⟩ | ⟨hj, z⟩
    · left
      refine ⟨List.mem_cons_self, ?_⟩
      rw [List.getD_eq_getElem?_getD] at z
      cases q : e[v]? with
      | none => rw [q] at z; cases z
      | some w => rw [q] at z; exact congrArg some z.symm
    · rcases backE_some z with ⟨h1, h2⟩ | ⟨h1, h2⟩
      · exact .inl ⟨List.mem_cons_of_mem _ h1, h2⟩
      · exact .inr ⟨by rw [List.mem_cons, not_or]; exact ⟨Ne.symm hj, h1⟩, h2⟩
theorem backE_get {e e1 : En} {i : Nat} : ∀ {vs : List Nat}, i ∉ vs → (backE e e1 vs)[i]? = e1[i]?
  | [], _ => rfl
  | w :: vs, h => by
    rw [List.mem_cons, not_or] at h
    unfold backE
    rw [List.getElem?_set_ne (Ne.symm h.1)]
    exact backE_get h.2
theorem noOwn_ok {vs : List Nat} (h : noOwn e vs = true) : ∀ i ∈ vs, ∀ b o, e[i]? ≠ some (some (.own b o)) := by
  intro i hi b o q
  unfold noOwn at h
  have := List.all_eq_true.mp h i hi
  rw [q] at this
  cases this
theorem noBor_ok {vs : List Nat} (h : noOwn e vs = true) : ∀ i ∈ vs, ∀ o, e[i]? ≠ some (some (.bor o)) := by
  intro i hi o q
  unfold noOwn at h
  have := List.all_eq_true.mp h i hi
  rw [q] at this
  cases this
theorem Rel.noio {vs : List Nat} (h : Rel C σ H e G) (hn : noOwn e vs = true) : ∀ i ∈ vs, C.io i = none := fun i hi => by
  cases q : C.io i with
  | none => rfl
  | some a =>
    obtain ⟨⟨o, h1⟩, _⟩ := h.iok i a q
    exact absurd h1 (noOwn_ok hn i hi _ _)
theorem Rel.unwipe {vs : List Nat} {H1 G1 : Hp} {ef : En} (h : Rel C σ H1 e1 G1) (hn : noOwn e1 vs = true) (h2 : Rel C (wipe σ vs) H ef G) (g : Same G1 G) : Rel C σ H (backE e1 ef vs) G := by
  refine { sub := h2.sub, gold := h2.gold, old := h2.old, dom := h2.dom, rok := h2.rok, gnew := h2.gnew, len := by rw [backE_len, h2.len, wipe_length], bok := h2.bok
           dat := fun i x q => ?_, own := fun i b o q => ?_, sep := fun i j a a' b b' o o' p q1 q2 q3 q4 => ?_, bor := fun i o q => ?_, iok := fun i a q => ?_ }
  · rcases backE_some q with ⟨_, q⟩ | ⟨_, q⟩
    · obtain ⟨v, z1, z2⟩ := h.dat i x q
      exact ⟨v, z1, z2.mono g⟩
    · obtain ⟨v, z1, z2⟩ := h2.dat i x q
      exact ⟨v, (wipe_some z1).1, z2⟩
  · rcases backE_some q with ⟨hi, q⟩ | ⟨_, q⟩
    · exact absurd q (noOwn_ok hn i hi _ _)
    · obtain ⟨a, z1, z2⟩ := h2.own i b o q
      exact ⟨a, (wipe_some z1).1, z2⟩
  · rcases backE_some q1 with ⟨hi, q1⟩ | ⟨hi, q1⟩
    · exact absurd q1 (noOwn_ok hn i hi _ _)
    · rcases backE_some q2 with ⟨hj, q2⟩ | ⟨hj, q2⟩
      · exact absurd q2 (noOwn_ok hn j hj _ _)
      · exact h2.sep i j a a' _ _ _ _ p q1 q2 (by rw [wipe_get hi]; exact q3) (by rw [wipe_get hj]; exact q4)
  · rcases backE_some q with ⟨hi, q⟩ | ⟨_, q⟩
    · exact absurd q (noBor_ok hn i hi _)
    · obtain ⟨a, z1, z2⟩ := h2.bor i o q
      exact ⟨a, z1, (wipe_some z2).1⟩
  · have hi : i ∉ vs := fun z => by rw [h.noio hn i z] at q; cases q
    obtain ⟨⟨o, z1⟩, z2⟩ := h2.iok i a q
    exact ⟨⟨o, by rw [backE_get hi]; exact z1⟩, (wipe_some z2).1⟩
/-- an object that is neither data nor owned is rewritten -/
theorem Rel.updFree {a : Addr} {u : HO} (h : Rel C σ H e G) (hg : G a = none) (h0 : C.H0 a = none) (hn : NotOwn σ H e a) : Rel C σ (upd H a u) e G ∧ NotOwn σ (upd H a u) e a := by
  have loc : ∀ (i : Nat) b o d, e[i]? = some (some (.own b o)) → σ[i]? = some (some (.ref d)) → ∀ p ∈ foot H o d, upd H a u p = H p := fun i b o d q1 q2 p hp => upd_ne fun z => hn i b o d q1 q2 (z ▸ hp)
  have fe : ∀ (i : Nat) b o d, e[i]? = some (some (.own b o)) → σ[i]? = some (some (.ref d)) → foot (upd H a u) o d = foot H o d := fun i b o d q1 q2 => foot_loc o d (loc i b o d q1 q2)
  refine ⟨{ gold := h.gold, rok := h.rok, gnew := h.gnew, len := h.len, dat := h.dat, bor := h.bor, bok := h.bok, iok := h.iok
            sub := fun b w q => ?_, old := fun b w q hi => ?_, dom := fun b q => ?_, own := fun i b o q => ?_, sep := fun i j c c' b b' o o' p q1 q2 q3 q4 q5 q6 => ?_ }, fun i b o d q1 q2 => by rw [fe i b o d q1 q2]; exact hn i b o d q1 q2⟩
  · have hb : b ≠ a := fun z => by rw [z, hg] at q; cases q
    rw [upd_ne hb]; exact h.sub b w q
  · have hb : b ≠ a := fun z => by rw [z, h0] at q; cases q
    rw [upd_ne hb]; exact h.old b w q hi
  · have hb : b ≠ a := fun z => q (by rw [z]; exact h0)
    rw [upd_ne hb]; exact h.dom b q
  · obtain ⟨d, h1, h2, h3, h4, h5⟩ := h.own i b o q
    have l := loc i b o d q h1
    have fo := foot_loc o d l
    exact ⟨d, h1, h2.loc l, by rw [fo]; exact h3, by rw [fo]; exact h4, h5⟩
  · rw [fe i b o c q1 q3] at q5
    rw [fe j b' o' c' q2 q4] at q6
    exact h.sep i j c c' b b' o o' p q1 q2 q3 q4 q5 q6
end

/-! ### targets -/
section
variable {P : Pg} {n : Nat} {X : Cx} {sc : Nms} {c : Cf}
theorem name_pg (ok : XOk P n X sc) {i : Nat} {y : Str} {pos : Pos} (hN : X.N[i]? = some y) (hv : (decide (sc.lookup y = some .local) || decide (sc.lookup y = some .cell)) = true) : PG X (.Name y pos) (gName i) := by
  rw [Bool.or_eq_true, decide_eq_true_eq, decide_eq_true_eq] at hv
  rcases hv with hv | hv
  · exact pg_name ok.nd hN (.inl (ok.loc y hv)) (.inr (ok.loc y hv))
  · exact pg_name ok.nd hN (.inr (ok.cell y hv).1) (.inl (ok.cell y hv).2)
def gNames : List Nat → TGs
  | [] => gNil
  | i :: is => gCons (gName i) (gNames is)
theorem names_pgs (ok : XOk P n X sc) : ∀ {js : List Nat} {xs : List Expr}, chkTg.chkNs X.N sc js xs = true → PGs X xs (gNames js) ∧ (assignEach xs X.env).length = js.length ∧ (assignEach xs X.env).findIdx? (·.1) = none
  | [], [], _ => ⟨pgs_nil, rfl, rfl⟩
  | i :: js, x :: xs, h => by
    cases x with
    | Name y pos =>
      have h : (decide (X.N[i]? = some y) && (decide (sc.lookup y = some .local) || decide (sc.lookup y = some .cell)) && chkTg.chkNs X.N sc js xs) = true := h
      rw [Bool.and_eq_true, Bool.and_eq_true] at h
      obtain ⟨⟨h1, h2⟩, h3⟩ := h
      obtain ⟨k1, k2, k3⟩ := names_pgs ok h3
      refine ⟨pgs_cons (name_pg ok (of_decide_eq_true h1) h2) k1, ?_, ?_⟩
      · show (assignEach xs X.env).length + 1 = js.length + 1
        rw [k2]
      · show List.findIdx? (·.1) ((false, assign (.Name y pos) X.env) :: assignEach xs X.env) = none
        rw [List.findIdx?_cons, k3]
        rfl
    | _ => exact absurd (show false = true from h) Bool.false_ne_true
  | [], _ :: _, h => absurd (show false = true from h) Bool.false_ne_true
  | _ :: _, [], h => absurd (show false = true from h) Bool.false_ne_true
theorem pg_or {g : Expr} {t t' : TG} (h : PG X g t) (h' : PG X g t') : PG X g (fun v σ H Q => t v σ H Q ∨ t' v σ H Q) := ⟨fun pins s σ H v u Q I r q => q.elim (h.run pins s σ H v u Q I r) (h'.run pins s σ H v u Q I r)⟩
theorem names_rd {K : PySem.W.Frag} {C : Co} {H G : Hp} (hK : C.K = K) : ∀ {js : List Nat} {vs : List V} {xs : List D} {σ : Sg} {e e1 : En} {Q : Sg → Hp → Prop}, Rel C σ H e G → RpL K G vs xs → putAll js (xs.map .d) e = some e1 →
    (∀ σ', Rel C σ' H e1 G → (∀ own : List Nat, (∀ i ∈ js, i ∈ own) → wipe σ' own = wipe σ own) → Q σ' H) → gNames js vs σ H Q
  | [], _, _, σ, e, e1, Q, rel, .nil, q, k => by
    unfold putAll at q
    cases q
    exact ⟨rfl, k σ rel fun _ _ => rfl⟩
  | i :: js, _, _, σ, e, e1, Q, rel, .cons (v := v) (d := x) r1 rr, q, k => by
    rw [List.map_cons] at q
    unfold putAll at q
    rw [Option.bind_eq_some_iff] at q
    obtain ⟨e2, q1, q2⟩ := q
    refine ⟨v, _, rfl, names_rd hK (rel.putD (by rw [hK]; exact r1) q1) rr q2 fun σ' rel' hw => k σ' rel' fun own ho => ?_⟩
    rw [hw own fun j hj => ho j (List.mem_cons_of_mem _ hj)]
    exact wipe_set (ho i List.mem_cons_self)
  | [], _, _, _, _, _, _, _, .cons _ _, q, _ => by unfold putAll at q; cases q
  | _ :: _, _, _, _, _, _, _, _, .nil, q, _ => by unfold putAll at q; cases q
theorem len_putAll : ∀ {js : List Nat} {vs : List SV} {e e1 : En}, putAll js vs e = some e1 → vs.length = js.length
  | [], [], _, _, _ => rfl
  | i :: js, v :: vs, e, e1, q => by
    unfold putAll at q
    rw [Option.bind_eq_some_iff] at q
    obtain ⟨e2, q1, q2⟩ := q
    rw [List.length_cons, List.length_cons, len_putAll q2]
  | [], _ :: _, _, _, q => by unfold putAll at q; cases q
  | _ :: _, [], _, _, q => by unfold putAll at q; cases q
theorem tg_ok (ok : XOk P n X sc) {tg : Tg} {g : Expr} (h : chkTg X.N sc tg g = true) : PG X g (rdG X.K tg) := by
  cases tg with
  | nm i =>
    cases g with
    | Name y pos =>
      have h : (decide (X.N[i]? = some y) && (decide (sc.lookup y = some .local) || decide (sc.lookup y = some .cell))) = true := h
      rw [Bool.and_eq_true] at h
      refine pg_imp (name_pg ok (of_decide_eq_true h.1) h.2) fun v σ H Q q => ?_
      obtain ⟨C, e, G, x, e1, hK, rel, hr, hs, k⟩ := q
      exact k _ (rel.putD (by rw [hK]; exact hr) hs) fun own ho => wipe_set (ho i List.mem_cons_self)
    | _ => exact absurd (show false = true from h) Bool.false_ne_true
  | tp js =>
    cases g with
    | Tuple xs j pos =>
      have h : chkTg.chkNs X.N sc js xs = true := h
      obtain ⟨k1, k2, k3⟩ := names_pgs ok h
      refine pg_imp (pg_or (pg_tup ok.calm k1 k2 k3) (pg_unl ok.calm k1 k2 k3)) fun v σ H Q q => ?_
      obtain ⟨C, e, G, x, e1, hK, rel, hr, hs, k⟩ := q
      unfold setTg at hs
      simp only [Option.bind_eq_some_iff] at hs
      obtain ⟨ds, h1, h2⟩ := hs
      have hl := len_putAll h2
      rw [List.length_map] at hl
      rw [← hK]
      unfold itemsOf at h1
      split at h1
      · cases h1
        cases hr with
        | lst r1 r2 => exact .inr ⟨_, _, rfl, .inl (Same.rd rel.sub r1), by rw [r2.length, hl], names_rd rfl rel (by rw [hK]; exact r2) h2 k⟩
      · cases h1
        cases hr with
        | tup r1 r2 => exact .inl ⟨_, _, rfl, by rw [hK]; exact Same.sqT rel.sub r1, by rw [r2.length, hl], names_rd rfl rel (by rw [hK]; exact r2) h2 k⟩
      · cases h1
    | _ => exact absurd (show false = true from h) Bool.false_ne_true

/-! ### what is walked -/
theorem pi_or {tg x : Expr} {t t' : TI} (h : PI X tg x t) (h' : PI X tg x t') : PI X tg x (fun σ H R => t σ H R ∨ t' σ H R) := ⟨fun pins s σ H R I q => q.elim (h.run pins s σ H R I) (h'.run pins s σ H R I)⟩
theorem itl_ok {K : PySem.W.Frag} {G : Hp} {a : Addr} {vs : List V} {xs : List D} (h : Rd G a (.lst vs)) (r : RpL K G vs xs) : ItOk K G xs (Itl K a) := by
  refine ⟨fun i H s l => ?_, fun i H v H' s l y => ?_, fun i H s l => ⟨vs, .inl (Same.rd s h), by rw [r.length]; exact l⟩⟩
  · have : i < vs.length := by rw [r.length]; exact l
    exact ⟨vs, _, .inl (Same.rd s h), List.getElem?_eq_getElem this⟩
  · obtain ⟨e, y⟩ := y
    obtain ⟨x, h1, h2⟩ := r.get' (y vs (.inl (Same.rd s h)))
    exact ⟨e, x, h1, h2⟩
theorem itt_ok {K : PySem.W.Frag} {G : Hp} {a : Addr} {vs : List V} {xs : List D} (h : SqT K G a vs) (r : RpL K G vs xs) : ItOk K G xs (Itt K a) := by
  refine ⟨fun i H s l => ?_, fun i H v H' s l y => ?_, fun i H s l => ⟨vs, Same.sqT s h, by rw [r.length]; exact l⟩⟩
  · have : i < vs.length := by rw [r.length]; exact l
    exact ⟨vs, _, Same.sqT s h, List.getElem?_eq_getElem this⟩
  · obtain ⟨e, y⟩ := y
    obtain ⟨x, h1, h2⟩ := r.get' (y vs (Same.sqT s h))
    exact ⟨e, x, h1, h2⟩
theorem itx_rd {K : PySem.W.Frag} {t : Ex} {σ : Sg} {H : Hp} {R : L2.It → Hp → Prop} (q : rdI K c (.ex t) σ H R) : iList K (rdE K c t) σ H R ∨ iTup K (rdE K c t) σ H R := by
  obtain ⟨C, e, G, xs, e1, hK, rel, hv, k⟩ := q
  subst hK
  unfold evIt at hv
  rw [Option.bind_eq_some_iff] at hv
  obtain ⟨⟨r, e2⟩, h1, hv⟩ := hv
  rw [Option.bind_eq_some_iff] at hv
  obtain ⟨⟨y, e3⟩, h2, hv⟩ := hv
  simp only [Option.map_eq_some_iff] at hv
  obtain ⟨ys, h3, q⟩ := hv
  cases q
  unfold itemsOf at h3
  split at h3
  · cases h3
    refine .inl ⟨C, e, G, r, e2, rfl, rel, h1, fun v H1 G1 rel1 g1 rr1 => ?_⟩
    obtain ⟨G2, g2, rel2, p2, _⟩ := rel1.fzR rr1 h2
    cases p2 with
    | lst z1 z2 => exact ⟨_, rfl, ⟨_, .inl (Same.rd rel2.sub z1)⟩, k _ H1 G2 rel2 (g1.trans g2) (itl_ok z1 z2)⟩
  · cases h3
    refine .inr ⟨C, e, G, r, e2, rfl, rel, h1, fun v H1 G1 rel1 g1 rr1 => ?_⟩
    obtain ⟨G2, g2, rel2, p2, _⟩ := rel1.fzR rr1 h2
    cases p2 with
    | tup z1 z2 => exact ⟨_, rfl, ⟨_, Same.sqT rel2.sub z1⟩, k _ H1 G2 rel2 (g1.trans g2) (itt_ok z1 z2)⟩
  · cases h3
theorem itr_ok {K : PySem.W.Frag} {G : Hp} (lo : Int) (m : Nat) : ItOk K G ((List.range m).map fun k => .int (lo + ((k : Nat) : Int))) (Itr lo m) := by
  refine ⟨fun i H s l => (by simpa using l : i < m), fun i H v H' s l y => ?_, fun i H s l => (by simpa using l : m ≤ i)⟩
  obtain ⟨e, rfl⟩ := y
  have hl : i < m := by simpa using l
  refine ⟨e, _, ?_, .int _⟩
  rw [List.getElem?_map, List.getElem?_range hl]
  rfl
theorem itc_ok {K : PySem.W.Frag} {G : Hp} (lo d : Int) (m : Nat) : ItOk K G ((List.range m).map fun k => .int (lo + ((k : Nat) : Int) * d)) (Itc lo d m) := by
  refine ⟨fun i H s l => (by simpa using l : i < m), fun i H v H' s l y => ?_, fun i H s l => (by simpa using l : m ≤ i)⟩
  obtain ⟨e, rfl⟩ := y
  have hl : i < m := by simpa using l
  refine ⟨e, _, ?_, .int _⟩
  rw [List.getElem?_map, List.getElem?_range hl]
  rfl
theorem evs_len : ∀ {ts : Es} {e e1 : En} {rs : List R}, evs c ts e = some (rs, e1) → rs.length = ts.len
  | .nil, e, e1, rs, h => by unfold evs at h; cases h; rfl
  | .cons t ts, e, e1, rs, h => by
    unfold evs at h
    rw [Option.bind_eq_some_iff] at h
    obtain ⟨⟨r, e2⟩, h1, h⟩ := h
    simp only [Option.map_eq_some_iff, Prod.exists] at h
    obtain ⟨rs', e3, h2, q⟩ := h
    cases q
    rw [List.length_cons, evs_len h2]
    rfl
theorem PEs.len : ∀ {ts : Es} {xs : List Expr}, PEs X c ts xs → xs.length = ts.len
  | _, _, .nil => rfl
  | _, _, .cons _ _ r => by rw [List.length_cons, PEs.len r]; rfl
theorem itn_rd {K : PySem.W.Frag} {ts : Es} {σ : Sg} {H : Hp} {R : L2.It → Hp → Prop} (q : rdI K c (.rng ts) σ H R) : rdA K c ts σ H fun vs H1 => ∃ G xs ys, vs.length = ts.len ∧ Paired (Rq K H1 G) vs xs ∧ rngF xs = some ys ∧ ∀ J, ItOk K G ys J → R J H1 := by
  obtain ⟨C, e, G, xs, e1, hK, rel, hv, k⟩ := q
  subst hK
  unfold evIt at hv
  rw [Option.bind_eq_some_iff] at hv
  obtain ⟨⟨rs, e2⟩, h1, hv⟩ := hv
  rw [Option.bind_eq_some_iff] at hv
  obtain ⟨ds, h2, hv⟩ := hv
  simp only [Option.map_eq_some_iff] at hv
  obtain ⟨ys, h3, q⟩ := hv
  cases q
  exact ⟨C, e, G, rs, _, rfl, rel, h1, fun vs H1 G1 rel1 g1 rr nd => by
    obtain ⟨G2, g2, rel2, qs⟩ := rel1.pks rr nd h2
    exact ⟨G2, ds, _, (Paired.length rr).trans (evs_len h1), qs, h3, fun J hJ => k J H1 G2 rel2 (g1.trans g2) hJ⟩⟩
theorem rdA_mono {K : PySem.W.Frag} {ts : Es} {σ : Sg} {H : Hp} {Q Q' : List V → Hp → Prop} (h : rdA K c ts σ H Q) (i : ∀ vs H, Q vs H → Q' vs H) : rdA K c ts σ H Q' := by
  obtain ⟨C, e, G, r, e1, h1, h2, h3, k⟩ := h
  exact ⟨C, e, G, r, e1, h1, h2, h3, fun v H' G' a b d nd => i _ _ (k v H' G' a b d nd)⟩
theorem rng_ok (ok : XOk P n X sc) {ts : Es} {tg : Expr} {p pos : Pos} {xs : List Expr} (hg : glK sc ("range" : Str) = true) (h : PEs X c ts xs) (hx : xs.length = 1 ∨ xs.length = 2 ∨ xs.length = 3) : PI X tg (.Call (.Name "range" p) xs [] pos) (rdI X.K c (.rng ts)) := by
  obtain ⟨g1, g2, g3⟩ := gl_of ok hg
  have hm : X.mg "range" = none := ok.blt _ (by decide +kernel)
  have hs := star_map (env := X.env) h.plain
  have hl := h.len
  have l1 : ∀ {vs : List V} {ds : List D} {G H1 : Hp}, Paired (Rq X.K H1 G) vs ds → vs.length = ds.length := fun q => Paired.length q
  cases xs with
  | nil => simp at hx
  | cons x1 xs =>
    have hs1 := star_map (env := X.env) (xs := xs) fun y hy => h.plain y (List.mem_cons_of_mem _ hy)
    cases xs with
    | nil =>
      refine pi_imp (pi_range1 g1 hm h.pa hs) fun σ H R q => rdA_mono (itn_rd q) fun vs H1 k => ?_
      obtain ⟨G2, ds, ys, hv, qs, hr, kk⟩ := k
      have hd := l1 qs
      rw [hv, ← hl] at hd
      unfold rngF at hr
      split at hr
      · split at hr
        · rename_i hb
          cases hr
          obtain ⟨v, rfl, z⟩ := one_q qs
          obtain rfl := z.int
          refine ⟨_, rfl, hb.1, hb.2, kk _ ?_⟩
          have := itr_ok (K := X.K) (G := G2) 0 (Int.toNat ‹_›)
          simpa using this
        · cases hr
      · simp at hd
      · simp at hd
      · cases hr
    | cons x2 xs =>
      have hs2 := star_map (env := X.env) (xs := xs) fun y hy => h.plain y (List.mem_cons_of_mem _ (List.mem_cons_of_mem _ hy))
      cases xs with
      | nil =>
        refine pi_imp (pi_range2 g1 hm h.pa hs hs1) fun σ H R q => rdA_mono (itn_rd q) fun vs H1 k => ?_
        obtain ⟨G2, ds, ys, hv, qs, hr, kk⟩ := k
        have hd := l1 qs
        rw [hv, ← hl] at hd
        unfold rngF at hr
        split at hr
        · simp at hd
        · split at hr
          · rename_i hb
            cases hr
            obtain ⟨v, w, rfl, z, z'⟩ := two_q qs
            obtain rfl := z.int
            obtain rfl := z'.int
            exact ⟨_, _, rfl, hb, kk _ (itr_ok _ _)⟩
          · cases hr
        · simp at hd
        · cases hr
      | cons x3 xs =>
        cases xs with
        | nil =>
          refine pi_imp (pi_range3 g1 hm h.pa (by rw [hs, hs1]; rfl) (star_back fun y hy => h.plain y (List.mem_cons_of_mem _ hy))) fun σ H R q => rdA_mono (itn_rd q) fun vs H1 k => ?_
          obtain ⟨G2, ds, ys, hv, qs, hr, kk⟩ := k
          have hd := l1 qs
          rw [hv, ← hl] at hd
          unfold rngF at hr
          split at hr
          · simp at hd
          · simp at hd
          · split at hr
            · rename_i hb
              cases hr
              obtain ⟨v, w, u, rfl, z, z', z''⟩ := three_q qs
              obtain rfl := z.int
              obtain rfl := z'.int
              obtain rfl := z''.int
              exact ⟨_, _, _, _, rfl, ⟨hb.1, hb.2.1, hb.2.2.1, (Int.toNat_of_nonneg hb.2.2.2).symm⟩, kk _ (itc_ok _ _ _)⟩
            · cases hr
          · cases hr
        | cons x4 xs => simp at hx
end
end PL

/-! PL11: comprehensions, tests, all expressions. -/
namespace PL
open PySem PySem.Spec
open PyProof.Rows L2
section
variable {P : Pg} {n : Nat} {X : Cx} {sc : Nms} {c : Cf}
/-! ### tests -/
theorem tru_of {K : PySem.W.Frag} {H G : Hp} {v : V} {y : D} {b : Bool} (sg : Same G H) (q : Rq K H G v y) (h : PL.truthy y = some b) : TruV K v H b := by
  cases y with
  | none => cases h; obtain rfl := q.none; rfl
  | bool z => cases h; obtain rfl := q.bool; rfl
  | int i => cases h; obtain rfl := q.int; rfl
  | str z =>
    have h : (if z.length ≤ lim then some (z.length != 0) else none) = some b := h
    split at h
    · rename_i hz
      cases h
      obtain rfl := q.str
      refine ⟨hz, ?_⟩
      by_cases e : z.length = 0
      · rw [e]; rfl
      · have e' : ((z.length : Nat) : Int) ≠ 0 := by omega
        rw [bne_iff_ne.mpr e, bne_iff_ne.mpr e']
    · cases h
  | list xs =>
    cases h
    obtain ⟨a, vs, rfl, h1, h2⟩ := q.list sg
    refine .inl ⟨vs, .inl h1, ?_⟩
    cases h2 <;> rfl
  | tuple xs =>
    cases h
    obtain ⟨a, vs, rfl, h1, _, h2⟩ := q.tuple sg
    refine .inr (.inl ⟨vs, h1, ?_⟩)
    cases h2 <;> rfl
  | dict kvs => cases h
def tstD (c : Cf) (t : Ex) (e : En) : Option (Bool × En) := (ev c t e).bind fun (r, e1) => (pkR r e1).bind fun y => (PL.truthy y).map fun b => (b, e1)
theorem tst_gen {t : Ex} {x : Expr} (hd : ∀ e, tst c t e = tstD c t e) (h : PE X x (rdE X.K c t)) (he : ∀ whole, isTrue x X.env whole = (do let v ← whole; standAt x.pos; holding [v] (PySem.truthy v))) : PT X x (rdT X.K c t) := by
  refine pt_imp (pt_truth h he) fun σ H Q q => ?_
  obtain ⟨C, e, G, b, e1, hK, rel, hv, k⟩ := q
  rw [hd] at hv
  unfold tstD at hv
  rw [Option.bind_eq_some_iff] at hv
  obtain ⟨⟨r, e2⟩, h1, hv⟩ := hv
  simp only [Option.bind_eq_some_iff, Option.map_eq_some_iff] at hv
  obtain ⟨y, h2, b', h3, q⟩ := hv
  cases q
  exact ⟨C, e, G, r, _, hK, rel, h1, fun v H1 G1 rel1 g1 rr1 => by
    obtain ⟨G2, g2, rel2, q2⟩ := rel1.pkR rr1 h2
    exact ⟨b, by rw [← hK]; exact tru_of rel2.sub q2 h3, k H1 G2 rel2 (g1.trans g2)⟩⟩
theorem tst_bool {K : PySem.W.Frag} {t : Ex} {σ : Sg} {H : Hp} {Q : Bool → Hp → Prop} (hd : ∀ e, tst c t e = tstD c t e) (hb : ∀ e r e1, ev c t e = some (r, e1) → ∃ k, r = .d (.bool k)) (q : rdT K c t σ H Q) : rdE K c t σ H fun x H' => ∃ k, x = .bl k ∧ Q k H' := by
  obtain ⟨C, e, G, b, e1, hK, rel, hv, k⟩ := q
  rw [hd] at hv
  unfold tstD at hv
  rw [Option.bind_eq_some_iff] at hv
  obtain ⟨⟨r, e2⟩, h1, hv⟩ := hv
  obtain ⟨z, rfl⟩ := hb _ _ _ h1
  simp only [Option.bind_eq_some_iff, Option.map_eq_some_iff] at hv
  obtain ⟨y, h2, b', h3, q⟩ := hv
  cases q
  cases h2
  cases h3
  refine ⟨C, e, G, _, _, hK, rel, h1, fun v H1 G1 rel1 g1 rr1 => ?_⟩
  cases (show Rp C.K G1 v (.bool b) from rr1)
  exact ⟨b, rfl, k H1 G1 rel1 g1⟩
theorem tst_and {a b : Ex} {x y : Expr} {r : List Expr} {pos : Pos} (ha : PT X x (rdT X.K c a)) (hb : PW X (.BoolOp .And (y :: r) pos) (rdT X.K c b)) : PT X (.BoolOp .And (x :: y :: r) pos) (rdT X.K c (.and a b)) := by
  refine pt_imp (PW.pt (pw_and ha hb)) fun σ H Q q => ?_
  obtain ⟨C, e, G, b', e1, hK, rel, hv, k⟩ := q
  unfold tst at hv
  rw [Option.bind_eq_some_iff] at hv
  obtain ⟨⟨z, e2⟩, h1, hv⟩ := hv
  refine ⟨C, e, G, z, e2, hK, rel, h1, fun H1 G1 rel1 g1 => ?_⟩
  cases z with
  | true => exact iteT ⟨C, e2, G1, b', e1, hK, rel1, hv, fun H' G' z1 z2 => k H' G' z1 (g1.trans z2)⟩
  | false => cases hv; exact iteF (k H1 G1 rel1 g1)
theorem tst_or {a b : Ex} {x y : Expr} {r : List Expr} {pos : Pos} (ha : PT X x (rdT X.K c a)) (hb : PW X (.BoolOp .Or (y :: r) pos) (rdT X.K c b)) : PT X (.BoolOp .Or (x :: y :: r) pos) (rdT X.K c (.or a b)) := by
  refine pt_imp (PW.pt (pw_or ha hb)) fun σ H Q q => ?_
  obtain ⟨C, e, G, b', e1, hK, rel, hv, k⟩ := q
  unfold tst at hv
  rw [Option.bind_eq_some_iff] at hv
  obtain ⟨⟨z, e2⟩, h1, hv⟩ := hv
  refine ⟨C, e, G, z, e2, hK, rel, h1, fun H1 G1 rel1 g1 => ?_⟩
  cases z with
  | false => exact iteF ⟨C, e2, G1, b', e1, hK, rel1, hv, fun H' G' z1 z2 => k H' G' z1 (g1.trans z2)⟩
  | true => cases hv; exact iteT (k H1 G1 rel1 g1)
theorem pw_of {op : BoolOp} {xs : List Expr} {pos : Pos} {t : TT} (h : PT X (.BoolOp op xs pos) t) : PW X (.BoolOp op xs pos) t := ⟨fun _ pins s σ H Q I q => h.run pins s σ H Q I q⟩
theorem tst_not {a : Ex} {x : Expr} {pos : Pos} (ha : PT X x (rdT X.K c a)) : PT X (.UnaryOp .Not x pos) (rdT X.K c (.not a)) := by
  refine pt_imp (pt_not ha) fun σ H Q q => ?_
  obtain ⟨C, e, G, b', e1, hK, rel, hv, k⟩ := q
  unfold tst at hv
  simp only [Option.map_eq_some_iff, Prod.exists] at hv
  obtain ⟨z, e2, h1, q⟩ := hv
  cases q
  exact ⟨C, e, G, z, _, hK, rel, h1, fun H1 G1 rel1 g1 => k H1 G1 rel1 g1⟩
theorem tst_ite {t a b : Ex} {x y z : Expr} {pos : Pos} (ht : PT X x (rdT X.K c t)) (ha : PT X y (rdT X.K c a)) (hb : PT X z (rdT X.K c b)) : PT X (.IfExp x y z pos) (rdT X.K c (.ite t a b)) := by
  refine ⟨fun pins s σ H Q I q => ?_⟩
  obtain ⟨C, e, G, b', e1, hK, rel, hv, k⟩ := q
  unfold tst at hv
  rw [Option.bind_eq_some_iff] at hv
  obtain ⟨⟨d, e2⟩, h1, hv⟩ := hv
  show wpAny _ _ (do if ← isTrue x X.env (eval x X.env) then isTrue y X.env (eval y X.env) else isTrue z X.env (eval z X.env)) _ _ _
  refine wpAny_bind (thn (ht.run pins s σ H (fun d' H1 => d' = d ∧ ∃ G1, Rel C σ H1 e2 G1 ∧ Same G G1) I ⟨C, e, G, d, e2, hK, rel, h1, fun H1 G1 rel1 g1 => ⟨rfl, G1, rel1, g1⟩⟩) fun d' s1 ⟨H1, I1, ed, G1, rel1, g1⟩ => ?_)
  subst ed
  cases d' with
  | true => exact ha.run pins s1 σ H1 Q I1 ⟨C, e2, G1, b', e1, hK, rel1, hv, fun H' G' z1 z2 => k H' G' z1 (g1.trans z2)⟩
  | false => exact hb.run pins s1 σ H1 Q I1 ⟨C, e2, G1, b', e1, hK, rel1, hv, fun H' G' z1 z2 => k H' G' z1 (g1.trans z2)⟩
/-! ### comprehensions -/
def rdTs (K : PySem.W.Frag) (c : Cf) (ts : Es) : TT := fun σ H Q => ∃ C e G b e1, C.K = K ∧ Rel C σ H e G ∧ tsts c ts e = some (b, e1) ∧ ∀ H' G', Rel C σ H' e1 G' → Same G G' → Q b H'
def lcF (c : Cf) (tg : Tg) (ifs : Es) (el : Ex) (own : List Nat) (x : D) (e2 : En) : Option (Option D × En) :=
  (setTg tg x e2).bind fun e3 => (tsts c ifs e3).bind fun (b, e4) => match b with
    | false => some (none, wipeE e4 own)
    | true => (ev c el e4).bind fun (r, e5) => (fzR r e5).map fun (y, e6) => (some y, wipeE e6 own)
theorem lcL_cons {f : D → En → Option (Option D × En)} {x : D} {xs acc : List D} {e : En} {z : List D × En} (h : lcL f (x :: xs) acc e = some z) :
    (∃ e1, f x e = some (none, e1) ∧ lcL f xs acc e1 = some z) ∨ (∃ y e1, f x e = some (some y, e1) ∧ acc.length < lim ∧ lcL f xs (acc ++ [y]) e1 = some z) := by
  unfold lcL at h
  rw [Option.bind_eq_some_iff] at h
  obtain ⟨⟨o, e1⟩, h1, h2⟩ := h
  cases o with
  | none => exact .inl ⟨e1, h1, h2⟩
  | some y =>
    simp only at h2
    split at h2
    · rename_i hl; exact .inr ⟨y, e1, h1, hl, h2⟩
    · cases h2
theorem lc_rd {K : PySem.W.Frag} {tg : Tg} {it : PL.It} {ifs : Es} {el : Ex} {own : List Nat} {σ : Sg} {H : Hp} {Q : VK} (htg : ∀ i ∈ tg.sl, i ∈ own) (q : rdE K c (.lc tg it ifs el own) σ H Q) :
    tLc (rdI K c it) (rdG K tg) (rdTs K c ifs) (rdE K c el) own σ H Q := by
  obtain ⟨C, e, G, r, e9, hK, rel, hv, k⟩ := q
  subst hK
  unfold ev at hv
  rw [Option.bind_eq_some_iff] at hv
  obtain ⟨⟨xs, e1⟩, h1, hv⟩ := hv
  simp only at hv
  split at hv
  · cases hv
  · rename_i hno
    rw [Option.map_eq_some_iff] at hv
    obtain ⟨⟨ys, ef⟩, h2, hq⟩ := hv
    cases hq
    have h2 : lcL (lcF c tg ifs el own) xs [] (wipeE e1 own) = some (ys, ef) := h2
    refine ⟨C, e, G, xs, e1, rfl, rel, h1, fun J H1 G1 rel1 g1 hJ LD hD => ?_⟩
    have hio := rel1.noio hno
    have relw := rel1.wiped hio
    have pst := Pst.lst (K := C.K) (vs := []) (xs := []) relw.sub .nil hD
    obtain ⟨rel2, rrD⟩ := relw.pst pst
    obtain ⟨aD, uD, eD, z2, z3, z4, z5, z6⟩ := rrD.leaf rfl
    cases eD
    rw [upd_same] at z2
    cases z2
    let W : List D → List D → Hp → Prop := fun rest acc H' => ∃ e' G' accV, Rel C (wipe σ own) H' e' G' ∧ Same G1 G' ∧ H' LD = some (.lst accV) ∧ RpL C.K G' accV acc ∧ G' LD = none ∧ NotOwn (wipe σ own) H' e' LD ∧ lcL (lcF c tg ifs el own) rest acc e' = some (ys, ef)
    have step1 : ∀ {σ2 : Sg} {H' G' : Hp} {e' : En} {accV : List V} {acc rest : List D}, wipe σ2 own = wipe σ own → Rel C σ2 H' e' G' → Same G1 G' → H' LD = some (.lst accV) → RpL C.K G' accV acc → G' LD = none → NotOwn σ2 H' e' LD → lcL (lcF c tg ifs el own) rest acc (wipeE e' own) = some (ys, ef) → W rest acc H' := by
      intro σ2 H' G' e' accV acc rest hw r' g' hD' ra gD' no' hl
      refine ⟨wipeE e' own, G', accV, ?_, g', hD', ra, gD', fun i b o d q z => ?_, hl⟩
      · rw [← hw]; exact r'.wiped hio
      · rw [← hw] at z
        exact no' i b o d (wipeE_some q).1 (wipe_some z).1
    refine ⟨fun i m H' => m = xs.length - i ∧ i ≤ xs.length ∧ ∃ acc, W (xs.drop i) acc H', ⟨xs.length, by simp, Nat.zero_le _, [], wipeE e1 own, G1, [], rel2, Same.refl _, upd_same, .nil, z4, z6, h2⟩, ?_⟩
    rintro i m H' ⟨rfl, hi, acc, e', G', accV, r', g', hD', ra, gD', no', hl⟩
    by_cases hlt : i < xs.length
    · right
      have hgo := hJ.go i H' (g'.trans r'.sub) hlt
      obtain ⟨x, rest, hx⟩ : ∃ x rest, xs.drop i = x :: rest := ⟨xs[i], xs.drop (i + 1), by rw [List.drop_eq_getElem_cons hlt]⟩
      have hrest : rest = xs.drop (i + 1) := by
        have := List.drop_eq_getElem_cons hlt
        rw [hx] at this
        injection this
      have hxi : xs[i]? = some x := by
        have := List.drop_eq_getElem_cons hlt
        rw [hx] at this
        injection this with a b
        rw [List.getElem?_eq_getElem hlt, a]
      rw [hx] at hl
      refine ⟨hgo, fun H2 => ∃ acc, W rest acc H2, fun H2 ⟨acc2, w⟩ => ⟨xs.length - (i + 1), by omega, rfl, hlt, acc2, by rw [← hrest]; exact w⟩, fun v H2 hy => ?_⟩
      obtain ⟨rfl, x', hx', hv'⟩ := hJ.yld i H' v H2 (g'.trans r'.sub) hlt hy
      rw [hxi] at hx'; cases hx'
      have rg := r'.guard1 hD' gD' z5 no'
      -- the turn
      have turn : ∃ e3, setTg tg x e' = some e3 ∧ ∃ b e4, tsts c ifs e3 = some (b, e4) ∧ ((b = false ∧ lcL (lcF c tg ifs el own) rest acc (wipeE e4 own) = some (ys, ef)) ∨ (b = true ∧ ∃ r5 e5 y e6, ev c el e4 = some (r5, e5) ∧ fzR r5 e5 = some (y, e6) ∧ acc.length < lim ∧ lcL (lcF c tg ifs el own) rest (acc ++ [y]) (wipeE e6 own) = some (ys, ef))) := by
        have unf : ∀ {o : Option D} {e7 : En}, lcF c tg ifs el own x e' = some (o, e7) → ∃ e3, setTg tg x e' = some e3 ∧ ∃ b e4, tsts c ifs e3 = some (b, e4) ∧ ((b = false ∧ o = none ∧ e7 = wipeE e4 own) ∨ (b = true ∧ ∃ r5 e5 y e6, ev c el e4 = some (r5, e5) ∧ fzR r5 e5 = some (y, e6) ∧ o = some y ∧ e7 = wipeE e6 own)) := by
          intro o e7 hf
          unfold lcF at hf
          rw [Option.bind_eq_some_iff] at hf
          obtain ⟨e3, q1, hf⟩ := hf
          rw [Option.bind_eq_some_iff] at hf
          obtain ⟨⟨b, e4⟩, q2, hf⟩ := hf
          refine ⟨e3, q1, b, e4, q2, ?_⟩
          cases b with
          | false => cases hf; exact .inl ⟨rfl, rfl, rfl⟩
          | true =>
            simp only [Option.bind_eq_some_iff, Option.map_eq_some_iff, Prod.exists] at hf
            obtain ⟨r5, e5, q3, y, e6, q4, q5⟩ := hf
            cases q5
            exact .inr ⟨rfl, r5, e5, y, e6, q3, q4, rfl, rfl⟩
        rcases lcL_cons hl with ⟨e7, hf, hl'⟩ | ⟨y, e7, hf, hlen, hl'⟩
        · obtain ⟨e3, q1, b, e4, q2, q3⟩ := unf hf
          rcases q3 with ⟨q3, _, q5⟩ | ⟨_, r5, e5, y, e6, _, _, q5, _⟩
          · exact ⟨e3, q1, b, e4, q2, .inl ⟨q3, by rw [← q5]; exact hl'⟩⟩
          · cases q5
        · obtain ⟨e3, q1, b, e4, q2, q3⟩ := unf hf
          rcases q3 with ⟨_, q4, _⟩ | ⟨q3, r5, e5, y', e6, q6, q7, q5, q8⟩
          · cases q4
          · cases q5
            exact ⟨e3, q1, b, e4, q2, .inr ⟨q3, r5, e5, y, e6, q6, q7, hlen, by rw [← q8]; exact hl'⟩⟩
      obtain ⟨e3, q1, b, e4, q2, q3⟩ := turn
      refine ⟨C.guard [LD] H2 G', e', G', x, e3, rfl, rg, hv'.mono g', q1, fun σ2 rel3 hw => ?_⟩
      have hw2 : wipe σ2 own = wipe σ own := by rw [hw own htg, wipe_idem]
      refine ⟨hw2, C.guard [LD] H2 G', e3, G', b, e4, rfl, rel3, q2, fun H3 G3 rel4 g3 => ?_⟩
      rcases q3 with ⟨rfl, hl'⟩ | ⟨rfl, r5, e5, y, e6, q4, q5, hlen, hl'⟩
      · refine iteF ⟨acc, ?_⟩
        obtain ⟨w1, w2, w3, w4⟩ := r'.unguard1 hD' z5 gD' rel4 g3
        exact step1 hw2 w1 (g'.trans g3) w2 (ra.mono g3) w3 w4 hl'
      · refine iteT ⟨C.guard [LD] H2 G', e4, G3, r5, e5, rfl, rel4, q4, fun w H4 G4 rel5 g4 rr5 => ?_⟩
        obtain ⟨G5, g5, rel6, p6, _⟩ := rel5.fzR rr5 q5
        have gg : Same G' G5 := (g3.trans g4).trans g5
        obtain ⟨w1, w2, w3, w4⟩ := r'.unguard1 hD' z5 gD' rel6 gg
        refine ⟨accV, w2, by rw [ra.length]; exact hlen, acc ++ [y], ?_⟩
        exact step1 hw2 (w1.updFree w3 z5 w4).1 (g'.trans gg) upd_same ((ra.mono gg).append (.cons p6 .nil)) w3 (w1.updFree w3 z5 w4).2 hl'
    · left
      have hie : i = xs.length := by omega
      subst hie
      rw [List.drop_length] at hl
      unfold lcL at hl
      cases hl
      refine ⟨hJ.stop _ H' (g'.trans r'.sub) (Nat.le_refl _), ?_⟩
      have fin := rel1.unwipe hno r' g'
      refine k _ H' G' fin (g1.trans g') (RR.mkLeaf (u := .lst accV) hD' ra gD' z5 fun j b o d q z => ?_)
      rcases backE_some q with ⟨hj, q⟩ | ⟨hj, q⟩
      · exact absurd q (noOwn_ok hno j hj _ _)
      · exact no' j b o d q (by rw [wipe_get hj]; exact z)
/-! ### displays of dicts -/
theorem zipK : ∀ {ks : List D} {vs : List V} {xs : List D} {K : PySem.W.Frag} {G : Hp}, ks.all isKey = true → RpL K G vs xs → ks.length = xs.length → ∃ kvs : List (Key × V), (ks.map cV).zip vs = kvs.map (fun kv => (kV kv.1, kv.2)) ∧ RpD K G kvs (ks.zip xs)
  | [], _, _, _, _, _, _, _ => ⟨[], by simp, by simpa using RpD.nil⟩
  | k :: ks, _, _, _, _, _, .nil, h => by simp at h
  | k :: ks, _, _, K, G, hk, .cons (v := v) (d := d) r t, h => by
    rw [List.all_cons, Bool.and_eq_true] at hk
    obtain ⟨k0, rfl, e⟩ := isKey_cV hk.1
    obtain ⟨kvs, e1, e2⟩ := zipK hk.2 t (by simpa using h)
    refine ⟨(k0, v) :: kvs, ?_, .cons r e2⟩
    rw [List.map_cons, List.zip_cons_cons, List.map_cons, e, e1]
theorem RpD.merge {K : PySem.W.Frag} {G : Hp} : ∀ {more : List (Key × V)} {ds : List (D × D)}, RpD K G more ds → ∀ {kvs : List (Key × V)} {es : List (D × D)}, RpD K G kvs es → RpD K G (mergeK kvs more) (dMerge es ds)
  | _, _, .nil, _, _, h => h
  | _, _, .cons r t, _, _, h => by
    unfold mergeK dMerge
    rw [List.foldl_cons, List.foldl_cons]
    exact RpD.merge t (RpD.put r h)
theorem dsp_rd {K : PySem.W.Frag} {ks : List D} {ts : Es} {σ : Sg} {H : Hp} {Q : VK} (hl : ks.length = ts.len) (q : rdE K c (.dsp ks ts) σ H Q) : tDisp (dTrs K c ks ts) σ H Q := by
  obtain ⟨C, e, G, r, e9, hK, rel, hv, k⟩ := q
  subst hK
  unfold ev at hv
  simp only [Option.bind_eq_some_iff, Prod.exists] at hv
  obtain ⟨rs, e1, h1, xs, e2, h2, hv⟩ := hv
  split at hv
  case isFalse => cases hv
  rename_i hc
  cases hv
  intro p np
  have pst := Pst.dic0 (K := C.K) rel.sub np
  obtain ⟨rel2, rrD⟩ := rel.pst pst
  obtain ⟨aD, uD, eD, z2, z3, z4, z5, z6⟩ := rrD.leaf rfl
  cases eD
  rw [upd_same] at z2
  cases z2
  have rg := rel2.guard1 upd_same z4 z5 z6
  have hA : rdA C.K c ts σ (upd H p (.dK [])) fun vs H1 => H1 p = some (.dK []) ∧ ∃ e3 G3, Rel C σ H1 e3 G3 ∧ Same G G3 ∧ G3 p = none ∧ NotOwn σ H1 e3 p ∧ e3 = e9 ∧ RpL C.K G3 vs xs := by
    refine ⟨C.guard [p] (upd H p (.dK [])) G, e, G, rs, e1, rfl, rg, h1, fun vs H1 G1 rel3 g1 rr nd => ?_⟩
    obtain ⟨G2, g2, rel4, rl⟩ := rel3.fzs rr nd h2
    obtain ⟨w1, w2, w3, w4⟩ := rel2.unguard1 upd_same z5 z4 rel4 (g1.trans g2)
    exact ⟨w2, e9, G2, w1, g1.trans g2, w3, w4, rfl, rl⟩
  refine tPairs_mono dTrs_are (pairs_rd hl hA) ?_
  rintro ps H3 ⟨vs, rfl, a1, e3, G3, a2, a3, a4, a5, rfl, a6⟩
  obtain ⟨kvs, b1, b2⟩ := zipK hc.2.2 a6 hc.1
  refine ⟨a1, kvs, b1, ?_, ?_⟩
  · rw [b2.length, List.length_zip, ← hc.1, Nat.min_self]; exact hc.2.1
  · exact k _ _ G3 (a2.updFree a4 z5 a5).1 a3 (RR.mkLeaf (u := .dK _) upd_same (RpD.merge b2 .nil) a4 z5 (a2.updFree a4 z5 a5).2)
/-! ### comprehensions of dicts -/
def dcF (c : Cf) (tg : Tg) (ifs : Es) (ke el : Ex) (own : List Nat) (x : D) (e2 : En) : Option (Option (D × D) × En) :=
  (setTg tg x e2).bind fun e3 => (tsts c ifs e3).bind fun (b, e4) => match b with
    | false => some (none, wipeE e4 own)
    | true => (ev c ke e4).bind fun (r, e5) => (fzR r e5).bind fun (y, e6) => (ev c el e6).bind fun (r', e7) => (fzR r' e7).map fun (z, e8) => (some (y, z), wipeE e8 own)
theorem dcL_cons {f : D → En → Option (Option (D × D) × En)} {x : D} {xs : List D} {acc : List (D × D)} {e : En} {z : List (D × D) × En} (h : dcL f (x :: xs) acc e = some z) :
    (∃ e1, f x e = some (none, e1) ∧ dcL f xs acc e1 = some z) ∨ (∃ k y e1, f x e = some (some (k, y), e1) ∧ isKey k = true ∧ acc.length < lim ∧ dcL f xs (dput acc k y) e1 = some z) := by
  unfold dcL at h
  rw [Option.bind_eq_some_iff] at h
  obtain ⟨⟨o, e1⟩, h1, h2⟩ := h
  cases o with
  | none => exact .inl ⟨e1, h1, h2⟩
  | some y =>
    obtain ⟨k, y⟩ := y
    simp only at h2
    split at h2
    · rename_i hl
      rw [Bool.and_eq_true, decide_eq_true_eq] at hl
      exact .inr ⟨k, y, e1, h1, hl.1, hl.2, h2⟩
    · cases h2
theorem dc_rd {K : PySem.W.Frag} {tg : Tg} {it : PL.It} {ifs : Es} {ke el : Ex} {own : List Nat} {σ : Sg} {H : Hp} {Q : VK} (htg : ∀ i ∈ tg.sl, i ∈ own) (q : rdE K c (.dc tg it ifs ke el own) σ H Q) :
    tDc (rdI K c it) (rdG K tg) (rdTs K c ifs) (rdE K c ke) (rdE K c el) own σ H Q := by
  obtain ⟨C, e, G, r, e9, hK, rel, hv, k⟩ := q
  subst hK
  unfold ev at hv
  rw [Option.bind_eq_some_iff] at hv
  obtain ⟨⟨xs, e1⟩, h1, hv⟩ := hv
  simp only at hv
  split at hv
  · cases hv
  · rename_i hno
    rw [Option.map_eq_some_iff] at hv
    obtain ⟨⟨ys, ef⟩, h2, hq⟩ := hv
    cases hq
    have h2 : dcL (dcF c tg ifs ke el own) xs [] (wipeE e1 own) = some (ys, ef) := h2
    refine ⟨C, e, G, xs, e1, rfl, rel, h1, fun J H1 G1 rel1 g1 hJ LD hD => ?_⟩
    have hio := rel1.noio hno
    have relw := rel1.wiped hio
    have pst := Pst.dic0 (K := C.K) relw.sub hD
    obtain ⟨rel2, rrD⟩ := relw.pst pst
    obtain ⟨aD, uD, eD, z2, z3, z4, z5, z6⟩ := rrD.leaf rfl
    cases eD
    rw [upd_same] at z2
    cases z2
    let W : List D → List (D × D) → Hp → Prop := fun rest acc H' => ∃ e' G' accV, Rel C (wipe σ own) H' e' G' ∧ Same G1 G' ∧ H' LD = some (.dK accV) ∧ RpD C.K G' accV acc ∧ G' LD = none ∧ NotOwn (wipe σ own) H' e' LD ∧ dcL (dcF c tg ifs ke el own) rest acc e' = some (ys, ef)
    have step1 : ∀ {σ2 : Sg} {H' G' : Hp} {e' : En} {accV : List (Key × V)} {acc : List (D × D)} {rest : List D}, wipe σ2 own = wipe σ own → Rel C σ2 H' e' G' → Same G1 G' → H' LD = some (.dK accV) → RpD C.K G' accV acc → G' LD = none → NotOwn σ2 H' e' LD → dcL (dcF c tg ifs ke el own) rest acc (wipeE e' own) = some (ys, ef) → W rest acc H' := by
      intro σ2 H' G' e' accV acc rest hw r' g' hD' ra gD' no' hl
      refine ⟨wipeE e' own, G', accV, ?_, g', hD', ra, gD', fun i b o d q z => ?_, hl⟩
      · rw [← hw]; exact r'.wiped hio
      · rw [← hw] at z
        exact no' i b o d (wipeE_some q).1 (wipe_some z).1
    refine ⟨fun i m H' => m = xs.length - i ∧ i ≤ xs.length ∧ ∃ acc, W (xs.drop i) acc H', ⟨xs.length, by simp, Nat.zero_le _, [], wipeE e1 own, G1, [], rel2, Same.refl _, upd_same, .nil, z4, z6, h2⟩, ?_⟩
    rintro i m H' ⟨rfl, hi, acc, e', G', accV, r', g', hD', ra, gD', no', hl⟩
    by_cases hlt : i < xs.length
    · right
      have hgo := hJ.go i H' (g'.trans r'.sub) hlt
      obtain ⟨x, rest, hx⟩ : ∃ x rest, xs.drop i = x :: rest := ⟨xs[i], xs.drop (i + 1), by rw [List.drop_eq_getElem_cons hlt]⟩
      have hrest : rest = xs.drop (i + 1) := by
        have := List.drop_eq_getElem_cons hlt
        rw [hx] at this
        injection this
      have hxi : xs[i]? = some x := by
        have := List.drop_eq_getElem_cons hlt
        rw [hx] at this
        injection this with a b
        rw [List.getElem?_eq_getElem hlt, a]
      rw [hx] at hl
      refine ⟨hgo, fun H2 => ∃ acc, W rest acc H2, fun H2 ⟨acc2, w⟩ => ⟨xs.length - (i + 1), by omega, rfl, hlt, acc2, by rw [← hrest]; exact w⟩, fun v H2 hy => ?_⟩
      obtain ⟨rfl, x', hx', hv'⟩ := hJ.yld i H' v H2 (g'.trans r'.sub) hlt hy
      rw [hxi] at hx'; cases hx'
      have rg := r'.guard1 hD' gD' z5 no'
      have turn : ∃ e3, setTg tg x e' = some e3 ∧ ∃ b e4, tsts c ifs e3 = some (b, e4) ∧ ((b = false ∧ dcL (dcF c tg ifs ke el own) rest acc (wipeE e4 own) = some (ys, ef)) ∨ (b = true ∧ ∃ r5 e5 y e6 r7 e7 z e8, ev c ke e4 = some (r5, e5) ∧ fzR r5 e5 = some (y, e6) ∧ ev c el e6 = some (r7, e7) ∧ fzR r7 e7 = some (z, e8) ∧ isKey y = true ∧ acc.length < lim ∧ dcL (dcF c tg ifs ke el own) rest (dput acc y z) (wipeE e8 own) = some (ys, ef))) := by
        have unf : ∀ {o : Option (D × D)} {e7 : En}, dcF c tg ifs ke el own x e' = some (o, e7) → ∃ e3, setTg tg x e' = some e3 ∧ ∃ b e4, tsts c ifs e3 = some (b, e4) ∧ ((b = false ∧ o = none ∧ e7 = wipeE e4 own) ∨ (b = true ∧ ∃ r5 e5 y e6 r7 e8 z e9, ev c ke e4 = some (r5, e5) ∧ fzR r5 e5 = some (y, e6) ∧ ev c el e6 = some (r7, e8) ∧ fzR r7 e8 = some (z, e9) ∧ o = some (y, z) ∧ e7 = wipeE e9 own)) := by
          intro o e7 hf
          unfold dcF at hf
          rw [Option.bind_eq_some_iff] at hf
          obtain ⟨e3, q1, hf⟩ := hf
          rw [Option.bind_eq_some_iff] at hf
          obtain ⟨⟨b, e4⟩, q2, hf⟩ := hf
          refine ⟨e3, q1, b, e4, q2, ?_⟩
          cases b with
          | false => cases hf; exact .inl ⟨rfl, rfl, rfl⟩
          | true =>
            simp only [Option.bind_eq_some_iff, Option.map_eq_some_iff, Prod.exists] at hf
            obtain ⟨r5, e5, q3, y, e6, q4, r7, e8, q5, z, e9, q6, q7⟩ := hf
            cases q7
            exact .inr ⟨rfl, r5, e5, y, e6, r7, e8, z, e9, q3, q4, q5, q6, rfl, rfl⟩
        rcases dcL_cons hl with ⟨e7, hf, hl'⟩ | ⟨kk, y, e7, hf, hkey, hlen, hl'⟩
        · obtain ⟨e3, q1, b, e4, q2, q3⟩ := unf hf
          rcases q3 with ⟨q3, _, q5⟩ | ⟨_, r5, e5, y, e6, r7, e8, z, e9, _, _, _, _, q5, _⟩
          · exact ⟨e3, q1, b, e4, q2, .inl ⟨q3, by rw [← q5]; exact hl'⟩⟩
          · cases q5
        · obtain ⟨e3, q1, b, e4, q2, q3⟩ := unf hf
          rcases q3 with ⟨_, q4, _⟩ | ⟨q3, r5, e5, y', e6, r7, e8, z', e9, q6, q7, q8, q9, q5, q10⟩
          · cases q4
          · cases q5
            exact ⟨e3, q1, b, e4, q2, .inr ⟨q3, r5, e5, _, e6, r7, e8, _, e9, q6, q7, q8, q9, hkey, hlen, by rw [← q10]; exact hl'⟩⟩
      obtain ⟨e3, q1, b, e4, q2, q3⟩ := turn
      refine ⟨C.guard [LD] H2 G', e', G', x, e3, rfl, rg, hv'.mono g', q1, fun σ2 rel3 hw => ?_⟩
      have hw2 : wipe σ2 own = wipe σ own := by rw [hw own htg, wipe_idem]
      refine ⟨hw2, C.guard [LD] H2 G', e3, G', b, e4, rfl, rel3, q2, fun H3 G3 rel4 g3 => ?_⟩
      rcases q3 with ⟨rfl, hl'⟩ | ⟨rfl, r5, e5, y, e6, r7, e7, z, e8, q4, q5, q6, q7, hkey, hlen, hl'⟩
      · refine iteF ⟨acc, ?_⟩
        obtain ⟨w1, w2, w3, w4⟩ := r'.unguard1 hD' z5 gD' rel4 g3
        exact step1 hw2 w1 (g'.trans g3) w2 (ra.mono g3) w3 w4 hl'
      · refine iteT ⟨C.guard [LD] H2 G', e4, G3, r5, e5, rfl, rel4, q4, fun w H4 G4 rel5 g4 rr5 => ?_⟩
        obtain ⟨G5, g5, rel6, p6, _⟩ := rel5.fzR rr5 q5
        refine ⟨C.guard [LD] H2 G', e6, G5, r7, e7, rfl, rel6, q6, fun w' H6 G6 rel7 g6 rr7 => ?_⟩
        obtain ⟨G7, g7, rel8, p8, _⟩ := rel7.fzR rr7 q7
        have gg : Same G' G7 := (((g3.trans g4).trans g5).trans g6).trans g7
        obtain ⟨w1, w2, w3, w4⟩ := r'.unguard1 hD' z5 gD' rel8 gg
        obtain ⟨k0, rfl, rfl⟩ := isKey_rp hkey p6
        refine ⟨accV, k0, rfl, w2, by rw [ra.length]; exact hlen, dput acc (keyD k0) z, ?_⟩
        exact step1 hw2 (w1.updFree w3 z5 w4).1 (g'.trans gg) upd_same ((ra.mono gg).put p8) w3 (w1.updFree w3 z5 w4).2 hl'
    · left
      have hie : i = xs.length := by omega
      subst hie
      rw [List.drop_length] at hl
      unfold dcL at hl
      cases hl
      refine ⟨hJ.stop _ H' (g'.trans r'.sub) (Nat.le_refl _), ?_⟩
      have fin := rel1.unwipe hno r' g'
      refine k _ H' G' fin (g1.trans g') (RR.mkLeaf (u := .dK accV) hD' ra gD' z5 fun j b o d q z => ?_)
      rcases backE_some q with ⟨hj, q⟩ | ⟨hj, q⟩
      · exact absurd q (noOwn_ok hno j hj _ _)
      · exact no' j b o d q (by rw [wipe_get hj]; exact z)
theorem blk_ok {scope : Scope} {own : List Nat} (ok : XOk P n X sc) (h : chkB X.N sc scope own = true) : BlkOk X.N X.env.scope scope (own.map fun i => (X.N.getD i "", i)) ∧ ∀ (s : Shared) (H : Hp) (C : Addr) (cl : List (Str × Addr)) (fp : List Addr), XOk P n (X.blk s H scope (compEnvC scope cl C X.env) fp) scope.names := by
  unfold chkB at h
  simp only [Bool.and_eq_true, List.all_eq_true, decide_eq_true_eq] at h
  obtain ⟨⟨⟨h1, h2⟩, h3⟩, h4⟩ := h
  have ixN : ∀ {i : Nat} {y : Str}, X.N[i]? = some y → X.N.getD i "" = y := fun {i y} e => by rw [List.getD_eq_getElem?_getD, e]; rfl
  have mem : ∀ y : Str, (own.any fun i => decide (X.N[i]? = some y)) = true → y ∈ (own.map fun i => (X.N.getD i "", i)).map (·.1) := fun y q => by
    obtain ⟨i, hi, q⟩ := List.any_eq_true.mp q
    rw [List.map_map]
    exact List.mem_map.mpr ⟨i, hi, ixN (of_decide_eq_true q)⟩
  refine ⟨⟨h1, h2, fun p hp => ?_, fun y hy e => ?_, fun y hy e => ?_⟩, fun s H C cl fp => ?_⟩
  · obtain ⟨i, hi, rfl⟩ := List.mem_map.mp hp
    have := h3 i hi
    cases q : X.N[i]? with
    | none => rw [q] at this; cases this
    | some y => show some y = some (X.N.getD i ""); rw [ixN q]
  · have := h4 y hy
    simp only [e, Bool.or_eq_true, decide_eq_true_eq] at this
    rcases this with q | q
    · exact .inl (ok.cell _ q).1
    · exact ok.free _ q
  · have := h4 y hy
    rcases e with e | e <;>
    · simp only [e, Bool.or_eq_true, decide_eq_true_eq] at this
      rcases this with q | q
      · exact .inl (mem _ q)
      · exact .inr q
  · have hsc : (compEnvC scope cl C X.env).scope = relS scope X.env.scope := rfl
    have keep : ∀ {x : Str} {k : NameKind}, k ≠ .free → scope.names.lookup x = some k → (compEnvC scope cl C X.env).scope.names.lookup x = some k := fun hk q => by
      rw [hsc]; exact lookup_relS_keep hk q
    refine ⟨ok.calm, ok.nd, ok.room, ok.gd, rfl, fun x q => keep (by decide) q, fun x q => ⟨keep (by decide) q, by show (scope.names.lookup x == some NameKind.cell) = true; rw [q]; rfl⟩, fun x q => ?_, fun x q => keep (by decide) q, ok.fns, ok.blt, ok.glbs⟩
    show (relS scope X.env.scope).names.lookup x = some .cell ∨ (relS scope X.env.scope).names.lookup x = some .free
    have : ∀ {names : List (Str × NameKind)}, names.lookup x = some .free → (names.map fun (n, k) => if (k == NameKind.free && X.env.scope.kind == .function && X.env.scope.names.lookup n == some .cell) then (n, NameKind.cell) else (n, k)).lookup x = some .cell ∨ (names.map fun (n, k) => if (k == NameKind.free && X.env.scope.kind == .function && X.env.scope.names.lookup n == some .cell) then (n, NameKind.cell) else (n, k)).lookup x = some .free := by
      intro names
      induction names with
      | nil => intro q; cases q
      | cons p r ih =>
        obtain ⟨n0, k0⟩ := p
        intro q
        rw [List.lookup_cons] at q
        rw [List.map_cons]
        cases hb : x == n0 with
        | true =>
          rw [hb] at q
          cases q
          by_cases hc : ((NameKind.free == NameKind.free) && X.env.scope.kind == .function && X.env.scope.names.lookup n0 == some .cell) = true
          · left
            show List.lookup x ((if ((NameKind.free == NameKind.free) && X.env.scope.kind == .function && X.env.scope.names.lookup n0 == some .cell) = true then (n0, NameKind.cell) else (n0, .free)) :: _) = _
            rw [if_pos hc, List.lookup_cons, hb]
          · right
            show List.lookup x ((if ((NameKind.free == NameKind.free) && X.env.scope.kind == .function && X.env.scope.names.lookup n0 == some .cell) = true then (n0, NameKind.cell) else (n0, .free)) :: _) = _
            rw [if_neg hc, List.lookup_cons, hb]
        | false =>
          rw [hb] at q
          have e0 : ∀ {p : Str × NameKind}, p.1 = n0 → ∀ l : List (Str × NameKind), List.lookup x (p :: l) = List.lookup x l := fun {p} hp l => by
            obtain ⟨a, b⟩ := p
            cases hp
            rw [List.lookup_cons, hb]
          rw [e0 (p := (if (k0 == NameKind.free && X.env.scope.kind == .function && X.env.scope.names.lookup n0 == some .cell) = true then (n0, NameKind.cell) else (n0, k0))) (by split <;> rfl)]
          exact ih q
    exact this q
end
end PL

/-! PLT: things below an object of one's own. -/
namespace PL
open PySem PySem.Spec
open PyProof.Rows L2
section
variable {C : Co} {σ : Sg} {H G : Hp} {e e1 : En}
def svR : SV → R
  | .d x => .d x
  | .own _ o => .new o
  | .bor _ => .d .none
def svOk : SV → Bool
  | .d _ => true
  | .own b _ => !b
  | .bor _ => false
theorem InNews.cons {H : Hp} {v : V} {vs : List V} {r : R} {rs : List R} {p : Addr} (h : InNews H (v :: vs) (r :: rs) p) : (∃ a o, v = .ref a ∧ r = .new o ∧ p ∈ foot H o a) ∨ InNews H vs rs p := by
  obtain ⟨j, a, o, h1, h2, h3⟩ := h
  cases j with
  | zero => simp at h1 h2; exact .inl ⟨a, o, h1, h2, h3⟩
  | succ j => exact .inr ⟨j, a, o, by simpa using h1, by simpa using h2, h3⟩
theorem InNews.head {H : Hp} {a : Addr} {vs : List V} {o : OD} {rs : List R} {p : Addr} (h : p ∈ foot H o a) : InNews H (.ref a :: vs) (.new o :: rs) p := ⟨0, a, o, rfl, rfl, h⟩
theorem Rel.subs : ∀ {vs : List V} {rs : List R} {ss : List SV} {e e1 : En} {G : Hp}, Rel C σ H e G → Paired (RR C H G σ e) vs rs → NewsD H vs rs → subs rs e = some (ss, e1) →
    ∃ G1, Same G G1 ∧ Rel C σ H e1 G1 ∧ Paired (RR C H G1 σ e1) vs (ss.map svR) ∧ NewsD H vs (ss.map svR) ∧ (∀ s ∈ ss, svOk s = true) ∧ (∀ p, InNews H vs (ss.map svR) p → InNews H vs rs p) ∧ (∀ b, G b = none → NotOwn σ H e b → ¬ InNews H vs rs b → G1 b = none) ∧ (∀ a, NotOwn σ H e a → NotOwn σ H e1 a)
  | _, _, _, _, _, G, h, .nil, _, q => by
    cases q
    exact ⟨G, Same.refl _, h, .nil, NewsD.nil _, fun _ z => absurd z List.not_mem_nil, fun _ z => z, fun _ z _ _ => z, fun _ z => z⟩
  | v :: vs, r :: rs, _, e, e1, G, h, .cons r1 rr, nd, q => by
    unfold PL.subs at q
    simp only [Option.bind_eq_some_iff, Option.map_eq_some_iff, Prod.exists] at q
    obtain ⟨s, e2, q1, ss, e3, q2, q3⟩ := q
    cases q3
    cases r with
    | new o =>
      cases q1
      obtain ⟨a, rfl, h2, h3, h4⟩ := r1
      obtain ⟨G1, g1, k1, k2, k3, k4, k5, k6, k7⟩ := Rel.subs h rr nd.tail q2
      have ng : ∀ p ∈ foot H o a, G1 p = none := fun p hp => k6 p (h4 p hp).1 (h4 p hp).2.2 (nd.head hp)
      refine ⟨G1, g1, k1, .cons ⟨a, rfl, h2.mono g1, h3, fun p hp => ⟨ng p hp, (h4 p hp).2.1, k7 p (h4 p hp).2.2⟩⟩ k2, k3.cons fun p hp z => nd.head hp (k5 p z), fun s hs => ?_, fun p hp => ?_, fun b z1 z2 z3 => ?_, k7⟩
      · rcases List.mem_cons.mp hs with hs | hs
        · rw [hs]; rfl
        · exact k4 s hs
      · rcases hp.cons with ⟨a', o', z1, z2, z3⟩ | z
        · cases z1
          cases z2
          exact InNews.head z3
        · exact (k5 p z).tail
      · exact k6 b z1 z2 fun z => z3 z.tail
    | d x =>
      cases q1
      obtain ⟨G1, g1, k1, k2, k3, k4, k5, k6, k7⟩ := Rel.subs h rr nd.tail q2
      refine ⟨G1, g1, k1, .cons (Rp.mono g1 r1) k2, k3.cons' (fun o z => nomatch z), fun s hs => ?_, fun p hp => ?_, fun b z1 z2 z3 => k6 b z1 z2 fun z => z3 z.tail, k7⟩
      · rcases List.mem_cons.mp hs with hs | hs
        · rw [hs]; rfl
        · exact k4 s hs
      · rcases hp.cons with ⟨a', o', z1, z2, z3⟩ | z
        · cases z2
        · exact (k5 p z).tail
    | slot i =>
      unfold PL.sub at q1
      simp only [Option.map_eq_some_iff, Prod.exists, Prod.mk.injEq] at q1
      obtain ⟨x, e4, q1, rfl, rfl⟩ := q1
      obtain ⟨G1, g1, h1, p1, ng, no⟩ := h.fzR r1 q1
      have rr1 : Paired (RR C H G1 σ e4) vs rs := RRs.mono g1 rr fun p hp k1 k2 _ k4 => ⟨rfl, ng p k2 k4 (fun o a er => nomatch er), no p k4⟩
      obtain ⟨G2, g2, k1, k2, k3, k4, k5, k6, k7⟩ := Rel.subs h1 rr1 nd.tail q2
      refine ⟨G2, g1.trans g2, k1, .cons (p1.mono g2) k2, k3.cons' (fun o z => nomatch z), fun s hs => ?_, fun p hp => ?_, fun b z1 z2 z3 => k6 b (ng b z1 z2 fun o a er => nomatch er) (no b z2) fun z => z3 z.tail, fun a z => k7 a (no a z)⟩
      · rcases List.mem_cons.mp hs with hs | hs
        · rw [hs]; rfl
        · exact k4 s hs
      · rcases hp.cons with ⟨a', o', z1, z2, z3⟩ | z
        · cases z2
        · exact (k5 p z).tail
/-- a slot's own object leaves -/
theorem Rel.drop {i : Nat} {o : OD} {v : V} (h : Rel C σ H e G) (q : e[i]? = some (some (.own false o))) (hv : σ[i]? = some (some v)) : Rel C σ H (e.set i none) G ∧ RR C H G σ (e.set i none) v (.new o) := by
  obtain ⟨a, h1, h2, h3, h4, h5⟩ := h.own i _ _ q
  rw [hv] at h1; cases h1
  refine ⟨{ sub := h.sub, gold := h.gold, old := h.old, dom := h.dom, rok := h.rok, gnew := h.gnew, len := by rw [List.length_set]; exact h.len, bok := h.bok
            dat := fun j x z => ?_, own := fun j b o' z => ?_, sep := fun j k c c' b b' o1 o2 p z1 z2 => ?_, bor := fun j o' z => ?_, iok := fun j c z => ?_ }, a, rfl, h2, h3, fun p hp => ⟨(h4 p hp).1, ?_, fun j b o' c z w hf => ?_⟩⟩
  · rcases get_set_cases z with ⟨_, z⟩ | ⟨_, z⟩
    · cases z
    · exact h.dat j x z
  · rcases get_set_cases z with ⟨_, z⟩ | ⟨_, z⟩
    · cases z
    · exact h.own j b o' z
  · rcases get_set_cases z1 with ⟨_, z1⟩ | ⟨_, z1⟩
    · cases z1
    · rcases get_set_cases z2 with ⟨_, z2⟩ | ⟨_, z2⟩
      · cases z2
      · exact h.sep j k c c' _ _ _ _ p z1 z2
  · rcases get_set_cases z with ⟨_, z⟩ | ⟨_, z⟩
    · cases z
    · exact h.bor j o' z
  · obtain ⟨⟨o', k1⟩, k2⟩ := h.iok j c z
    have hj : i ≠ j := fun w => by subst w; rw [q] at k1; cases k1
    exact ⟨⟨o', by rw [List.getElem?_set_ne hj]; exact k1⟩, k2⟩
  · rcases (h4 p hp).2 with z | z
    · exact z
    · cases z.1
  · rcases get_set_cases z with ⟨_, z⟩ | ⟨hj, z⟩
    · cases z
    · exact hj (h.sep i j a c _ _ _ _ p q z hv w hp hf)
theorem RRs.news {vs : List V} {rs : List R} (rr : Paired (RR C H G σ e) vs rs) {p : Addr} (h : InNews H vs rs p) : G p = none ∧ C.H0 p = none ∧ NotOwn σ H e p := by
  obtain ⟨j, a, o, h1, h2, h3⟩ := h
  obtain ⟨r, q1, q2⟩ := Paired.get rr h1
  rw [h2] at q1; cases q1
  obtain ⟨b, z1, _, _, z4⟩ := q2
  cases z1
  exact z4 p h3
theorem Rel.mvs : ∀ {vs : List V} {rs : List R} {ss : List SV} {e e1 : En}, Rel C σ H e G → Paired (RR C H G σ e) vs rs → NewsD H vs rs → mvs rs e = some (ss, e1) →
    Rel C σ H e1 G ∧ Paired (RR C H G σ e1) vs (ss.map svR) ∧ NewsD H vs (ss.map svR) ∧ (∀ s ∈ ss, svOk s = true) ∧ (∀ p, InNews H vs (ss.map svR) p → InNews H vs rs p ∨ ¬ NotOwn σ H e p) ∧ (∀ p, NotOwn σ H e p → NotOwn σ H e1 p)
  | _, _, _, _, _, h, .nil, _, q => by
    cases q
    exact ⟨h, .nil, NewsD.nil _, fun _ z => absurd z List.not_mem_nil, fun _ z => .inl z, fun _ z => z⟩
  | v :: vs, r :: rs, _, e, e1, h, .cons r1 rr, nd, q => by
    unfold PL.mvs at q
    simp only [Option.bind_eq_some_iff, Option.map_eq_some_iff, Prod.exists] at q
    obtain ⟨s, e2, q1, ss, e3, q2, q3⟩ := q
    cases q3
    cases r with
    | new o =>
      cases q1
      obtain ⟨a, rfl, h2, h3, h4⟩ := r1
      obtain ⟨k1, k2, k3, k4, k5, k6⟩ := Rel.mvs h rr nd.tail q2
      refine ⟨k1, .cons ⟨a, rfl, h2, h3, fun p hp => ⟨(h4 p hp).1, (h4 p hp).2.1, k6 p (h4 p hp).2.2⟩⟩ k2, k3.cons fun p hp z => ?_, fun s hs => ?_, fun p hp => ?_, k6⟩
      · rcases k5 p z with w | w
        · exact nd.head hp w
        · exact w (h4 p hp).2.2
      · rcases List.mem_cons.mp hs with hs | hs
        · rw [hs]; rfl
        · exact k4 s hs
      · rcases hp.cons with ⟨a', o', z1, z2, z3⟩ | z
        · cases z1
          cases z2
          exact .inl (InNews.head z3)
        · exact (k5 p z).imp InNews.tail id
    | d x =>
      cases q1
      obtain ⟨k1, k2, k3, k4, k5, k6⟩ := Rel.mvs h rr nd.tail q2
      refine ⟨k1, .cons r1 k2, k3.cons' (fun o z => nomatch z), fun s hs => ?_, fun p hp => ?_, k6⟩
      · rcases List.mem_cons.mp hs with hs | hs
        · rw [hs]; rfl
        · exact k4 s hs
      · rcases hp.cons with ⟨a', o', z1, z2, z3⟩ | z
        · cases z2
        · exact (k5 p z).imp InNews.tail id
    | slot i =>
      have hs : σ[i]? = some (some v) := r1
      unfold PL.mv at q1
      simp only at q1
      split at q1
      · rename_i x hx
        cases q1
        obtain ⟨w, z1, z2⟩ := h.dat i x hx
        rw [hs] at z1; cases z1
        obtain ⟨k1, k2, k3, k4, k5, k6⟩ := Rel.mvs h rr nd.tail q2
        refine ⟨k1, .cons z2 k2, k3.cons' (fun o z => nomatch z), fun s hs => ?_, fun p hp => ?_, k6⟩
        · rcases List.mem_cons.mp hs with hs | hs
          · rw [hs]; rfl
          · exact k4 s hs
        · rcases hp.cons with ⟨a', o', z1, z2, z3⟩ | z
          · cases z2
          · exact (k5 p z).imp InNews.tail id
      · rename_i o ho
        cases q1
        obtain ⟨d1, d2⟩ := h.drop ho hs
        obtain ⟨a, rfl, h2, h3, h4⟩ := d2
        have sub : ∀ p, NotOwn σ H e p → NotOwn σ H (e.set i none) p := fun p hn j b o' c q w => by
          rcases get_set_cases q with ⟨_, z⟩ | ⟨_, z⟩
          · cases z
          · exact hn j b o' c z w
        have inn : ∀ p ∈ foot H o a, ¬ NotOwn σ H e p := fun p hp hn => hn i false o a ho hs hp
        have rr1 : Paired (RR C H G σ (e.set i none)) vs rs := RRs.mono (Same.refl _) rr fun p hp k1 k2 _ k4 => ⟨rfl, k2, sub p k4⟩
        obtain ⟨k1, k2, k3, k4, k5, k6⟩ := Rel.mvs d1 rr1 nd.tail q2
        refine ⟨k1, .cons ⟨a, rfl, h2, h3, fun p hp => ⟨(h4 p hp).1, (h4 p hp).2.1, k6 p (h4 p hp).2.2⟩⟩ k2, k3.cons fun p hp z => ?_, fun s hs => ?_, fun p hp => ?_, fun p hp => k6 p (sub p hp)⟩
        · rcases k5 p z with w | w
          · exact inn p hp (RRs.news rr w).2.2
          · exact w (h4 p hp).2.2
        · rcases List.mem_cons.mp hs with hs | hs
          · rw [hs]; rfl
          · exact k4 s hs
        · rcases hp.cons with ⟨a', o', z1, z2, z3⟩ | z
          · cases z1
            cases z2
            exact .inr (inn p z3)
          · exact (k5 p z).imp InNews.tail fun w y => w (sub p y)
      · cases q1
/-! ### a new one is made of them -/
theorem nodKids : ∀ {vs : List V} {ss : List SV}, Paired (RR C H G σ e) vs (ss.map svR) → NewsD H vs (ss.map svR) → (∀ s ∈ ss, svOk s = true) →
    Stds C.K G H (ss.map tvOf) vs ∧ (feet H (ss.map tvOf) vs).Nodup ∧ ∀ q ∈ feet H (ss.map tvOf) vs, InNews H vs (ss.map svR) q ∧ G q = none ∧ C.H0 q = none ∧ NotOwn σ H e q
  | [], [], _, _, _ => by
    refine ⟨by unfold Stds; rfl, by unfold feet; exact List.nodup_nil, fun q hq => ?_⟩
    unfold feet at hq
    exact absurd hq List.not_mem_nil
  | v :: vs, s :: ss, .cons r1 rr, nd, ok => by
    obtain ⟨h1, h2, h3⟩ := nodKids rr nd.tail fun s hs => ok s (List.mem_cons_of_mem _ hs)
    have oks := ok s List.mem_cons_self
    cases s with
    | d x =>
      refine ⟨by rw [List.map_cons]; unfold Stds; exact ⟨v, vs, rfl, by unfold tvOf Std1; exact r1, h1⟩, ?_, fun q hq => ?_⟩
      · rw [List.map_cons]; unfold feet tvOf foot1; exact h2
      · have hq : q ∈ feet H (ss.map tvOf) vs := by rw [List.map_cons] at hq; unfold feet tvOf foot1 at hq; exact hq
        exact ⟨(h3 q hq).1.tail, (h3 q hq).2⟩
    | bor o => cases oks
    | own b o =>
      obtain ⟨a, rfl, z2, z3, z4⟩ := r1
      have fe : feet H ((SV.own b o :: ss).map tvOf) (.ref a :: vs) = foot H o a ++ feet H (ss.map tvOf) vs := by
        show feet H (.own o :: ss.map tvOf) (.ref a :: vs) = _
        rw [feet, foot1]
      refine ⟨by rw [List.map_cons]; unfold Stds; exact ⟨_, vs, rfl, by unfold tvOf Std1; exact ⟨a, rfl, z2⟩, h1⟩, ?_, fun q hq => ?_⟩
      · rw [fe, List.nodup_append]
        exact ⟨z3, h2, fun x hx y hy e => nd.head hx (by rw [e]; exact (h3 y hy).1)⟩
      · rw [fe] at hq
        rcases List.mem_append.mp hq with hq | hq
        · exact ⟨InNews.head hq, z4 q hq⟩
        · exact ⟨(h3 q hq).1.tail, (h3 q hq).2⟩
  | [], _ :: _, h, _, _ => nomatch h
  | _ :: _, [], h, _, _ => nomatch h
theorem nod_new {vs : List V} {ss : List SV} {p : Addr} {u : HO} {k : NK} (h : Rel C σ H e G) (rr : Paired (RR C H G σ e) vs (ss.map svR)) (nd : NewsD H vs (ss.map svR)) (ok : ∀ s ∈ ss, svOk s = true) (np : H p = none) (hu : kidsV u = vs) (he : extraA u = []) (hk : NkOk C.K (upd H p u) p k u) :
    Rel C σ (upd H p u) e G ∧ RR C (upd H p u) G σ e (.ref p) (.new (.nod k (ss.map tvOf))) := by
  obtain ⟨h1, h2, h3⟩ := nodKids rr nd ok
  have gp := Same.none h.sub np
  have hno : NotOwn σ H e p := fun i b o a q w hf => by
    obtain ⟨d, z1, z2, _⟩ := h.own i b o q
    rw [w] at z1; cases z1
    obtain ⟨x, hx⟩ := z2.ex p hf
    rw [np] at hx; cases hx
  have pn : p ∉ feet H (ss.map tvOf) vs := fun z => by
    obtain ⟨x, hx⟩ := h1.ex p z
    rw [np] at hx; cases hx
  have loc : ∀ q ∈ feet H (ss.map tvOf) vs, upd H p u q = H q := fun q hq => upd_ne fun z => pn (z ▸ hq)
  obtain ⟨r1, r2⟩ := h.updFree (u := u) gp (h.h0 np) hno
  have fe : foot (upd H p u) (.nod k (ss.map tvOf)) p = p :: feet H (ss.map tvOf) vs := by
    unfold foot
    rw [upd_same]
    show p :: (extraA u ++ feet (upd H p u) (ss.map tvOf) (kidsV u)) = _
    rw [he, hu, feet_loc _ _ loc]
    rfl
  refine ⟨r1, p, rfl, ?_, by rw [fe]; exact List.nodup_cons.mpr ⟨pn, h2⟩, fun q hq => ?_⟩
  · unfold Std
    exact ⟨u, upd_same, hk, by rw [hu]; exact h1.loc loc⟩
  · rw [fe] at hq
    rcases List.mem_cons.mp hq with rfl | hq
    · exact ⟨gp, h.h0 np, r2⟩
    · obtain ⟨_, z2, z3, z4⟩ := h3 q hq
      refine ⟨z2, z3, fun i b o a y w hf => ?_⟩
      obtain ⟨d, x1, x2, _⟩ := h.own i b o y
      rw [w] at x1; cases x1
      have l : ∀ q ∈ foot H o a, upd H p u q = H q := fun q hq => upd_ne fun z => hno i b o a y w (z ▸ hq)
      rw [foot_loc o a l] at hf
      exact z4 i b o a y w hf
/-! ### borrowed for a while -/
def Co.borrow (C : Co) (i : Nat) (o : OD) (a : Addr) (H G : Hp) : Co := { K := C.K, H0 := ov (foot H o a) H C.H0, G0 := G, io := fun j => if j = i then none else C.io j, reg := fun j p => C.reg j p ∧ p ∉ foot H o a, bo := fun j => if j = i then some (o, a) else C.bo j }
theorem Rel.borrow {i : Nat} {b : Bool} {o : OD} {a : Addr} (h : Rel C σ H e G) (he : e[i]? = some (some (.own b o))) (hs : σ[i]? = some (some (.ref a))) : Rel (C.borrow i o a H G) σ H (e.set i (some (.bor o))) G := by
  obtain ⟨a', z1, z2, z3, z4, z5⟩ := h.own i b o he
  rw [hs] at z1; cases z1
  have other : ∀ (j : Nat) b' o' d p, i ≠ j → e[j]? = some (some (.own b' o')) → σ[j]? = some (some (.ref d)) → p ∈ foot H o' d → p ∉ foot H o a := fun j b' o' d p hj q w hp hf => hj (h.sep i j a d _ _ _ _ p he q hs w hf hp)
  exact
  { sub := h.sub, gold := Same.refl _, len := by rw [List.length_set]; exact h.len, gnew := fun p x q => .inl q
    old := fun p x q hr => by
      have q' : ov (foot H o a) H C.H0 p = some x := q
      by_cases hp : p ∈ foot H o a
      · rw [ov_in hp] at q'; exact q'
      · rw [ov_out hp] at q'; exact h.old p x q' fun ⟨j, z⟩ => hr ⟨j, z, hp⟩
    dom := fun p q => by
      have q' : ov (foot H o a) H C.H0 p ≠ none := q
      by_cases hp : p ∈ foot H o a
      · rw [ov_in hp] at q'; exact q'
      · rw [ov_out hp] at q'; exact h.dom p q'
    rok := fun p ⟨j, z, hp⟩ => by
      show ov (foot H o a) H C.H0 p ≠ none
      rw [ov_out hp]; exact h.rok p ⟨j, z⟩
    dat := fun j x q => by
      rcases get_set_cases q with ⟨_, z⟩ | ⟨_, z⟩
      · cases z
      · exact h.dat j x z
    own := fun j b' o' q => by
      rcases get_set_cases q with ⟨_, z⟩ | ⟨hj, z⟩
      · cases z
      · obtain ⟨d, w1, w2, w3, w4, w5⟩ := h.own j b' o' z
        refine ⟨d, w1, w2, w3, fun p hp => ?_, fun hb => ?_⟩
        · have np := other j b' o' d p hj z w1 hp
          refine ⟨(w4 p hp).1, ?_⟩
          show ov (foot H o a) H C.H0 p = none ∨ (b' = true ∧ C.reg j p ∧ p ∉ foot H o a)
          rw [ov_out np]
          exact (w4 p hp).2.imp id fun y => ⟨y.1, y.2, np⟩
        · show (if j = i then none else C.io j) = some d
          rw [if_neg (Ne.symm hj)]; exact w5 hb
    sep := fun j k c c' b1 b2 o1 o2 p q1 q2 => by
      rcases get_set_cases q1 with ⟨_, y⟩ | ⟨_, y⟩
      · cases y
      · rcases get_set_cases q2 with ⟨_, y'⟩ | ⟨_, y'⟩
        · cases y'
        · exact h.sep j k c c' _ _ _ _ p y y'
    bor := fun j o' q => by
      rcases get_set_cases q with ⟨rfl, z⟩ | ⟨hj, z⟩
      · cases z
        exact ⟨a, by show (if i = i then some (o, a) else C.bo i) = _; rw [if_pos rfl], hs⟩
      · obtain ⟨d, w1, w2⟩ := h.bor j o' z
        exact ⟨d, by show (if j = i then some (o, a) else C.bo j) = _; rw [if_neg (Ne.symm hj)]; exact w1, w2⟩
    bok := fun j o' d q => by
      have q' : (if j = i then some (o, a) else C.bo j) = some (o', d) := q
      split at q'
      · cases q'
        have l : ∀ p ∈ foot H o a, ov (foot H o a) H C.H0 p = H p := fun p hp => ov_in hp
        have fe := foot_loc o a l
        refine ⟨z2.loc l, fun p hp => ?_⟩
        have hp' : p ∈ foot H o a := by rw [← fe]; exact hp
        exact ⟨fun ⟨_, _, z⟩ => z hp', (z4 p hp').1⟩
      · obtain ⟨w1, w2⟩ := h.bok j o' d q'
        have np : ∀ p ∈ foot C.H0 o' d, p ∉ foot H o a := fun p hp hf => by
          obtain ⟨u, hu⟩ := w1.ex p hp
          rcases (z4 p hf).2 with y | y
          · rw [hu] at y; cases y
          · exact (w2 p hp).1 ⟨i, y.2⟩
        have l : ∀ p ∈ foot C.H0 o' d, ov (foot H o a) H C.H0 p = C.H0 p := fun p hp => ov_out (np p hp)
        have fe := foot_loc o' d l
        refine ⟨(w1.mono h.gold).loc l, fun p hp => ?_⟩
        have hp' : p ∈ foot C.H0 o' d := by rw [← fe]; exact hp
        refine ⟨fun ⟨k, y, _⟩ => (w2 p hp').1 ⟨k, y⟩, ?_⟩
        show G p = none
        cases qg : G p with
        | none => rfl
        | some x =>
          obtain ⟨u, hu⟩ := w1.ex p hp'
          rcases h.gnew p x qg with y | y | y
          · rw [(w2 p hp').2] at y; cases y
          · rw [hu] at y; cases y
          · exact absurd y (w2 p hp').1
    iok := fun j d q => by
      have q' : (if j = i then none else C.io j) = some d := q
      split at q'
      · cases q'
      · rename_i hj
        obtain ⟨⟨o', w1⟩, w2⟩ := h.iok j d q'
        exact ⟨⟨o', by rw [List.getElem?_set_ne (Ne.symm hj)]; exact w1⟩, w2⟩ }
theorem Rel.unborrow {i : Nat} {b : Bool} {o o' : OD} {a : Addr} {σ2 : Sg} {H2 G2 : Hp} {e2 : En} (h : Rel C σ H e G) (he : e[i]? = some (some (.own b o))) (hs : σ[i]? = some (some (.ref a))) (h2 : Rel (C.borrow i o a H G) σ2 H2 e2 G2) (g2 : Same G G2) (hb : e2[i]? = some (some (.bor o'))) :
    o' = o ∧ σ2[i]? = some (some (.ref a)) ∧ (∀ p ∈ foot H o a, H2 p = H p) ∧ Rel C σ2 H2 (e2.set i (some (.own b o))) G2 := by
  obtain ⟨a', z1, z2, z3, z4, z5⟩ := h.own i b o he
  rw [hs] at z1; cases z1
  obtain ⟨d, y1, y2⟩ := h2.bor i o' hb
  have y1' : (if i = i then some (o, a) else C.bo i) = some (o', d) := y1
  rw [if_pos rfl] at y1'
  cases y1'
  have hH : ∀ p ∈ foot H o a, H2 p = H p := fun p hp => by
    obtain ⟨u, hu⟩ := z2.ex p hp
    rw [hu]
    exact h2.old p u (show ov (foot H o a) H C.H0 p = some u by rw [ov_in hp]; exact hu) fun ⟨_, _, z⟩ => z hp
  have fe := foot_loc o a hH
  have hG : ∀ p ∈ foot H o a, G2 p = none := fun p hp => by
    cases q : G2 p with
    | none => rfl
    | some x =>
      obtain ⟨u, hu⟩ := z2.ex p hp
      rcases h2.gnew p x q with w | w | w
      · have w' : G p = some x := w
        rw [(z4 p hp).1] at w'; cases w'
      · have w' : ov (foot H o a) H C.H0 p = none := w
        rw [ov_in hp, hu] at w'; cases w'
      · obtain ⟨_, _, z⟩ := w
        exact absurd hp z
  have apart : ∀ (j : Nat) b' o' c p, e2[j]? = some (some (.own b' o')) → σ2[j]? = some (some (.ref c)) → p ∈ foot H2 o' c → p ∉ foot H o a := fun j b' o' c p q w hp hf => by
    obtain ⟨c', x1, x2, x3, x4, x5⟩ := h2.own j b' o' q
    rw [w] at x1; cases x1
    rcases (x4 p hp).2 with v | v
    · have v' : ov (foot H o a) H C.H0 p = none := v
      obtain ⟨u, hu⟩ := z2.ex p hf
      rw [ov_in hf, hu] at v'; cases v'
    · exact v.2.2 hf
  refine ⟨rfl, y2, hH, ?_⟩
  exact
  { sub := h2.sub, gold := h.gold.trans g2, len := by rw [List.length_set]; exact h2.len, rok := h.rok, bok := h.bok
    old := fun p x q hr => by
      have hp : p ∉ foot H o a := fun z => by
        rcases (z4 p z).2 with w | w
        · rw [w] at q; cases q
        · exact hr ⟨_, w.2⟩
      exact h2.old p x (show ov (foot H o a) H C.H0 p = some x by rw [ov_out hp]; exact q) fun ⟨j, z, _⟩ => hr ⟨j, z⟩
    dom := fun p q => by
      refine h2.dom p (show ov (foot H o a) H C.H0 p ≠ none from ?_)
      by_cases hp : p ∈ foot H o a
      · obtain ⟨u, hu⟩ := z2.ex p hp
        rw [ov_in hp, hu]; exact fun z => nomatch z
      · rw [ov_out hp]; exact q
    gnew := fun p x q => by
      rcases h2.gnew p x q with w | w | w
      · exact h.gnew p x w
      · have w' : ov (foot H o a) H C.H0 p = none := w
        by_cases hp : p ∈ foot H o a
        · obtain ⟨u, hu⟩ := z2.ex p hp
          rw [ov_in hp, hu] at w'; cases w'
        · rw [ov_out hp] at w'; exact .inr (.inl w')
      · obtain ⟨j, z, _⟩ := w
        exact .inr (.inr ⟨j, z⟩)
    dat := fun j x q => by
      rcases get_set_cases q with ⟨_, z⟩ | ⟨_, z⟩
      · cases z
      · exact h2.dat j x z
    own := fun j b' o' q => by
      rcases get_set_cases q with ⟨rfl, z⟩ | ⟨hj, z⟩
      · cases z
        exact ⟨a, y2, (z2.mono g2).loc hH, by rw [fe]; exact z3, fun p hp => by rw [fe] at hp; exact ⟨hG p hp, (z4 p hp).2⟩, z5⟩
      · obtain ⟨c, x1, x2, x3, x4, x5⟩ := h2.own j b' o' z
        refine ⟨c, x1, x2, x3, fun p hp => ⟨(x4 p hp).1, ?_⟩, fun hb' => ?_⟩
        · have np := apart j b' o' c p z x1 hp
          rcases (x4 p hp).2 with v | v
          · have v' : ov (foot H o a) H C.H0 p = none := v
            rw [ov_out np] at v'; exact .inl v'
          · exact .inr ⟨v.1, v.2.1⟩
        · have v : (if j = i then none else C.io j) = some c := x5 hb'
          rw [if_neg (Ne.symm hj)] at v; exact v
    sep := fun j k c c' b1 b2 o1 o2 p q1 q2 q3 q4 q5 q6 => by
      rcases get_set_cases q1 with ⟨rfl, y⟩ | ⟨hj, y⟩
      · cases y
        rw [y2] at q3; cases q3
        rw [fe] at q5
        rcases get_set_cases q2 with ⟨rfl, y'⟩ | ⟨hk, y'⟩
        · rfl
        · exact absurd q5 (apart k b2 o2 c' p y' q4 q6)
      · rcases get_set_cases q2 with ⟨rfl, y'⟩ | ⟨hk, y'⟩
        · cases y'
          rw [y2] at q4; cases q4
          rw [fe] at q6
          exact absurd q6 (apart j b1 o1 c p y q3 q5)
        · exact h2.sep j k c c' _ _ _ _ p y y' q3 q4 q5 q6
    bor := fun j o' q => by
      rcases get_set_cases q with ⟨_, z⟩ | ⟨hj, z⟩
      · cases z
      · obtain ⟨c, x1, x2⟩ := h2.bor j o' z
        have x1' : (if j = i then some (o, a) else C.bo j) = some (o', c) := x1
        rw [if_neg (Ne.symm hj)] at x1'
        exact ⟨c, x1', x2⟩
    iok := fun j c q => by
      by_cases hj : i = j
      · subst hj
        obtain ⟨⟨o', w1⟩, w2⟩ := h.iok i c q
        rw [he] at w1
        cases w1
        rw [hs] at w2
        cases w2
        exact ⟨⟨o, get_set_self hb⟩, y2⟩
      · obtain ⟨⟨o', w1⟩, w2⟩ := h2.iok j c (show (if j = i then none else C.io j) = some c by rw [if_neg (Ne.symm hj)]; exact q)
        exact ⟨⟨o', by rw [List.getElem?_set_ne hj]; exact w1⟩, w2⟩ }
/-! ### a thing below changes, or stays as data -/
theorem Stds.get {K : PySem.W.Frag} : ∀ {ts : List TV} {vs : List V} {j : Nat} {t : TV}, Stds K G H ts vs → ts[j]? = some t → ∃ v, vs[j]? = some v ∧ Std1 K G H t v ∧ ∀ p ∈ foot1 H t v, p ∈ feet H ts vs
  | [], _, _, _, _, q => by simp at q
  | t :: ts, vs, j, t', h, q => by
    unfold Stds at h
    obtain ⟨w, ws, rfl, h1, h2⟩ := h
    have fe : feet H (t :: ts) (w :: ws) = foot1 H t w ++ feet H ts ws := by rw [feet]
    cases j with
    | zero =>
      simp at q
      subst q
      exact ⟨w, rfl, h1, fun p hp => by rw [fe]; exact List.mem_append_left _ hp⟩
    | succ j =>
      obtain ⟨v, z1, z2, z3⟩ := Stds.get (j := j) h2 (by simpa using q)
      exact ⟨v, by simpa using z1, z2, fun p hp => by rw [fe]; exact List.mem_append_right _ (z3 p hp)⟩
theorem Stds.len {K : PySem.W.Frag} : ∀ {ts : List TV} {vs : List V}, Stds K G H ts vs → vs.length = ts.length
  | [], _, h => by unfold Stds at h; subst h; rfl
  | t :: ts, vs, h => by
    unfold Stds at h
    obtain ⟨w, ws, rfl, h1, h2⟩ := h
    rw [List.length_cons, List.length_cons, Stds.len h2]
/-- a leaf below is rewritten -/
theorem Stds.setKid {K : PySem.W.Frag} {o1 o2 : OD} {b : Addr} {u : HO} (hl : o1.leaf = true) (hu : ObR K G u o2) : ∀ {ts : List TV} {vs : List V} {j : Nat}, Stds K G H ts vs → (feet H ts vs).Nodup → ts[j]? = some (.own o1) → vs[j]? = some (.ref b) →
    Stds K G (upd H b u) (ts.set j (.own o2)) vs ∧ feet (upd H b u) (ts.set j (.own o2)) vs = feet H ts vs
  | [], _, _, _, _, q, _ => by simp at q
  | t :: ts, vs, j, h, nd, q1, q2 => by
    unfold Stds at h
    obtain ⟨w, ws, rfl, h1, h2⟩ := h
    have fe : feet H (t :: ts) (w :: ws) = foot1 H t w ++ feet H ts ws := by rw [feet]
    rw [fe, List.nodup_append] at nd
    obtain ⟨nd1, nd2, nd3⟩ := nd
    cases j with
    | zero =>
      simp at q1 q2
      subst q1 q2
      have f1 : foot1 H (.own o1) (.ref b) = [b] := by rw [foot1]; exact foot_leaf hl
      have f2 : foot1 (upd H b u) (.own o2) (.ref b) = [b] := by rw [foot1]; exact foot_leaf hu.leaf
      have l : ∀ p ∈ feet H ts ws, upd H b u p = H p := fun p hp => upd_ne fun z => nd3 b (by rw [f1]; exact List.mem_cons_self) p hp z.symm
      refine ⟨?_, ?_⟩
      · rw [List.set_cons_zero]; unfold Stds
        exact ⟨_, ws, rfl, by unfold Std1; exact ⟨b, rfl, hu.std upd_same⟩, h2.loc l⟩
      · rw [List.set_cons_zero, feet, fe, f1, f2, feet_loc ts ws l]
    | succ j =>
      have q1 : ts[j]? = some (.own o1) := by simpa using q1
      have q2 : ws[j]? = some (.ref b) := by simpa using q2
      obtain ⟨z1, z2⟩ := Stds.setKid hl hu h2 nd2 q1 q2
      obtain ⟨v, y1, y2, y3⟩ := h2.get q1
      rw [q2] at y1; cases y1
      have mb : b ∈ feet H ts ws := y3 b (by rw [foot1]; exact root_mem H o1 b)
      have l : ∀ p ∈ foot1 H t w, upd H b u p = H p := fun p hp => upd_ne fun z => nd3 p hp b mb z
      refine ⟨?_, ?_⟩
      · rw [List.set_cons_succ]; unfold Stds
        exact ⟨w, ws, rfl, h1.loc l, z1⟩
      · rw [List.set_cons_succ, feet, fe, z2, foot1_loc t w l]
/-- a thing below stays as data -/
theorem Stds.fzKid {K : PySem.W.Frag} {o1 : OD} {b : Addr} {G1 : Hp} (g : Same G G1) (hr : Rp K G1 (.ref b) o1.toD) : ∀ {ts : List TV} {vs : List V} {j : Nat}, Stds K G H ts vs → (feet H ts vs).Nodup → ts[j]? = some (.own o1) → vs[j]? = some (.ref b) →
    Stds K G1 H (ts.set j (.d o1.toD)) vs ∧ (feet H (ts.set j (.d o1.toD)) vs).Nodup ∧ ∀ p ∈ feet H (ts.set j (.d o1.toD)) vs, p ∈ feet H ts vs ∧ p ∉ foot H o1 b
  | [], _, _, _, _, q, _ => by simp at q
  | t :: ts, vs, j, h, nd, q1, q2 => by
    unfold Stds at h
    obtain ⟨w, ws, rfl, h1, h2⟩ := h
    have fe : feet H (t :: ts) (w :: ws) = foot1 H t w ++ feet H ts ws := by rw [feet]
    rw [fe, List.nodup_append] at nd
    obtain ⟨nd1, nd2, nd3⟩ := nd
    cases j with
    | zero =>
      simp at q1 q2
      subst q1 q2
      have f1 : foot1 H (.own o1) (.ref b) = foot H o1 b := by rw [foot1]
      have f2 : feet H (.d o1.toD :: ts) (.ref b :: ws) = feet H ts ws := by rw [feet, foot1]; rfl
      refine ⟨?_, ?_, fun p hp => ?_⟩
      · rw [List.set_cons_zero]; unfold Stds
        exact ⟨_, ws, rfl, by unfold Std1; exact hr, h2.mono g⟩
      · rw [List.set_cons_zero, f2]; exact nd2
      · rw [List.set_cons_zero, f2] at hp
        exact ⟨by rw [fe]; exact List.mem_append_right _ hp, fun z => nd3 p (by rw [f1]; exact z) p hp rfl⟩
    | succ j =>
      have q1 : ts[j]? = some (.own o1) := by simpa using q1
      have q2 : ws[j]? = some (.ref b) := by simpa using q2
      obtain ⟨z1, z2, z3⟩ := Stds.fzKid g hr h2 nd2 q1 q2
      obtain ⟨v, y1, y2, y3⟩ := h2.get q1
      rw [q2] at y1; cases y1
      refine ⟨?_, ?_, fun p hp => ?_⟩
      · rw [List.set_cons_succ]; unfold Stds
        exact ⟨w, ws, rfl, h1.mono g, z1⟩
      · rw [List.set_cons_succ, feet, List.nodup_append]
        exact ⟨nd1, z2, fun x hx y hy => nd3 x hx y (z3 y hy).1⟩
      · rw [List.set_cons_succ, feet] at hp
        rcases List.mem_append.mp hp with hp | hp
        · exact ⟨by rw [fe]; exact List.mem_append_left _ hp, fun z => nd3 p hp p (y3 p (by rw [foot1]; exact z)) rfl⟩
        · exact ⟨by rw [fe]; exact List.mem_append_right _ (z3 p hp).1, (z3 p hp).2⟩
/-- a tree of one's own changes in its own places -/
theorem Rel.tree {i : Nat} {b : Bool} {o o' : OD} {a : Addr} {H' G' : Hp} (h : Rel C σ H e G) (he : e[i]? = some (some (.own b o))) (hs : σ[i]? = some (some (.ref a))) (gs : Same G G') (sub : Same G' H')
    (gn : ∀ p x, G' p = some x → G p = some x ∨ p ∈ foot H o a) (hH : ∀ p, p ∉ foot H o a → H' p = H p) (hd : ∀ p ∈ foot H o a, H' p ≠ none) (st : Std C.K G' H' o' a) (nd : (foot H' o' a).Nodup)
    (fs : ∀ p ∈ foot H' o' a, G' p = none ∧ (p ∈ foot H o a ∨ (C.H0 p = none ∧ NotOwn σ H e p))) : Rel C σ H' (e.set i (some (.own b o'))) G' := by
  obtain ⟨a', z1, z2, z3, z4, z5⟩ := h.own i b o he
  rw [hs] at z1; cases z1
  have out : ∀ (j : Nat) b' o2 d p, i ≠ j → e[j]? = some (some (.own b' o2)) → σ[j]? = some (some (.ref d)) → p ∈ foot H o2 d → p ∉ foot H o a := fun j b' o2 d p hj q w hp hf => hj (h.sep i j a d _ _ _ _ p he q hs w hf hp)
  have loc : ∀ (j : Nat) b' o2 d, i ≠ j → e[j]? = some (some (.own b' o2)) → σ[j]? = some (some (.ref d)) → ∀ p ∈ foot H o2 d, H' p = H p := fun j b' o2 d hj q w p hp => hH p (out j b' o2 d p hj q w hp)
  exact
  { sub := sub, gold := h.gold.trans gs, rok := h.rok, len := by rw [List.length_set]; exact h.len, bok := h.bok
    old := fun p x q hr => by
      have np : p ∉ foot H o a := fun z => by
        rcases (z4 p z).2 with w | w
        · rw [w] at q; cases q
        · exact hr ⟨_, w.2⟩
      rw [hH p np]; exact h.old p x q hr
    dom := fun p q => by
      by_cases hp : p ∈ foot H o a
      · exact hd p hp
      · rw [hH p hp]; exact h.dom p q
    gnew := fun p x q => by
      rcases gn p x q with w | w
      · exact h.gnew p x w
      · exact .inr ((z4 p w).2.imp id fun y => ⟨_, y.2⟩)
    dat := fun j x q => by
      rcases get_set_cases q with ⟨_, z⟩ | ⟨_, z⟩
      · cases z
      · obtain ⟨v, w1, w2⟩ := h.dat j x z
        exact ⟨v, w1, w2.mono gs⟩
    own := fun j b' o2 q => by
      rcases get_set_cases q with ⟨rfl, z⟩ | ⟨hj, z⟩
      · cases z
        refine ⟨a, hs, st, nd, fun p hp => ⟨(fs p hp).1, ?_⟩, z5⟩
        rcases (fs p hp).2 with w | w
        · exact (z4 p w).2
        · exact .inl w.1
      · obtain ⟨c, w1, w2, w3, w4, w5⟩ := h.own j b' o2 z
        have l := loc j b' o2 c hj z w1
        have fo := foot_loc o2 c l
        refine ⟨c, w1, (w2.mono gs).loc l, by rw [fo]; exact w3, fun p hp => ?_, w5⟩
        rw [fo] at hp
        refine ⟨?_, (w4 p hp).2⟩
        cases qg : G' p with
        | none => rfl
        | some x =>
          rcases gn p x qg with y | y
          · rw [(w4 p hp).1] at y; cases y
          · exact absurd y (out j b' o2 c p hj z w1 hp)
    sep := fun j k c c' b1 b2 o1 o2 p q1 q2 q3 q4 q5 q6 => by
      rcases get_set_cases q1 with ⟨rfl, y⟩ | ⟨hj, y⟩
      · cases y
        rw [hs] at q3; cases q3
        rcases get_set_cases q2 with ⟨rfl, y'⟩ | ⟨hk, y'⟩
        · rfl
        · rw [foot_loc o2 c' (loc k b2 o2 c' hk y' q4)] at q6
          rcases (fs p q5).2 with w | w
          · exact absurd w (out k b2 o2 c' p hk y' q4 q6)
          · exact absurd q6 (w.2 k b2 o2 c' y' q4)
      · rw [foot_loc o1 c (loc j b1 o1 c hj y q3)] at q5
        rcases get_set_cases q2 with ⟨rfl, y'⟩ | ⟨hk, y'⟩
        · cases y'
          rw [hs] at q4; cases q4
          rcases (fs p q6).2 with w | w
          · exact absurd w (out j b1 o1 c p hj y q3 q5)
          · exact absurd q5 (w.2 j b1 o1 c y q3)
        · rw [foot_loc o2 c' (loc k b2 o2 c' hk y' q4)] at q6
          exact h.sep j k c c' _ _ _ _ p y y' q3 q4 q5 q6
    bor := fun j o2 q => by
      rcases get_set_cases q with ⟨_, z⟩ | ⟨_, z⟩
      · cases z
      · exact h.bor j o2 z
    iok := fun j c q => by
      obtain ⟨⟨o2, w1⟩, w2⟩ := h.iok j c q
      refine ⟨?_, w2⟩
      by_cases hj : i = j
      · subst hj
        rw [he] at w1; cases w1
        exact ⟨o', get_set_self he⟩
      · exact ⟨o2, by rw [List.getElem?_set_ne hj]; exact w1⟩ }
/-- the parts of a tree -/
theorem Std.nod {K : PySem.W.Frag} {k : NK} {ts : List TV} {a : Addr} (h : Std K G H (.nod k ts) a) : ∃ u, H a = some u ∧ NkOk K H a k u ∧ Stds K G H ts (kidsV u) ∧ foot H (.nod k ts) a = a :: (extraA u ++ feet H ts (kidsV u)) := by
  have h' := h
  unfold Std at h'
  obtain ⟨u, h1, h2, h3⟩ := h'
  refine ⟨u, h1, h2, h3, ?_⟩
  unfold foot
  rw [h1]
  rfl
theorem NkOk.loc {K : PySem.W.Frag} {H H' : Hp} {a : Addr} {k : NK} {u : HO} (h : NkOk K H a k u) (l : ∀ p ∈ extraA u, H' p = H p) : NkOk K H' a k u := by
  cases k with
  | ins c fs =>
    cases u with
    | ins C dx fvs =>
      obtain ⟨z1, z2, z3⟩ := h
      exact ⟨z1, z2, by rw [l dx List.mem_cons_self]; exact z3⟩
    | _ => exact h
  | _ => cases u <;> exact h
/-- a leaf below is rewritten -/
theorem Rel.setKid {i j : Nat} {b : Bool} {k : NK} {ts : List TV} {o1 o2 : OD} {a c : Addr} {u w' : HO} (h : Rel C σ H e G) (he : e[i]? = some (some (.own b (.nod k ts)))) (hs : σ[i]? = some (some (.ref a))) (ha : H a = some u) (hj : ts[j]? = some (.own o1)) (hc : (kidsV u)[j]? = some (.ref c)) (hl : o1.leaf = true) (ho : ObR C.K G w' o2) :
    Rel C σ (upd H c w') (e.set i (some (.own b (.nod k (ts.set j (.own o2)))))) G := by
  obtain ⟨a', z1, z2, z3, z4, z5⟩ := h.own i b _ he
  rw [hs] at z1; cases z1
  obtain ⟨u', y1, y2, y3, y4⟩ := z2.nod
  rw [ha] at y1; cases y1
  have z3' := z3
  rw [y4, List.nodup_cons, List.nodup_append] at z3'
  obtain ⟨n1, n2, n3, n4⟩ := z3'
  obtain ⟨v, x1, x2, x3⟩ := y3.get hj
  rw [hc] at x1; cases x1
  have mc : c ∈ feet H ts (kidsV u) := x3 c (by rw [foot1]; exact root_mem H o1 c)
  have ca : c ≠ a := fun z => n1 (z ▸ List.mem_append_right _ mc)
  obtain ⟨q1, q2⟩ := Stds.setKid hl ho y3 n3 hj hc
  have fe : foot (upd H c w') (.nod k (ts.set j (.own o2))) a = foot H (.nod k ts) a := by
    rw [y4]
    unfold foot
    rw [upd_ne (Ne.symm ca), ha]
    show a :: (extraA u ++ feet (upd H c w') (ts.set j (.own o2)) (kidsV u)) = _
    rw [q2]
  have mcf : c ∈ foot H (.nod k ts) a := by rw [y4]; exact List.mem_cons_of_mem _ (List.mem_append_right _ mc)
  refine h.tree he hs (Same.refl _) (fun p x q => ?_) (fun p x q => .inl q) (fun p hp => upd_ne fun z => hp (z ▸ mcf)) (fun p hp => ?_) ?_ (by rw [fe]; exact z3) fun p hp => ?_
  · have : p ≠ c := fun z => by rw [z, (z4 c mcf).1] at q; cases q
    rw [upd_ne this]; exact h.sub p x q
  · by_cases hpc : p = c
    · subst hpc; rw [upd_same]; exact fun z => nomatch z
    · rw [upd_ne hpc]
      obtain ⟨x, hx⟩ := z2.ex p hp
      rw [hx]; exact fun z => nomatch z
  · unfold Std
    exact ⟨u, by rw [upd_ne (Ne.symm ca)]; exact ha, y2.loc fun p hp => upd_ne fun z => n4 p hp p (z ▸ mc) rfl, q1⟩
  · rw [fe] at hp
    exact ⟨(z4 p hp).1, .inl hp⟩
/-- a thing below stays as data -/
theorem Rel.fzKid {i j : Nat} {b : Bool} {k : NK} {ts : List TV} {o1 : OD} {a c : Addr} {u : HO} (h : Rel C σ H e G) (he : e[i]? = some (some (.own b (.nod k ts)))) (hs : σ[i]? = some (some (.ref a))) (ha : H a = some u) (hj : ts[j]? = some (.own o1)) (hc : (kidsV u)[j]? = some (.ref c)) (hd : o1.dat = true) :
    ∃ G1, Same G G1 ∧ Rel C σ H (e.set i (some (.own b (.nod k (ts.set j (.d o1.toD)))))) G1 ∧ Rp C.K G1 (.ref c) o1.toD := by
  obtain ⟨a', z1, z2, z3, z4, z5⟩ := h.own i b _ he
  rw [hs] at z1; cases z1
  obtain ⟨u', y1, y2, y3, y4⟩ := z2.nod
  rw [ha] at y1; cases y1
  have z3' := z3
  rw [y4, List.nodup_cons, List.nodup_append] at z3'
  obtain ⟨n1, n2, n3, n4⟩ := z3'
  obtain ⟨v, x1, x2, x3⟩ := y3.get hj
  rw [hc] at x1; cases x1
  unfold Std1 at x2
  obtain ⟨c', x4, x5⟩ := x2
  cases x4
  have mem : ∀ p ∈ foot H o1 c, p ∈ feet H ts (kidsV u) := fun p hp => x3 p (by rw [foot1]; exact hp)
  have memf : ∀ p ∈ foot H o1 c, p ∈ foot H (.nod k ts) a := fun p hp => by rw [y4]; exact List.mem_cons_of_mem _ (List.mem_append_right _ (mem p hp))
  have g1 : Same G (ov (foot H o1 c) H G) := same_ov fun p hp => (z4 p (memf p hp)).1
  have hr : Rp C.K (ov (foot H o1 c) H G) (.ref c) o1.toD := x5.rp g1 hd fun p hp => ov_in hp
  obtain ⟨q1, q2, q3⟩ := Stds.fzKid g1 hr y3 n3 hj hc
  have fe : foot H (.nod k (ts.set j (.d o1.toD))) a = a :: (extraA u ++ feet H (ts.set j (.d o1.toD)) (kidsV u)) := by
    unfold foot; rw [ha]; rfl
  have inn : ∀ p ∈ foot H (.nod k (ts.set j (.d o1.toD))) a, p ∈ foot H (.nod k ts) a ∧ p ∉ foot H o1 c := fun p hp => by
    rw [fe] at hp
    rw [y4]
    rcases List.mem_cons.mp hp with rfl | hp
    · exact ⟨List.mem_cons_self, fun z => n1 (List.mem_append_right _ (mem p z))⟩
    · rcases List.mem_append.mp hp with hp | hp
      · exact ⟨List.mem_cons_of_mem _ (List.mem_append_left _ hp), fun z => n4 p hp p (mem p z) rfl⟩
      · exact ⟨List.mem_cons_of_mem _ (List.mem_append_right _ (q3 p hp).1), (q3 p hp).2⟩
  refine ⟨ov (foot H o1 c) H G, g1, h.tree he hs g1 (ov_sub h.sub) (fun p x q => ?_) (fun p hp => rfl) (fun p hp => ?_) ?_ ?_ fun p hp => ?_, hr⟩
  · by_cases hp : p ∈ foot H o1 c
    · exact .inr (memf p hp)
    · rw [ov_out hp] at q; exact .inl q
  · obtain ⟨x, hx⟩ := z2.ex p hp
    rw [hx]; exact fun z => nomatch z
  · unfold Std
    exact ⟨u, ha, y2, q1⟩
  · rw [fe, List.nodup_cons, List.nodup_append]
    refine ⟨fun z => ?_, n2, q2, fun x hx y hy => n4 x hx y (q3 y hy).1⟩
    rcases List.mem_append.mp z with z | z
    · exact n1 (List.mem_append_left _ z)
    · exact n1 (List.mem_append_right _ (q3 a z).1)
  · obtain ⟨w1, w2⟩ := inn p hp
    exact ⟨by rw [ov_out w2]; exact (z4 p w1).1, .inl w1⟩
end
/-! ### expressions -/
section
variable {P : Pg} {n : Nat} {X : Cx} {sc : Nms} {c : Cf}
theorem tupN_rd {K : PySem.W.Frag} {ts : Es} {σ : Sg} {H : Hp} {Q : VK} (q : rdE K c (.tupN ts) σ H Q) : tTup (rdA K c ts) σ H Q := by
  obtain ⟨C, e, G, r, e1, hK, rel, hv, k⟩ := q
  subst hK
  unfold ev at hv
  simp only [Option.bind_eq_some_iff, Prod.exists] at hv
  obtain ⟨rs, e2, h1, ss, e3, h2, hv⟩ := hv
  split at hv
  · rename_i hl
    cases hv
    refine ⟨C, e, G, rs, e2, rfl, rel, h1, fun vs H1 G1 rel1 g1 rr nd => ?_⟩
    obtain ⟨rel2, rr2, nd2, ok, _⟩ := rel1.mvs rr nd h2
    have hlen : vs.length = ss.length := by have := Paired.length rr2; simpa using this
    refine ⟨by rw [hlen]; exact hl, fun p np => ?_⟩
    obtain ⟨z1, z2⟩ := nod_new (u := .tup vs) (k := .tup) rel2 rr2 nd2 ok np rfl rfl trivial
    exact k _ _ _ z1 g1 z2
  · cases hv
theorem lstN_rd {K : PySem.W.Frag} {ts : Es} {σ : Sg} {H : Hp} {Q : VK} (q : rdE K c (.lstN ts) σ H Q) : tLst (rdA K c ts) σ H Q := by
  obtain ⟨C, e, G, r, e1, hK, rel, hv, k⟩ := q
  subst hK
  unfold ev at hv
  simp only [Option.bind_eq_some_iff, Prod.exists] at hv
  obtain ⟨rs, e2, h1, ss, e3, h2, hv⟩ := hv
  split at hv
  · rename_i hl
    cases hv
    refine ⟨C, e, G, rs, e2, rfl, rel, h1, fun vs H1 G1 rel1 g1 rr nd => ?_⟩
    obtain ⟨rel2, rr2, nd2, ok, _⟩ := rel1.mvs rr nd h2
    have hlen : vs.length = ss.length := by have := Paired.length rr2; simpa using this
    refine ⟨by rw [hlen]; exact hl, fun p np => ?_⟩
    obtain ⟨z1, z2⟩ := nod_new (u := .lst vs) (k := .lst) rel2 rr2 nd2 ok np rfl rfl trivial
    exact k _ _ _ z1 g1 z2
  · cases hv
theorem ev_tupN {ts : Es} {xs : List Expr} {j : Nat} {pos : Pos} (h : PEs X c ts xs) : PE X (.Tuple xs j pos) (rdE X.K c (.tupN ts)) := pe_imp (pe_tup h.pa) fun σ H Q q => tupN_rd q
theorem ev_lstN {ts : Es} {xs : List Expr} {pos : Pos} (h : PEs X c ts xs) : PE X (.List xs pos) (rdE X.K c (.lstN ts)) := pe_imp (pe_lst h.pa) fun σ H Q q => lstN_rd q
theorem lit_pe {z : Int} {x : Expr} (h : isLit z x = true) : PE X x (tC (.int z)) ∧ PlainIx x := by
  unfold isLit at h
  split at h
  · have e := eq_of_beq h; subst e
    exact ⟨pe_int, fun _ _ => rfl⟩
  · have e := eq_of_beq h; subst e
    refine ⟨pe_imp (pe_un un_neg pe_int) fun σ H Q q => ⟨_, rfl, q⟩, fun _ _ => rfl⟩
  · cases h
/-- an item of a list or a tuple, as it stands -/
def rIxN : R2 := fun x y H Q => ∃ a vs j v, x = .ref a ∧ (H a = some (.lst vs) ∨ H a = some (.tup vs)) ∧ y = .int j ∧ atI vs j = some v ∧ Q v H
theorem ix_N : IxR X rIxN := by
  intro value slice pins s σ H x y v u Q I rx ry h hs
  obtain ⟨a, vs, j, w, rfl, h1, rfl, h2, k⟩ := h
  rcases h1 with h1 | h1
  · exact ix_list value slice pins s σ H _ _ v u Q I rx ry ⟨a, vs, _, w, rfl, rfl, .inl (.inl h1), h2, k⟩ hs
  · exact ix_tup value slice pins s σ H _ _ v u Q I rx ry ⟨a, vs, _, w, rfl, rfl, .inl (.inl h1), h2, k⟩ hs
theorem spIx_at {z : Int} {k : NK} {n j : Nat} {K : PySem.W.Frag} {H : Hp} {a : Addr} {u : HO} (h : spIx (.at z) k n = some j) (hk : NkOk K H a k u) : ixN n z = some j ∧ ∃ vs, (u = .lst vs ∨ u = .tup vs) ∧ kidsV u = vs := by
  cases k with
  | ins c fs => cases h
  | lst => cases u with
    | lst vs => exact ⟨h, vs, .inl rfl, rfl⟩
    | _ => exact hk.elim
  | tup => cases u with
    | tup vs => exact ⟨h, vs, .inr rfl, rfl⟩
    | _ => exact hk.elim
/-- the object of a slot with things below, and the thing at the step -/
theorem Rel.nodAt {C : Co} {σ : Sg} {H G : Hp} {e : En} (h : Rel C σ H e G) {i : Nat} {k : NK} {ts : List TV} (he : (∃ b, e[i]? = some (some (.own b (.nod k ts)))) ∨ e[i]? = some (some (.bor (.nod k ts)))) : ∃ a u, σ[i]? = some (some (.ref a)) ∧ H a = some u ∧ NkOk C.K H a k u ∧ Stds C.K G H ts (kidsV u) ∧ (kidsV u).length = ts.length := by
  have key : ∃ a, σ[i]? = some (some (.ref a)) ∧ Std C.K G H (.nod k ts) a := by
    rcases he with ⟨b, he⟩ | he
    · obtain ⟨a, h1, h2, _⟩ := h.own i b _ he
      exact ⟨a, h1, h2⟩
    · obtain ⟨a, h1, h2, _⟩ := h.borrowed he
      exact ⟨a, h1, h2⟩
  obtain ⟨a, h1, h2⟩ := key
  obtain ⟨u, y1, y2, y3, _⟩ := h2.nod
  exact ⟨a, u, h1, y1, y2, y3, y3.len⟩
theorem kid_rd {C : Co} {σ : Sg} {H G : Hp} {e e1 : En} {i : Nat} {st : Stp} {r : R} {Q : VK} (rel : Rel C σ H e G) (hv : kidF st i e = some (r, e1)) (k : ∀ v H' G', Rel C σ H' e1 G' → Same G G' → RR C H' G' σ e1 v r → Q v H') :
    ∃ a u kk v j, σ[i]? = some (some (.ref a)) ∧ H a = some u ∧ NkOk C.K H a kk u ∧ spIx st kk (kidsV u).length = some j ∧ (kidsV u)[j]? = some v ∧ Q v H := by
  unfold kidF at hv
  split at hv
  · rename_i b kk ts he
    simp only [Option.bind_eq_some_iff] at hv
    obtain ⟨j, h1, t, h2, hv⟩ := hv
    obtain ⟨a, u, z1, z2, z3, z4, z5⟩ := rel.nodAt (.inl ⟨b, he⟩)
    obtain ⟨v, x1, x2, x3⟩ := z4.get h2
    refine ⟨a, u, kk, v, j, z1, z2, z3, by rw [z5]; exact h1, x1, ?_⟩
    cases t with
    | d x =>
      cases hv
      exact k v H G rel (Same.refl _) (by unfold Std1 at x2; exact x2)
    | own o =>
      simp only [Option.map_eq_some_iff, Prod.mk.injEq] at hv
      obtain ⟨x, q1, rfl, rfl⟩ := hv
      obtain ⟨hd, rfl⟩ := fzO_some q1
      unfold Std1 at x2
      obtain ⟨c, rfl, _⟩ := x2
      obtain ⟨G1, g1, w1, w2⟩ := rel.fzKid he z1 z2 h2 x1 hd
      exact k _ H G1 w1 g1 w2
  · rename_i kk ts he
    simp only [Option.bind_eq_some_iff] at hv
    obtain ⟨j, h1, t, h2, hv⟩ := hv
    obtain ⟨a, u, z1, z2, z3, z4, z5⟩ := rel.nodAt (.inr he)
    obtain ⟨v, x1, x2, x3⟩ := z4.get h2
    refine ⟨a, u, kk, v, j, z1, z2, z3, by rw [z5]; exact h1, x1, ?_⟩
    cases t with
    | d x =>
      cases hv
      exact k v H G rel (Same.refl _) (by unfold Std1 at x2; exact x2)
    | own o => cases hv
  · cases hv
/-- x[k], k written -/
theorem place_pe (ok : XOk P n X sc) {i : Nat} {st : Stp} {x : Expr} (h : chkPl X.N sc i st x = true) : PE X x (fun σ H Q => ∃ a u kk v j, σ[i]? = some (some (.ref a)) ∧ H a = some u ∧ NkOk X.K H a kk u ∧ spIx st kk (kidsV u).length = some j ∧ (kidsV u)[j]? = some v ∧ Q v H) := by
  unfold chkPl at h
  split at h
  · rename_i y py kx pos
    cases st with
    | fld f => cases h
    | «at» z =>
      simp only [Bool.and_eq_true, Bool.not_eq_true', decide_eq_true_eq] at h
      obtain ⟨⟨⟨⟨h1, h2⟩, h3⟩, h4⟩, h5⟩ := h
      obtain ⟨l1, l2⟩ := lit_pe (X := X) h5
      refine pe_imp (pe_ix ix_N (var_pe ok h1 h2 h3 h4) l1 l2) fun σ H Q q => ?_
      obtain ⟨a, u, kk, v, j, z1, z2, z3, z4, z5, z6⟩ := q
      obtain ⟨w1, vs, w2, w3⟩ := spIx_at z4 z3
      refine ⟨.ref a, z1, a, vs, z, v, rfl, ?_, rfl, ?_, z6⟩
      · rcases w2 with w2 | w2
        · exact .inl (by rw [z2, w2])
        · exact .inr (by rw [z2, w2])
      · unfold atI
        rw [← w3, w1]
        exact z5
  · cases h
theorem ev_kid (ok : XOk P n X sc) {i : Nat} {st : Stp} {x : Expr} (h : chkPl X.N sc i st x = true) : PE X x (rdE X.K c (.kid i st)) :=
  pe_imp (place_pe ok h) fun σ H Q q => by
    obtain ⟨C, e, G, r, e1, hK, rel, hv, k⟩ := q
    unfold ev at hv
    rw [← hK]
    exact kid_rd rel hv k
theorem mutC_rd {K : PySem.W.Frag} {m : Mut} {i : Nat} {st : Stp} {ts : Es} {σ : Sg} {H : Hp} {Q : VK} (q : rdE K c (.mutC m i st ts) σ H Q) :
    ∃ a u kk v j, σ[i]? = some (some (.ref a)) ∧ H a = some u ∧ NkOk K H a kk u ∧ spIx st kk (kidsV u).length = some j ∧ (kidsV u)[j]? = some v ∧ tyV K "list" v H ∧ rdA K c ts σ H fun vs H1 => rMut K m v vs H1 Q := by
  obtain ⟨C, e, G, r, e9, hK, rel, hv, k⟩ := q
  subst hK
  unfold ev at hv
  split at hv
  · rename_i b kk ts' he
    simp only [Option.bind_eq_some_iff] at hv
    obtain ⟨j, h1, hv⟩ := hv
    split at hv
    · rename_i xs hj
      simp only [Option.bind_eq_some_iff, Prod.exists] at hv
      obtain ⟨rs, e1, h2, ds, e2, h3, hv⟩ := hv
      split at hv
      · rename_i o' hb
        simp only [Option.map_eq_some_iff, Prod.exists] at hv
        obtain ⟨y, o2, h4, h5⟩ := hv
        cases h5
        obtain ⟨a, u, z1, z2, z3, z4, z5⟩ := rel.nodAt (.inl ⟨b, he⟩)
        obtain ⟨v, x1, x2, x3⟩ := z4.get hj
        unfold Std1 at x2
        obtain ⟨cc, rfl, x4⟩ := x2
        have x4' := x4
        unfold Std at x4'
        obtain ⟨ws, x5, x6⟩ := x4'
        refine ⟨a, u, kk, .ref cc, j, z1, z2, z3, by rw [z5]; exact h1, x1, .inl ⟨rfl, ws, .inl (.inl x5)⟩, ?_⟩
        refine ⟨C.borrow i (.nod kk ts') a H G, _, G, rs, e1, rfl, rel.borrow he z1, h2, fun vs H1 G1 rel1 g1 rr nd => ?_⟩
        obtain ⟨G2, g2, rel2, rl⟩ := rel1.fzs rr nd h3
        obtain ⟨rfl, w2, w3, w4⟩ := rel.unborrow he z1 rel2 (g1.trans g2) hb
        have he2 : (e2.set i (some (.own b (.nod kk ts'))))[i]? = some (some (.own b (.nod kk ts'))) := get_set_self hb
        obtain ⟨a0, s1, s2, s3, s4, s5⟩ := rel.own i b _ he
        rw [z1] at s1; cases s1
        obtain ⟨u0, t1, t2, t3, t4⟩ := s2.nod
        rw [z2] at t1; cases t1
        have memc : cc ∈ foot H (.nod kk ts') a := by rw [t4]; exact List.mem_cons_of_mem _ (List.mem_append_right _ (x3 cc (by rw [foot1]; exact root_mem H _ cc)))
        have hcc : H1 cc = some (.lst ws) := by rw [w3 cc memc]; exact x5
        have haa : H1 a = some u := by rw [w3 a (by rw [t4]; exact List.mem_cons_self)]; exact z2
        refine ⟨cc, .lst ws, .lst xs, G2, ds, y, o2, rfl, hcc, rel2.sub, x6.mono (g1.trans g2), rl, h4, fun v w' hv' hw' => ?_⟩
        have fin := w4.setKid he2 w2 haa hj x1 rfl hw'
        rw [List.set_set] at fin
        exact k v _ G2 fin (g1.trans g2) hv'
      · cases hv
    · cases hv
  · cases hv
theorem chkPl_shape {N : List Str} {i : Nat} {st : Stp} {x : Expr} (h : chkPl N sc i st x = true) : shape x = true ∧ notBare x = true := by
  unfold chkPl at h
  split at h
  · exact ⟨rfl, rfl⟩
  · cases h
theorem ev_mutC (ok : XOk P n X sc) {m : Mut} {i : Nat} {st : Stp} {ts : Es} {xs : List Expr} {o : Expr} {apos cpos : Pos} (ho : chkPl X.N sc i st o = true)
    (hl : (apos.endLine == cpos.line) = true) (hx : xs.length < 30) (h : PEs X c ts xs) : PE X (.Call (.Attribute o m.nm apos) xs [] cpos) (rdE X.K c (.mutC m i st ts)) := by
  obtain ⟨s1, s2⟩ := chkPl_shape ho
  have hb : attributeBase o m.nm X.env (eval o X.env) = eval o X.env := base_id s1 s2
  cases h with
  | nil =>
    refine pe_imp (mut_call0 (place_pe ok ho) hb hl) fun σ H Q q => ?_
    obtain ⟨a, u, kk, v, j, h1, h2, h3, h4, h5, h6, h7⟩ := mutC_rd q
    exact ⟨a, u, kk, v, j, h1, h2, h3, h4, h5, h6, rdA_nil h7⟩
  | cons hh p r =>
    refine pe_imp (mut_call (place_pe ok ho) (PEs.cons hh p r).pa hb hl (star_few (PEs.cons hh p r).plain hx) (p.star _ _) (star_back r.plain)) fun σ H Q q => ?_
    obtain ⟨a, u, kk, v, j, h1, h2, h3, h4, h5, h6, h7⟩ := mutC_rd q
    exact ⟨a, u, kk, v, j, h1, h2, h3, h4, h5, h6, h7⟩
end
end PL

/-! PL12: all expressions. -/
namespace PL
open PySem PySem.Spec
open PyProof.Rows L2
section
variable {P : Pg} {n : Nat}
abbrev cfP (P : Pg) (n : Nat) : Cf := ⟨run P n, P.io, P.glb⟩
theorem chkKs_some : ∀ {ks : List D} {keys : List (Option Expr)}, chkKs ks keys = true → keys.all (·.isSome) = true
  | [], [], _ => rfl
  | k :: ks, some (.Constant _ _ _) :: es, h => by
    unfold chkKs at h
    rw [Bool.and_eq_true] at h
    rw [List.all_cons, chkKs_some h.2]
    rfl
theorem chkKs_len : ∀ {ks : List D} {keys : List (Option Expr)}, chkKs ks keys = true → ks.length = keys.length
  | [], [], _ => rfl
  | k :: ks, some (.Constant _ _ _) :: es, h => by
    unfold chkKs at h
    rw [Bool.and_eq_true] at h
    rw [List.length_cons, List.length_cons, chkKs_len h.2]
theorem cmp_bool {c : Cf} {op : CmpOp} {ts : Es} {e e1 : En} {r : R} (h : ev c (.prm (.cmp op) ts) e = some (r, e1)) : ∃ k, r = .d (.bool k) := by
  unfold ev at h
  rw [Option.bind_eq_some_iff] at h
  obtain ⟨⟨rs, e2⟩, h1, h⟩ := h
  simp only [Option.bind_eq_some_iff, Option.map_eq_some_iff] at h
  obtain ⟨xs, h2, r', h3, q⟩ := h
  cases q
  unfold prmF at h3
  split at h3 <;> try contradiction
  all_goals (rename_i hp; try cases hp)
  rw [Option.map_eq_some_iff] at h3
  obtain ⟨b, _, rfl⟩ := h3
  exact ⟨b, rfl⟩
theorem cmp2_bool {c : Cf} {op op' : CmpOp} {x y z : Ex} {e e1 : En} {r : R} (h : ev c (.cmp2 op op' x y z) e = some (r, e1)) : ∃ k, r = .d (.bool k) := by
  unfold ev at h
  rw [Option.bind_eq_some_iff] at h
  obtain ⟨⟨r1, e2⟩, h1, h⟩ := h
  rw [Option.bind_eq_some_iff] at h
  obtain ⟨⟨r2, e3⟩, h2, h⟩ := h
  simp only at h
  split at h
  · rw [Option.bind_eq_some_iff] at h
    obtain ⟨b, h3, h⟩ := h
    cases b with
    | false => cases h; exact ⟨_, rfl⟩
    | true =>
      simp only [Option.bind_eq_some_iff] at h
      obtain ⟨⟨r3, e4⟩, h4, h⟩ := h
      simp only at h
      split at h
      · rw [Option.map_eq_some_iff] at h
        obtain ⟨b', _, q⟩ := h
        cases q
        exact ⟨_, rfl⟩
      · cases h
  · cases h
theorem tst_prm {c : Cf} {p : Prm} {ts : Es} (e : En) : tst c (.prm p ts) e = tstD c (.prm p ts) e := by unfold tst; unfold tstD; rfl
theorem tst_cmp2 {c : Cf} {op op' : CmpOp} {x y z : Ex} (e : En) : tst c (.cmp2 op op' x y z) e = tstD c (.cmp2 op op' x y z) e := by unfold tst; unfold tstD; rfl
theorem tst_mut {c : Cf} {m : Mut} {i : Nat} {ts : Es} (e : En) : tst c (.mut m i ts) e = tstD c (.mut m i ts) e := by unfold tst; unfold tstD; rfl
theorem tst_mth {c : Cf} {m : Mth} {x : Ex} {ts : Es} (e : En) : tst c (.mth m x ts) e = tstD c (.mth m x ts) e := by unfold tst; unfold tstD; rfl
theorem tst_call {c : Cf} {f : Str} {ts : Es} (e : En) : tst c (.call f ts) e = tstD c (.call f ts) e := by unfold tst; unfold tstD; rfl
theorem tst_tupN {c : Cf} {ts : Es} (e : En) : tst c (.tupN ts) e = tstD c (.tupN ts) e := by unfold tst; unfold tstD; rfl
theorem tst_lstN {c : Cf} {ts : Es} (e : En) : tst c (.lstN ts) e = tstD c (.lstN ts) e := by unfold tst; unfold tstD; rfl
theorem tst_kid {c : Cf} {i : Nat} {st : Stp} (e : En) : tst c (.kid i st) e = tstD c (.kid i st) e := by unfold tst; unfold tstD; rfl
theorem tst_mutC {c : Cf} {m : Mut} {i : Nat} {st : Stp} {ts : Es} (e : En) : tst c (.mutC m i st ts) e = tstD c (.mutC m i st ts) e := by unfold tst; unfold tstD; rfl
theorem tst_lst {c : Cf} {ts : Es} (e : En) : tst c (.lst ts) e = tstD c (.lst ts) e := by unfold tst; unfold tstD; rfl
theorem tst_tup {c : Cf} {ts : Es} (e : En) : tst c (.tup ts) e = tstD c (.tup ts) e := by unfold tst; unfold tstD; rfl
theorem tst_var {c : Cf} {i : Nat} (e : En) : tst c (.var i) e = tstD c (.var i) e := by unfold tst; unfold tstD; rfl
theorem tst_cst {c : Cf} {d : D} (e : En) : tst c (.cst d) e = tstD c (.cst d) e := by unfold tst; unfold tstD; rfl
theorem tst_glb {c : Cf} {k : Str} (e : En) : tst c (.glb k) e = tstD c (.glb k) e := by unfold tst; unfold tstD; rfl
theorem tst_dc {c : Cf} {tg : Tg} {it : PL.It} {ifs : Es} {ke el : Ex} {own : List Nat} (e : En) : tst c (.dc tg it ifs ke el own) e = tstD c (.dc tg it ifs ke el own) e := by unfold tst; unfold tstD; rfl
theorem tst_dsp {c : Cf} {ks : List D} {ts : Es} (e : En) : tst c (.dsp ks ts) e = tstD c (.dsp ks ts) e := by unfold tst; unfold tstD; rfl
theorem tst_lc {c : Cf} {tg : Tg} {it : PL.It} {ifs : Es} {el : Ex} {own : List Nat} (e : En) : tst c (.lc tg it ifs el own) e = tstD c (.lc tg it ifs el own) e := by unfold tst; unfold tstD; rfl
/-- a primitive as a test -/
theorem prm_tst {X : Cx} {sc : Nms} (ok : XOk P n X sc) {p : Prm} {ts : Es} {x : Expr} {xs : List Expr} (h : argsP sc p x = some xs) (hp : PEs X (cfP P n) ts xs) : PT X x (rdT X.K (cfP P n) (.prm p ts)) := by
  have pe := prm_ok ok h hp
  have gen := fun he => tst_gen (t := .prm p ts) tst_prm pe he
  cases p with
  | cmp op =>
    unfold argsP at h
    split at h <;> try contradiction
    all_goals (rename_i hpp; try cases hpp)
    split at h
    · rename_i e; subst e
      cases h
      obtain ⟨a, b, rfl, ha, pa, hb, pb⟩ := pe2 hp
      refine pt_imp (pt_cmpR (op_cmpF _ (hu200 ok)) ha hb (pb.mark _)) fun σ H Q q => ?_
      have q := tst_bool tst_prm (fun _ _ _ => cmp_bool) q
      exact rdE_mono (two_rd (prm_rd q)) fun _ _ q1 => rdE_mono q1 fun _ _ q2 => rP_two (fun _ _ => rfl) q2
    · cases h
  | _ =>
    unfold argsP at h
    split at h <;> first | (exact gen fun _ => rfl) | (rename_i hpp; cases hpp) | (rename_i hpp _; cases hpp) | contradiction
mutual
theorem ev_ok : ∀ (t : Ex) {X : Cx} {sc : Nms} {x : Expr}, XOk P n X sc → chkE P X.N sc t x = true → PE X x (rdE X.K (cfP P n) t)
  | .var i, X, sc, x, ok, h => ev_var ok h
  | .cst d, X, sc, x, ok, h => ev_cst h
  | .glb k, X, sc, x, ok, h => ev_glb ok rfl h
  | .prm p ts, X, sc, x, ok, h => by
    unfold chkE at h
    split at h
    · rename_i xs hx; exact prm_ok ok hx (evs_ok ts ok h)
    · cases h
  | .cmp2 op op' a b d, X, sc, x, ok, h => by
    unfold chkE at h
    split at h
    · simp only [Bool.and_eq_true, decide_eq_true_eq] at h
      obtain ⟨⟨⟨⟨⟨⟨h1, h2⟩, h3⟩, h4⟩, h5⟩, h6⟩, h7⟩ := h
      subst h1 h2
      exact ev_cmp2 ok h3 h4 (ev_ok a ok h5) (ev_ok b ok h6) (ev_ok d ok h7)
    · cases h
  | .and a b, X, sc, x, ok, h => by
    unfold chkE at h
    split at h
    · rw [Bool.and_eq_true] at h
      exact ev_and (ev_ok a ok h.1) (pe_one (ev_ok b ok h.2))
    · rw [Bool.and_eq_true] at h
      exact ev_and (ev_ok a ok h.1) (ev_ok b ok h.2)
    · cases h
  | .or a b, X, sc, x, ok, h => by
    unfold chkE at h
    split at h
    · rw [Bool.and_eq_true] at h
      exact ev_or (ev_ok a ok h.1) (pe_one (ev_ok b ok h.2))
    · rw [Bool.and_eq_true] at h
      exact ev_or (ev_ok a ok h.1) (ev_ok b ok h.2)
    · cases h
  | .not a, X, sc, x, ok, h => by
    unfold chkE at h
    split at h
    · exact ev_not (ev_ok a ok h)
    · cases h
  | .ite t a b, X, sc, x, ok, h => by
    unfold chkE at h
    split at h
    · rw [Bool.and_eq_true, Bool.and_eq_true] at h
      exact ev_ite (tst_ok t ok h.1.1) (ev_ok a ok h.1.2) (ev_ok b ok h.2)
    · cases h
  | .tup ts, X, sc, x, ok, h => by
    unfold chkE at h
    split at h
    · exact ev_tup (evs_ok ts ok h)
    · cases h
  | .lst ts, X, sc, x, ok, h => by
    unfold chkE at h
    split at h
    · exact ev_lst (evs_ok ts ok h)
    · cases h
  | .call f ts, X, sc, x, ok, h => by
    unfold chkE at h
    split at h
    · simp only [Bool.and_eq_true, decide_eq_true_eq] at h
      obtain ⟨⟨⟨h1, h2⟩, h3⟩, h4⟩ := h
      subst h1
      exact ev_call ok rfl h2 h3 (evs_ok ts ok h4)
    · cases h
  | .mut m i ts, X, sc, x, ok, h => by
    unfold chkE at h
    split at h
    · simp only [Bool.and_eq_true, decide_eq_true_eq, Bool.not_eq_true'] at h
      obtain ⟨⟨⟨⟨⟨⟨⟨h1, h2⟩, h3⟩, h4⟩, h5⟩, h6⟩, h7⟩, h8⟩ := h
      subst h5
      exact ev_mut ok h1 h2 h3 h4 h6 h7 (evs_ok ts ok h8)
    · cases h
  | .mth m t ts, X, sc, x, ok, h => by
    unfold chkE at h
    split at h
    · simp only [Bool.and_eq_true, decide_eq_true_eq] at h
      obtain ⟨⟨⟨⟨⟨h1, h2⟩, h3⟩, h4⟩, h5⟩, h6⟩ := h
      subst h1
      exact ev_mth ok (chk_shape h5) h4 (ev_ok t ok h5) h2 h3 (evs_ok ts ok h6)
    · cases h
  | .lc tg it ifs el own, X, sc, x, ok, h => by
    unfold chkE at h
    split at h
    · rename_i y g i fs scope pos
      simp only [Bool.and_eq_true, decide_eq_true_eq, List.all_eq_true] at h
      obtain ⟨⟨⟨⟨⟨⟨h1, h2⟩, h3⟩, h4⟩, h5⟩, h6⟩, h7⟩ := h
      obtain ⟨b1, b2⟩ := blk_ok ok h1
      have hsh : shape i = true := it_shape it h4
      have pl := plain_of hsh
      have h2' : ∀ i ∈ tg.sl, i ∈ own := fun i hi => by simpa using h2 i hi
      have eown : (own.map fun i => (X.N.getD i "", i)).map (·.2) = own := by rw [List.map_map]; exact List.map_id' own
      have hts : ∀ (s : Shared) (H : Hp) (C : Addr) (cl : List (Str × Addr)) (fp : List Addr), PTs (X.blk s H scope (compEnvC scope cl C X.env) fp) fs (rdTs X.K (cfP P n) ifs) := fun s H C cl fp => ts_ok ifs (b2 s H C cl fp) h5 h6
      refine pe_imp (pe_lc ok.calm ok.nd (it_ok it ok h4) b1 (fun s H C cl fp => (show PG _ g (rdG X.K tg) from tg_ok (b2 s H C cl fp) h3)) hts (fun s H C cl fp => (show PE _ y (rdE X.K (cfP P n) el) from ev_ok el (b2 s H C cl fp) h7)) (fun y => pl.fold _ y)) fun σ H Q q => ?_
      rw [eown]
      exact lc_rd h2' q
    · cases h
  | .dc tg it ifs ke el own, X, sc, x, ok, h => by
    unfold chkE at h
    split at h
    · rename_i z y g i fs scope pos
      simp only [Bool.and_eq_true, decide_eq_true_eq, List.all_eq_true] at h
      obtain ⟨⟨⟨⟨⟨⟨⟨h1, h2⟩, h3⟩, h4⟩, h5⟩, h6⟩, h8⟩, h7⟩ := h
      obtain ⟨b1, b2⟩ := blk_ok ok h1
      have hsh : shape i = true := it_shape it h4
      have pl := plain_of hsh
      have h2' : ∀ i ∈ tg.sl, i ∈ own := fun i hi => by simpa using h2 i hi
      have eown : (own.map fun i => (X.N.getD i "", i)).map (·.2) = own := by rw [List.map_map]; exact List.map_id' own
      have hts : ∀ (s : Shared) (H : Hp) (C : Addr) (cl : List (Str × Addr)) (fp : List Addr), PTs (X.blk s H scope (compEnvC scope cl C X.env) fp) fs (rdTs X.K (cfP P n) ifs) := fun s H C cl fp => ts_ok ifs (b2 s H C cl fp) h5 h6
      refine pe_imp (pe_dc ok.calm ok.nd (it_ok it ok h4) b1 (fun s H C cl fp => (show PG _ g (rdG X.K tg) from tg_ok (b2 s H C cl fp) h3)) hts (fun s H C cl fp => (show PE _ z (rdE X.K (cfP P n) ke) from ev_ok ke (b2 s H C cl fp) h8)) (fun s H C cl fp => (show PE _ y (rdE X.K (cfP P n) el) from ev_ok el (b2 s H C cl fp) h7)) (fun y => pl.fold _ y)) fun σ H Q q => ?_
      rw [eown]
      exact dc_rd h2' q
    · cases h
  | .dsp ks ts, X, sc, x, ok, h => by
    unfold chkE at h
    split at h
    · simp only [Bool.and_eq_true, decide_eq_true_eq] at h
      obtain ⟨⟨⟨⟨h1, h2⟩, h3⟩, h4⟩, h5⟩ := h
      have hp := evs_ok ts ok h5
      exact pe_imp (pe_disp (dsp_pps h1 hp h2) (chkKs_some h1) h2 h3 h4) fun σ H Q q => dsp_rd (by rw [chkKs_len h1, h2, hp.len]) q
    · cases h
  | .tupN ts, X, sc, x, ok, h => by
    unfold chkE at h
    split at h
    · exact ev_tupN (evs_ok ts ok h)
    · cases h
  | .lstN ts, X, sc, x, ok, h => by
    unfold chkE at h
    split at h
    · exact ev_lstN (evs_ok ts ok h)
    · cases h
  | .kid i st, X, sc, x, ok, h => by
    unfold chkE at h
    exact ev_kid ok h
  | .mutC m i st ts, X, sc, x, ok, h => by
    unfold chkE at h
    split at h
    · simp only [Bool.and_eq_true, decide_eq_true_eq] at h
      obtain ⟨⟨⟨⟨h1, h2⟩, h3⟩, h4⟩, h5⟩ := h
      subst h2
      exact ev_mutC ok h1 h3 h4 (evs_ok ts ok h5)
    · cases h
  | .meth f ts, X, sc, x, ok, h => by unfold chkE at h; cases h
  | .make f ts, X, sc, x, ok, h => by unfold chkE at h; cases h
theorem ts_ok : ∀ (ts : Es) {X : Cx} {sc : Nms} {fs : List Expr}, XOk P n X sc → chkEs P X.N sc ts fs = true → fs.length ≤ 1 → PTs X fs (rdTs X.K (cfP P n) ts)
  | .nil, X, sc, fs, ok, h5, h6 => by
    have : fs = [] := by
      unfold chkEs at h5
      exact List.isEmpty_iff.mp h5
    subst this
    exact ⟨fun pins s' σ' H' Q I q => pts_nil.run pins s' σ' H' Q I (by
      obtain ⟨C, e, G, b, e1, hK, rel, hv, k⟩ := q
      unfold tsts at hv
      cases hv
      exact k H' G rel (Same.refl _))⟩
  | .cons t ts, X, sc, fs, ok, h5, h6 => by
    unfold chkEs at h5
    split at h5
    · rename_i y' ys
      rw [Bool.and_eq_true] at h5
      have : ys = [] := by
        cases ys with
        | nil => rfl
        | cons _ _ => simp at h6
      subst this
      cases ts with
      | nil =>
        have pt := tst_ok t ok h5.1
        exact ⟨fun pins s' σ' H' Q I q => (pts_one pt).run pins s' σ' H' Q I (by
          obtain ⟨C, e, G, b, e1, hK, rel, hv, k⟩ := q
          unfold tsts at hv
          exact ⟨C, e, G, b, e1, hK, rel, hv, k⟩)⟩
      | cons _ _ => unfold chkEs at h5; cases h5.2
    · cases h5
theorem evs_ok : ∀ (ts : Es) {X : Cx} {sc : Nms} {xs : List Expr}, XOk P n X sc → chkEs P X.N sc ts xs = true → PEs X (cfP P n) ts xs
  | .nil, X, sc, xs, ok, h => by
    unfold chkEs at h
    rw [List.isEmpty_iff.mp h]
    exact .nil
  | .cons t ts, X, sc, xs, ok, h => by
    unfold chkEs at h
    split at h
    · rw [Bool.and_eq_true] at h
      exact .cons (ev_ok t ok h.1) (plain_of (chk_shape h.1)) (evs_ok ts ok h.2)
    · cases h
theorem it_shape {X : Cx} {sc : Nms} : ∀ (it : PL.It) {x : Expr}, chkIt P X.N sc it x = true → shape x = true
  | .ex t, x, h => by
    unfold chkIt at h
    exact chk_shape h
  | .rng ts, x, h => by
    unfold chkIt at h
    split at h <;> first | rfl | cases h
theorem it_ok : ∀ (it : PL.It) {X : Cx} {sc : Nms} {x tg : Expr}, XOk P n X sc → chkIt P X.N sc it x = true → PI X tg x (rdI X.K (cfP P n) it)
  | .ex t, X, sc, x, tg, ok, h => by
    unfold chkIt at h
    have pe := ev_ok t ok h
    exact pi_imp (pi_or (pi_list pe) (pi_tup pe)) fun σ H R q => itx_rd q
  | .rng ts, X, sc, x, tg, ok, h => by
    unfold chkIt at h
    split at h
    · rw [Bool.and_eq_true, Bool.and_eq_true] at h
      have e := of_decide_eq_true h.1.1
      subst e
      exact rng_ok ok h.1.2 (evs_ok ts ok h.2) (.inl rfl)
    · rw [Bool.and_eq_true, Bool.and_eq_true] at h
      have e := of_decide_eq_true h.1.1
      subst e
      exact rng_ok ok h.1.2 (evs_ok ts ok h.2) (.inr (.inl rfl))
    · rw [Bool.and_eq_true, Bool.and_eq_true] at h
      have e := of_decide_eq_true h.1.1
      subst e
      exact rng_ok ok h.1.2 (evs_ok ts ok h.2) (.inr (.inr rfl))
    · cases h
theorem tst_ok : ∀ (t : Ex) {X : Cx} {sc : Nms} {x : Expr}, XOk P n X sc → chkE P X.N sc t x = true → PT X x (rdT X.K (cfP P n) t)
  | .var i, X, sc, x, ok, h => tst_gen tst_var (ev_var ok h) (by
    unfold chkE at h
    split at h
    · exact fun _ => rfl
    · cases h)
  | .cst d, X, sc, x, ok, h => tst_gen tst_cst (ev_cst h) (by
    unfold chkE at h
    split at h
    · exact fun _ => rfl
    · cases h)
  | .glb k, X, sc, x, ok, h => tst_gen tst_glb (ev_glb ok rfl h) (by
    unfold chkE at h
    split at h
    · exact fun _ => rfl
    · cases h)
  | .prm p ts, X, sc, x, ok, h => by
    unfold chkE at h
    split at h
    · rename_i xs hx; exact prm_tst ok hx (evs_ok ts ok h)
    · cases h
  | .cmp2 op op' a b d, X, sc, x, ok, h => by
    unfold chkE at h
    split at h
    · simp only [Bool.and_eq_true, decide_eq_true_eq] at h
      obtain ⟨⟨⟨⟨⟨⟨h1, h2⟩, h3⟩, h4⟩, h5⟩, h6⟩, h7⟩ := h
      subst h1 h2
      rename_i z _ _ _
      refine pt_imp (pt_chain (op_cmpF op (hu200 ok)) (op_cmpF op' (hu200 ok)) (ev_ok a ok h5) (ev_ok b ok h6) (ev_ok d ok h7) (by show behindInMarks op' _ = false; exact nobehind _ h3 h4)) fun σ H Q q => ?_
      exact cmp2_rd (tst_bool tst_cmp2 (fun _ _ _ => cmp2_bool) q)
    · cases h
  | .and a b, X, sc, x, ok, h => by
    unfold chkE at h
    split at h
    · rw [Bool.and_eq_true] at h
      exact tst_and (tst_ok a ok h.1) (pw_and1 (tst_ok b ok h.2))
    · rw [Bool.and_eq_true] at h
      exact tst_and (tst_ok a ok h.1) (pw_of (tst_ok b ok h.2))
    · cases h
  | .or a b, X, sc, x, ok, h => by
    unfold chkE at h
    split at h
    · rw [Bool.and_eq_true] at h
      exact tst_or (tst_ok a ok h.1) (pw_or1 (tst_ok b ok h.2))
    · rw [Bool.and_eq_true] at h
      exact tst_or (tst_ok a ok h.1) (pw_of (tst_ok b ok h.2))
    · cases h
  | .not a, X, sc, x, ok, h => by
    unfold chkE at h
    split at h
    · exact tst_not (tst_ok a ok h)
    · cases h
  | .ite t a b, X, sc, x, ok, h => by
    unfold chkE at h
    split at h
    · rw [Bool.and_eq_true, Bool.and_eq_true] at h
      exact tst_ite (tst_ok t ok h.1.1) (tst_ok a ok h.1.2) (tst_ok b ok h.2)
    · cases h
  | .tup ts, X, sc, x, ok, h => tst_gen tst_tup (ev_ok (.tup ts) ok h) (by
    unfold chkE at h
    split at h
    · exact fun _ => rfl
    · cases h)
  | .lst ts, X, sc, x, ok, h => tst_gen tst_lst (ev_ok (.lst ts) ok h) (by
    unfold chkE at h
    split at h
    · exact fun _ => rfl
    · cases h)
  | .call f ts, X, sc, x, ok, h => tst_gen tst_call (ev_ok (.call f ts) ok h) (by
    unfold chkE at h
    split at h
    · exact fun _ => rfl
    · cases h)
  | .mut m i ts, X, sc, x, ok, h => tst_gen tst_mut (ev_ok (.mut m i ts) ok h) (by
    unfold chkE at h
    split at h
    · exact fun _ => rfl
    · cases h)
  | .mth m t ts, X, sc, x, ok, h => tst_gen tst_mth (ev_ok (.mth m t ts) ok h) (by
    unfold chkE at h
    split at h
    · exact fun _ => rfl
    · cases h)
  | .dc tg it ifs ke el own, X, sc, x, ok, h => tst_gen tst_dc (ev_ok (.dc tg it ifs ke el own) ok h) (by
    unfold chkE at h
    split at h
    · exact fun _ => rfl
    · cases h)
  | .dsp ks ts, X, sc, x, ok, h => tst_gen tst_dsp (ev_ok (.dsp ks ts) ok h) (by
    unfold chkE at h
    split at h
    · exact fun _ => rfl
    · cases h)
  | .lc tg it ifs el own, X, sc, x, ok, h => tst_gen tst_lc (ev_ok (.lc tg it ifs el own) ok h) (by
    unfold chkE at h
    split at h
    · exact fun _ => rfl
    · cases h)
  | .tupN ts, X, sc, x, ok, h => tst_gen tst_tupN (ev_ok (.tupN ts) ok h) (by
    unfold chkE at h
    split at h
    · exact fun _ => rfl
    · cases h)
  | .lstN ts, X, sc, x, ok, h => tst_gen tst_lstN (ev_ok (.lstN ts) ok h) (by
    unfold chkE at h
    split at h
    · exact fun _ => rfl
    · cases h)
  | .kid i st, X, sc, x, ok, h => tst_gen tst_kid (ev_ok (.kid i st) ok h) (by
    unfold chkE chkPl at h
    split at h
    · exact fun _ => rfl
    · cases h)
  | .mutC m i st ts, X, sc, x, ok, h => tst_gen tst_mutC (ev_ok (.mutC m i st ts) ok h) (by
    unfold chkE at h
    split at h
    · exact fun _ => rfl
    · cases h)
  | .meth f ts, X, sc, x, ok, h => by unfold chkE at h; cases h
  | .make f ts, X, sc, x, ok, h => by unfold chkE at h; cases h
end
end
end PL

/-! PL13: statements. -/
namespace PL
open PySem PySem.Spec
open PyProof.Rows L2
/-- how a block ends -/
def EndOk (C : Co) (G : Hp) (D : Ends) : Fl → Prop
  | .nx e => ∀ σ H G', Rel C σ H e G' → Same G G' → D.nx σ H
  | .brk e => ∀ σ H G', Rel C σ H e G' → Same G G' → D.bk σ H
  | .cnt e => ∀ σ H G', Rel C σ H e G' → Same G G' → D.ct σ H
  | .ret r e => ∀ v σ H G', Rel C σ H e G' → Same G G' → RR C H G' σ e v r → D.rt v H
theorem EndOk.mono {C : Co} {G G' : Hp} {D : Ends} (g : Same G G') : ∀ {f : Fl}, EndOk C G D f → EndOk C G' D f
  | .nx _, h => fun σ H G2 r s => h σ H G2 r (g.trans s)
  | .brk _, h => fun σ H G2 r s => h σ H G2 r (g.trans s)
  | .cnt _, h => fun σ H G2 r s => h σ H G2 r (g.trans s)
  | .ret _ _, h => fun v σ H G2 r s q => h v σ H G2 r (g.trans s) q
def rdS (K : PySem.W.Frag) (c : Cf) (s : Sm) : TS := fun D σ H => ∃ C e G f, C.K = K ∧ Rel C σ H e G ∧ exec c s e = some f ∧ EndOk C G D f
def rdSs (K : PySem.W.Frag) (c : Cf) (ss : Sms) : TS := fun D σ H => ∃ C e G f, C.K = K ∧ Rel C σ H e G ∧ execs c ss e = some f ∧ EndOk C G D f
/-! ### stores -/
section
variable {C : Co} {σ : Sg} {H G : Hp} {e e1 : En}
theorem Rel.setR {i : Nat} {v : V} {r : R} (h : Rel C σ H e G) (hr : RR C H G σ e v r) (q : setR i r e = some e1) : ∃ G1, Same G G1 ∧ Rel C (σ.set i (some v)) H e1 G1 := by
  cases r with
  | d x => exact ⟨G, Same.refl _, h.putD hr q⟩
  | new o =>
    obtain ⟨a, rfl, h2, h3, h4⟩ := hr
    exact ⟨G, Same.refl _, h.putO h2 h3 h4 q⟩
  | slot j =>
    unfold PL.setR at q
    simp only [Option.bind_eq_some_iff, Prod.exists] at q
    obtain ⟨x, e2, q1, q2⟩ := q
    obtain ⟨G1, g1, h1, p1, _⟩ := h.fzR hr q1
    exact ⟨G1, g1, h1.putD p1 q2⟩
def sgAll : Sg → List Nat → List V → Sg
  | σ, i :: is, v :: vs => sgAll (σ.set i (some v)) is vs
  | σ, _, _ => σ
theorem putS_eq {i : Nat} {s : SV} (q : putS i s e = some e1) : e1 = e.set i (some s) := by
  unfold putS at q
  split at q
  · cases q
  · cases q
  · cases q; rfl
  · cases q
theorem rr_keep {σ' : Sg} {e' : En} : ∀ {vs : List V} {rs : List R}, Paired (RR C H G σ e) vs rs → (∀ r ∈ rs, ∀ j, r ≠ .slot j) → (∀ p, InNews H vs rs p → NotOwn σ H e p → NotOwn σ' H e' p) → Paired (RR C H G σ' e') vs rs
  | _, _, .nil, _, _ => .nil
  | _, _, .cons (a := w) (b := r) z zz, hs, hk => by
    refine .cons ?_ (rr_keep zz (fun r hr => hs r (List.mem_cons_of_mem _ hr)) fun p hp => hk p hp.tail)
    cases r with
    | d y => exact z
    | slot j => exact absurd rfl (hs _ List.mem_cons_self j)
    | new o' =>
      obtain ⟨c, rfl, z2, z3, z4⟩ := z
      exact ⟨c, rfl, z2, z3, fun p hp => ⟨(z4 p hp).1, (z4 p hp).2.1, hk p (InNews.head hp) (z4 p hp).2.2⟩⟩
theorem svR_noslot {ss : List SV} : ∀ r ∈ ss.map svR, ∀ j, r ≠ .slot j := fun r hr j => by
  obtain ⟨s, _, rfl⟩ := List.mem_map.mp hr
  cases s <;> exact fun z => nomatch z
theorem Rel.putAll : ∀ {js : List Nat} {vs : List V} {ss : List SV} {σ : Sg} {e e1 : En}, Rel C σ H e G → Paired (RR C H G σ e) vs (ss.map svR) → NewsD H vs (ss.map svR) → (∀ s ∈ ss, svOk s = true) → putAll js ss e = some e1 → Rel C (sgAll σ js vs) H e1 G
  | [], _, [], σ, e, e1, h, .nil, _, _, q => by unfold PL.putAll at q; cases q; exact h
  | i :: js, v :: vs, s :: ss, σ, e, e1, h, .cons r1 rr, nd, ok, q => by
    unfold PL.putAll at q
    rw [Option.bind_eq_some_iff] at q
    obtain ⟨e2, q1, q2⟩ := q
    have ok' : ∀ s ∈ ss, svOk s = true := fun s hs => ok s (List.mem_cons_of_mem _ hs)
    have he := putS_eq q1
    have hl := putS_len q1
    have hi : i < σ.length := by
      rw [← h.len]
      unfold putS at q1
      split at q1
      · cases q1
      · cases q1
      · rename_i hh; exact lt_of_get hh
      · cases q1
    cases s with
    | d x =>
      have h1 := h.putD r1 q1
      show Rel C (sgAll (σ.set i (some v)) js vs) H e1 G
      refine Rel.putAll h1 (rr_keep rr svR_noslot fun p hp z6 j b o' c y w => ?_) nd.tail ok' q2
      rw [he] at y
      rcases get_set_cases y with ⟨_, y⟩ | ⟨hj, y⟩
      · cases y
      · rw [List.getElem?_set_ne hj] at w
        exact z6 j b o' c y w
    | bor o => exact absurd (ok _ List.mem_cons_self) (by simp [svOk])
    | own b o =>
      have hb : b = false := by simpa [svOk] using ok _ List.mem_cons_self
      subst hb
      obtain ⟨a, rfl, h2, h3, h4⟩ := r1
      have h1 := h.putO h2 h3 h4 q1
      show Rel C (sgAll (σ.set i (some (.ref a))) js vs) H e1 G
      refine Rel.putAll h1 (rr_keep rr svR_noslot fun p hp z6 j b o' c y0 w hf => ?_) nd.tail ok' q2
      rw [he] at y0
      rcases get_set_cases y0 with ⟨hj, y⟩ | ⟨hj, y⟩
      · subst hj
        cases y
        rw [List.getElem?_set_self hi] at w
        cases w
        have nd' : NewsD H (.ref a :: vs) (.new o :: ss.map svR) := nd
        exact (nd'.head hf) hp
      · rw [List.getElem?_set_ne hj] at w
        exact z6 j b o' c y w hf
  | [], _, _ :: _, _, _, _, _, _, _, _, q => by unfold PL.putAll at q; cases q
  | _ :: _, _, [], _, _, _, _, _, _, _, q => by unfold PL.putAll at q; cases q
end
end PL

/-! PL14: the statements' readings and their checker. -/
namespace PL
open PySem PySem.Spec
open PyProof.Rows L2
section
variable {P : Pg} {n : Nat} {X : Cx} {sc : Nms} {c : Cf} {K : PySem.W.Frag}
theorem ps_kind {st : Stmt} {t : TS} (h : X.env.scope.kind = .function → PS X st t) : PS X st t := ⟨fun pins s σ H D I q => (h I.ok.kind).run pins s σ H D I q⟩
theorem blk_fn (hk : X.env.scope.kind = .function) : X.env.blockKind = .function := by unfold Env.blockKind; rw [hk]; rfl
/-! ### readings -/
theorem set_rdS {i : Nat} {x : Ex} {D : Ends} {σ : Sg} {H : Hp} (q : rdS K c (.set i x) D σ H) : tAsg (rdE K c x) (gName i) D σ H := by
  obtain ⟨C, e, G, f, hK, rel, hx, k⟩ := q
  unfold exec at hx
  simp only [Option.bind_eq_some_iff, Option.map_eq_some_iff, Prod.exists] at hx
  obtain ⟨r, e1, h1, e2, h2, rfl⟩ := hx
  refine ⟨C, e, G, r, e1, hK, rel, h1, fun v H1 G1 rel1 g1 rr1 => ?_⟩
  obtain ⟨G2, g2, rel2⟩ := rel1.setR rr1 h2
  exact k _ H1 G2 rel2 (g1.trans g2)
theorem setT_rdS {js : List Nat} {x : Ex} {D : Ends} {σ : Sg} {H : Hp} (q : rdS K c (.setT js x) D σ H) : tAsg (rdE K c x) (rdG K (.tp js)) D σ H := by
  obtain ⟨C, e, G, f, hK, rel, hx, k⟩ := q
  unfold exec at hx
  simp only [Option.bind_eq_some_iff, Option.map_eq_some_iff, Prod.exists] at hx
  obtain ⟨r, e1, h1, y, e2, h2, ys, h3, e3, h4, rfl⟩ := hx
  refine ⟨C, e, G, r, e1, hK, rel, h1, fun v H1 G1 rel1 g1 rr1 => ?_⟩
  obtain ⟨G2, g2, rel2, p2, _⟩ := rel1.fzR rr1 h2
  refine ⟨C, e2, G2, y, e3, hK, rel2, by rw [← hK]; exact p2, ?_, fun σ' rel' _ => k σ' H1 G2 rel' (g1.trans g2)⟩
  unfold setTg
  rw [Option.bind_eq_some_iff]
  exact ⟨ys, h3, h4⟩
def rSetB : TSet := fun o i v H Q => rSetL o i v H Q ∨ ∃ a kvs k, o = .ref a ∧ i = kV k ∧ H a = some (.dK kvs) ∧ kvs.length < sizeLine ∧ Q (upd H a (.dK (putK kvs k v)))
theorem set_both (hu : X.A.units + 1 < cLine) : PSet X rSetB := by
  intro pins s σ H o i v ov iv u Q I ro ri rv h
  rcases h with h | ⟨a, kvs, k, rfl, rfl, hH, hz, q⟩
  · exact set_list pins s σ H o i v ov iv u Q I ro ri rv h
  · cases ro
    exact d_setItem hu I (DPut.k hH hz) ri rv fun s' I' => ⟨_, I', q⟩
theorem sto_rdS {i : Nat} {y x : Ex} {D : Ends} {σ : Sg} {H : Hp} (q : rdS K c (.sto i y x) D σ H) : tAsg (rdE K c x) (gSub (tVar i) (rdE K c y) rSetB) D σ H := by
  obtain ⟨C, e, G, f, hK, rel, hx, k⟩ := q
  unfold exec at hx
  simp only [Option.bind_eq_some_iff, Prod.exists] at hx
  obtain ⟨r, e1, h1, d, e2, h2, hx⟩ := hx
  split at hx
  · cases hx
  · rename_i ho
    simp only [Option.bind_eq_some_iff, Prod.exists] at hx
    obtain ⟨r', e3, h3, hx⟩ := hx
    split at hx
    · rename_i z io o hz
      simp only [Option.map_eq_some_iff] at hx
      obtain ⟨o', h4, rfl⟩ := hx
      refine ⟨C, e, G, r, e1, hK, rel, h1, fun v H1 G1 rel1 g1 rr1 => ?_⟩
      obtain ⟨G2, g2, rel2, p2, _⟩ := rel1.fzR rr1 h2
      unfold ownAt at ho
      split at ho
      · rename_i b0 o0 he0
        obtain ⟨a, z1, _⟩ := rel2.own i b0 o0 he0
        refine ⟨.ref a, z1, C, e2, G2, .d z, e3, hK, rel2, h3, fun w H3 G3 rel3 g3 rr3 => ?_⟩
        obtain ⟨a', y1, y23, _⟩ := rel3.own i io o hz
        rw [z1] at y1; cases y1
        have hlf : o.leaf = true := by cases o with
          | nod k ts => cases h4
          | _ => rfl
        obtain ⟨⟨u', y2, y3⟩, _⟩ := y23.leaf hlf
        unfold stoF at h4
        split at h4
        · simp only [Option.map_eq_some_iff] at h4
          obtain ⟨j, h5, rfl⟩ := h4
          obtain ⟨vs, rfl, rl⟩ := y3.lst
          cases (show Rp C.K G3 w (.int _) from rr3)
          refine .inl ⟨a, vs, _, j, rfl, rfl, y2, by rw [rl.length]; exact h5, ?_⟩
          exact k σ _ G3 (rel3.setOwn hz z1 rfl (show ObR C.K G3 (.lst _) (.lst _) from RpL.set (p2.mono g3) j rl)) ((g1.trans g2).trans g3)
        · split at h4
          · rename_i hc
            cases h4
            rw [Bool.and_eq_true, decide_eq_true_eq] at hc
            obtain ⟨vs, rfl, rl⟩ := y3.dic
            obtain ⟨k0, rfl, rfl⟩ := isKey_rp hc.1 (show Rp C.K G3 w _ from rr3)
            refine .inr ⟨a, vs, k0, rfl, rfl, y2, by rw [rl.length]; exact hc.2, ?_⟩
            exact k σ _ G3 (rel3.setOwn hz z1 rfl (show ObR C.K G3 (.dK _) (.dic _) from RpD.put (p2.mono g3) rl)) ((g1.trans g2).trans g3)
          · cases h4
        · cases h4
      · cases ho
    · cases hx
theorem exp_rdS {x : Ex} {D : Ends} {σ : Sg} {H : Hp} (q : rdS K c (.exp x) D σ H) : tDrop (rdE K c x) D σ H := by
  obtain ⟨C, e, G, f, hK, rel, hx, k⟩ := q
  unfold exec at hx
  simp only [Option.map_eq_some_iff, Prod.exists] at hx
  obtain ⟨r, e1, h1, rfl⟩ := hx
  exact ⟨C, e, G, r, e1, hK, rel, h1, fun v H1 G1 rel1 g1 rr1 => k σ H1 G1 rel1 g1⟩
theorem ret_rdS {x : Ex} {D : Ends} {σ : Sg} {H : Hp} (q : rdS K c (.ret x) D σ H) : tRet (rdE K c x) D σ H := by
  obtain ⟨C, e, G, f, hK, rel, hx, k⟩ := q
  unfold exec at hx
  simp only [Option.bind_eq_some_iff, Prod.exists] at hx
  obtain ⟨r, e1, h1, hx⟩ := hx
  refine ⟨C, e, G, r, e1, hK, rel, h1, fun v H1 G1 rel1 g1 rr1 => ?_⟩
  split at hx
  · cases hx; exact k v σ H1 G1 rel1 g1 rr1
  · cases hx; exact k v σ H1 G1 rel1 g1 rr1
  · split at hx
    · rename_i i o ho
      cases hx
      obtain ⟨z1, z2⟩ := rel1.drop ho rr1
      exact k v σ H1 G1 z1 g1 z2
    · cases hx
theorem retn_rdS {D : Ends} {σ : Sg} {H : Hp} (q : rdS K c .retn D σ H) : tRetN D σ H := by
  obtain ⟨C, e, G, f, hK, rel, hx, k⟩ := q
  unfold exec at hx
  cases hx
  exact k .non σ H G rel (Same.refl _) .non
theorem brk_rdS {D : Ends} {σ : Sg} {H : Hp} (q : rdS K c .brk D σ H) : tBreak D σ H := by
  obtain ⟨C, e, G, f, hK, rel, hx, k⟩ := q
  unfold exec at hx
  cases hx
  exact k σ H G rel (Same.refl _)
theorem cnt_rdS {D : Ends} {σ : Sg} {H : Hp} (q : rdS K c .cnt D σ H) : tCont D σ H := by
  obtain ⟨C, e, G, f, hK, rel, hx, k⟩ := q
  unfold exec at hx
  cases hx
  exact k σ H G rel (Same.refl _)
theorem pas_rdS {D : Ends} {σ : Sg} {H : Hp} (q : rdS K c .pas D σ H) : tNext D σ H := by
  obtain ⟨C, e, G, f, hK, rel, hx, k⟩ := q
  unfold exec at hx
  cases hx
  exact k σ H G rel (Same.refl _)
theorem nev_rdS {D : Ends} {σ : Sg} {H : Hp} (q : rdS K c .nev D σ H) : tNever D σ H := by
  obtain ⟨C, e, G, f, hK, rel, hx, k⟩ := q
  unfold exec at hx
  cases hx
theorem nil_rdSs {D : Ends} {σ : Sg} {H : Hp} (q : rdSs K c .nil D σ H) : tNext D σ H := by
  obtain ⟨C, e, G, f, hK, rel, hx, k⟩ := q
  unfold execs at hx
  cases hx
  exact k σ H G rel (Same.refl _)
theorem cons_rdSs {s : Sm} {ss : Sms} {D : Ends} {σ : Sg} {H : Hp} (q : rdSs K c (.cons s ss) D σ H) : tSeq (rdS K c s) (rdSs K c ss) D σ H := by
  obtain ⟨C, e, G, f, hK, rel, hx, k⟩ := q
  unfold execs at hx
  split at hx
  · rename_i e1 h1
    refine ⟨C, e, G, _, hK, rel, h1, fun σ1 H1 G1 rel1 g1 => ?_⟩
    exact ⟨C, e1, G1, f, hK, rel1, hx, k.mono g1⟩
  · rename_i r e1 h1
    cases hx
    exact ⟨C, e, G, _, hK, rel, h1, k⟩
  · rename_i e1 h1
    cases hx
    exact ⟨C, e, G, _, hK, rel, h1, k⟩
  · rename_i e1 h1
    cases hx
    exact ⟨C, e, G, _, hK, rel, h1, k⟩
  · cases hx
theorem one_rdSs {s : Sm} {D : Ends} {σ : Sg} {H : Hp} (q : rdSs K c (.cons s .nil) D σ H) : rdS K c s D σ H := by
  obtain ⟨C, e, G, f, hK, rel, hx, k⟩ := q
  unfold execs at hx
  split at hx
  · rename_i e1 h1
    unfold execs at hx
    cases hx
    exact ⟨C, e, G, _, hK, rel, h1, k⟩
  · rename_i r e1 h1
    cases hx
    exact ⟨C, e, G, _, hK, rel, h1, k⟩
  · rename_i e1 h1
    cases hx
    exact ⟨C, e, G, _, hK, rel, h1, k⟩
  · rename_i e1 h1
    cases hx
    exact ⟨C, e, G, _, hK, rel, h1, k⟩
  · cases hx
theorem ifs_rdS {t : Ex} {a b : Sms} {D : Ends} {σ : Sg} {H : Hp} (q : rdS K c (.ifs t a b) D σ H) : tIfS (rdT K c t) (rdSs K c a) (rdSs K c b) D σ H := by
  obtain ⟨C, e, G, f, hK, rel, hx, k⟩ := q
  unfold exec at hx
  simp only [Option.bind_eq_some_iff, Prod.exists] at hx
  obtain ⟨z, e1, h1, hx⟩ := hx
  refine ⟨C, e, G, z, e1, hK, rel, h1, fun H1 G1 rel1 g1 => ?_⟩
  cases z with
  | true => exact iteT ⟨C, e1, G1, f, hK, rel1, hx, k.mono g1⟩
  | false => exact iteF ⟨C, e1, G1, f, hK, rel1, hx, k.mono g1⟩
theorem par_rdS {js : List Nat} {es : Es} {D : Ends} {σ : Sg} {H : Hp} (q : rdS K c (.par js es) D σ H) : rdA K c es σ H fun vs H1 => vs.length = js.length ∧ D.nx (sgAll σ js vs) H1 := by
  obtain ⟨C, e, G, f, hK, rel, hx, k⟩ := q
  unfold exec at hx
  simp only [Option.bind_eq_some_iff, Option.map_eq_some_iff, Prod.exists] at hx
  obtain ⟨rs, e1, h1, ss, e2, h2, e3, h3, rfl⟩ := hx
  refine ⟨C, e, G, rs, e1, hK, rel, h1, fun vs H1 G1 rel1 g1 rr1 nd => ?_⟩
  obtain ⟨G2, g2, k1, k2, k3, k4, _⟩ := rel1.subs rr1 nd h2
  refine ⟨?_, k _ H1 G2 (k1.putAll k2 k3 k4 h3) (g1.trans g2)⟩
  have z := Paired.length k2
  rw [List.length_map] at z
  rw [z, len_putAll h3]
theorem fr_rdS {tg : Tg} {it : PL.It} {b : Sms} {D : Ends} {σ : Sg} {H : Hp} (q : rdS K c (.fr tg it b) D σ H) : tFor (rdI K c it) (rdG K tg) (rdSs K c b) D σ H := by
  obtain ⟨C, e, G, f, hK, rel, hx, k⟩ := q
  subst hK
  unfold exec at hx
  simp only [Option.bind_eq_some_iff, Prod.exists] at hx
  obtain ⟨xs, e1, h1, hx⟩ := hx
  refine ⟨C, e, G, xs, e1, rfl, rel, h1, fun J H1 G1 rel1 g1 hJ => ?_⟩
  let F : PyData → En → Option Fl := fun x e2 => (setTg tg x e2).bind (execs c b)
  have hx : forL F xs e1 = some f := hx
  have k1 := k.mono g1
  refine ⟨fun i m σ' H' => m = xs.length - i ∧ i ≤ xs.length ∧ ∃ e' G', Rel C σ' H' e' G' ∧ Same G1 G' ∧ forL F (xs.drop i) e' = some f, ⟨xs.length, by simp, Nat.zero_le _, e1, G1, rel1, Same.refl _, hx⟩, ?_⟩
  rintro i m σ' H' ⟨rfl, hi, e', G', r', g', hl⟩
  by_cases hlt : i < xs.length
  · right
    have hgo := hJ.go i H' (g'.trans r'.sub) hlt
    have hdr := List.drop_eq_getElem_cons hlt
    rw [hdr] at hl
    unfold forL at hl
    refine ⟨hgo, fun σ2 H2 => ∃ e2 G2, Rel C σ2 H2 e2 G2 ∧ Same G1 G2 ∧ forL F (xs.drop (i + 1)) e2 = some f, fun σ2 H2 ⟨e2, G2, w1, w2, w3⟩ => ⟨xs.length - (i + 1), by omega, rfl, hlt, e2, G2, w1, w2, w3⟩, fun v H2 hy => ?_⟩
    obtain ⟨rfl, x', hx', hv'⟩ := hJ.yld i H' v H2 (g'.trans r'.sub) hlt hy
    rw [List.getElem?_eq_getElem hlt] at hx'
    cases hx'
    have hF : ∃ e3 f1, setTg tg xs[i] e' = some e3 ∧ execs c b e3 = some f1 := by
      cases q1 : setTg tg xs[i] e' with
      | none =>
        have : F xs[i] e' = none := by show (setTg tg xs[i] e').bind (execs c b) = none; rw [q1]; rfl
        rw [this] at hl
        cases hl
      | some e3 =>
        cases q2 : execs c b e3 with
        | none =>
          have : F xs[i] e' = none := by show (setTg tg xs[i] e').bind (execs c b) = none; rw [q1]; exact q2
          rw [this] at hl
          cases hl
        | some f1 => exact ⟨e3, f1, rfl, q2⟩
    obtain ⟨e3, f1, q1, q2⟩ := hF
    have q3 : F xs[i] e' = some f1 := by show (setTg tg xs[i] e').bind (execs c b) = some f1; rw [q1]; exact q2
    rw [q3] at hl
    refine ⟨C, e', G', xs[i], e3, rfl, r', hv'.mono g', q1, fun σ2 rel3 _ => ⟨C, e3, G', f1, rfl, rel3, q2, ?_⟩⟩
    cases f1 with
    | nx e4 => exact fun σ4 H4 G4 rel4 g4 => ⟨e4, G4, rel4, g'.trans g4, hl⟩
    | cnt e4 => exact fun σ4 H4 G4 rel4 g4 => ⟨e4, G4, rel4, g'.trans g4, hl⟩
    | brk e4 => cases hl; exact fun σ4 H4 G4 rel4 g4 => k1 σ4 H4 G4 rel4 (g'.trans g4)
    | ret r e4 => cases hl; exact fun v σ4 H4 G4 rel4 g4 rr4 => k1 v σ4 H4 G4 rel4 (g'.trans g4) rr4
  · left
    have hie : i = xs.length := by omega
    subst hie
    rw [List.drop_length] at hl
    unfold forL at hl
    cases hl
    exact ⟨hJ.stop _ H' (g'.trans r'.sub) (Nat.le_refl _), k1 σ' H' G' r' g'⟩
theorem whl_rdS {m : Nat} {t : Ex} {b : Sms} {D : Ends} {σ : Sg} {H : Hp} (q : rdS K c (.whl m t b) D σ H) : tWhile (rdT K c t) (rdSs K c b) D σ H := by
  obtain ⟨C, e, G, f, hK, rel, hx, k⟩ := q
  subst hK
  unfold exec at hx
  refine ⟨fun j σ' H' => ∃ e' G', Rel C σ' H' e' G' ∧ Same G G' ∧ whlL (tst c t) (execs c b) j e' = some f, ⟨m, e, G, rel, Same.refl _, hx⟩, ?_⟩
  rintro j σ' H' ⟨e', G', r', g', hl⟩
  cases j with
  | zero => unfold whlL at hl; cases hl
  | succ j =>
    unfold whlL at hl
    simp only [Option.bind_eq_some_iff, Prod.exists] at hl
    obtain ⟨z, e1, h1, hl⟩ := hl
    refine ⟨C, e', G', z, e1, rfl, r', h1, fun H1 G1 rel1 g1 => ?_⟩
    cases z with
    | false => cases hl; exact iteF (k σ' H1 G1 rel1 (g'.trans g1))
    | true =>
      refine iteT ⟨fun σ2 H2 => ∃ e2 G2, Rel C σ2 H2 e2 G2 ∧ Same G G2 ∧ whlL (tst c t) (execs c b) j e2 = some f, fun σ2 H2 w => ⟨j, by omega, w⟩, ?_⟩
      simp only at hl
      cases q2 : execs c b e1 with
      | none => rw [q2] at hl; cases hl
      | some f1 =>
        rw [q2] at hl
        refine ⟨C, e1, G1, f1, rfl, rel1, q2, ?_⟩
        have gg := g'.trans g1
        cases f1 with
        | nx e4 => exact fun σ4 H4 G4 rel4 g4 => ⟨e4, G4, rel4, gg.trans g4, hl⟩
        | cnt e4 => exact fun σ4 H4 G4 rel4 g4 => ⟨e4, G4, rel4, gg.trans g4, hl⟩
        | brk e4 => cases hl; exact fun σ4 H4 G4 rel4 g4 => k σ4 H4 G4 rel4 (gg.trans g4)
        | ret r e4 => cases hl; exact fun v σ4 H4 G4 rel4 g4 rr4 => k v σ4 H4 G4 rel4 (gg.trans g4) rr4
end
end PL

/-! PL15: all statements. -/
namespace PL
open PySem PySem.Spec
open PyProof.Rows L2
/-! ### the checker -/
def nmOk (N : List Str) (sc : Nms) (i : Nat) (y : Str) : Bool := decide (N[i]? = some y) && (decide (sc.lookup y = some .local) || decide (sc.lookup y = some .cell))
/-- names stored from the right: all local, on one line -/
def parNs (N : List Str) (sc : Nms) (l : Nat) : List Nat → List Expr → Bool
  | [], [] => true
  | i :: is, .Name x p :: xs => decide (N[i]? = some x) && decide (sc.lookup x = some .local) && (p.line == l) && parNs N sc l is xs
  | _, _ => false
def headLine : List Expr → Nat
  | .Name _ p :: _ => p.line
  | _ => 0
def notLc : Expr → Bool
  | .ListComp .. => false
  | .DictComp .. => false
  | _ => true
/-- a tuple that is stored from the left -/
def leftOk (js : List Nat) : Expr → Bool
  | .Tuple xs _ _ => xs.all (foldedForSure 8) || !(js.length == 2 || js.length == 3)
  | _ => true
mutual
def chkS (P : Pg) (N : List Str) (sc : Nms) : Sm → Stmt → Bool
  | .set i t, st => match st with
    | .Assign [.Name y _] x _ => nmOk N sc i y && chkE P N sc t x
    | _ => false
  | .setT js t, st => match st with
    | .Assign [.Tuple ts k tp] x _ => leftOk js x && chkTg N sc (.tp js) (.Tuple ts k tp) && chkE P N sc t x
    | _ => false
  | .par js es, st => match st with
    | .Assign [.Tuple ts _ _] (.Tuple xs _ _) _ => decide js.Nodup && (js.length == 2 || js.length == 3) && parNs N sc (headLine ts) js ts && !(xs.all (foldedForSure 8)) && !(xs.all (constantsAlone 8)) && decide (xs.length = js.length) && chkEs P N sc es xs
    | _ => false
  | .aug _ _ _, _ => false
  | .fst _ _ _, _ => false
  | .sto i t u, st => match st with
    | .Assign [.Subscript (.Name y _) k _] x _ => decide (N[i]? = some y) && visK (sc.lookup y) && !(y == ("__debug__" : Str)) && !(y == ("__classdict__" : Str)) && chkE P N sc t k && chkE P N sc u x
    | _ => false
  | .exp t, st => match st with
    | .Expr x _ => notLc x && chkE P N sc t x
    | _ => false
  | .ifs t a b, st => match st with
    | .If x u v _ => chkE P N sc t x && chkSs P N sc a u && chkSs P N sc b v
    | _ => false
  | .fr tg it b, st => match st with
    | .For g x u [] _ => chkTg N sc tg g && chkIt P N sc it x && chkSs P N sc b u
    | _ => false
  | .whl _ t b, st => match st with
    | .While x u [] _ => chkE P N sc t x && chkSs P N sc b u
    | _ => false
  | .ret t, st => match st with
    | .Return (some x) _ => chkE P N sc t x
    | _ => false
  | .retn, st => match st with
    | .Return none _ => true
    | _ => false
  | .brk, st => match st with
    | .Break _ => true
    | _ => false
  | .cnt, st => match st with
    | .Continue _ => true
    | _ => false
  | .pas, st => match st with
    | .Pass _ => true
    | .Expr (.Constant (.str _) _ _) _ => true
    | _ => false
  | .nev, _ => true
def chkSs (P : Pg) (N : List Str) (sc : Nms) : Sms → List Stmt → Bool
  | .nil, sts => sts.isEmpty
  | .cons s ss, sts => match sts with
    | st :: r => chkS P N sc s st && chkSs P N sc ss r
    | [] => false
end
section
variable {P : Pg} {n : Nat} {X : Cx} {sc : Nms}
theorem sub_asg {a i : Expr} {pos : Pos} {env : Env} (hs : shape i = true) : ∀ v, assign (.Subscript a i pos) env v = (do
    let ov ← holding [v] (eval a env)
    let iv ← holding [v, ov] (eval i env)
    standAt pos
    holding [v, ov, iv] (setItem ov iv v)
    release [v, ov, iv] []) := by
  intro v
  cases i <;> first | rfl | exact absurd hs Bool.false_ne_true
theorem nmOk_loc (ok : XOk P n X sc) {i : Nat} {y : Str} (h : nmOk X.N sc i y = true) : X.N[i]? = some y ∧ Loc X.env.scope y ∧ (X.fn y = true ∨ X.env.scope.names.lookup y = some .local) := by
  unfold nmOk at h
  rw [Bool.and_eq_true, Bool.or_eq_true, decide_eq_true_eq, decide_eq_true_eq, decide_eq_true_eq] at h
  obtain ⟨h1, h2⟩ := h
  rcases h2 with h2 | h2
  · exact ⟨h1, .inl (ok.loc y h2), .inr (ok.loc y h2)⟩
  · exact ⟨h1, .inr (ok.cell y h2).1, .inl (ok.cell y h2).2⟩
theorem swW_not {x : Expr} {t : Option Expr} {l : Nat} {env : Env} (hs : shape x = true) (hn : notLc x = true) : swapsWith x t l env = pure false := by
  cases x <;> first | rfl | exact absurd hn Bool.false_ne_true | exact absurd hs Bool.false_ne_true
theorem swS_tup {x : Expr} {ts : List Expr} {k : Nat} {tp : Pos} {l : Nat} {env : Env} (hs : shape x = true) : swapsWithSole [.Tuple ts k tp] x l env = pure false := by
  cases x <;> first | rfl | exact absurd hs Bool.false_ne_true
theorem swS_sub {x a b : Expr} {tp : Pos} {l : Nat} {env : Env} (hs : shape x = true) : swapsWithSole [.Subscript a b tp] x l env = pure false := by
  cases x <;> first | rfl | exact absurd hs Bool.false_ne_true
theorem swSt_sub {x a b : Expr} {tp : Pos} {env : Env} (hs : shape x = true) : swappedStores [.Subscript a b tp] x env = pure none := by
  cases x <;> first | rfl | exact absurd hs Bool.false_ne_true
theorem swSt_left {x : Expr} {ts : List Expr} {k : Nat} {tp : Pos} {env : Env} {js : List Nat} (hs : shape x = true) (hl : leftOk js x = true) (hj : ts.length = js.length) : swappedStores [.Tuple ts k tp] x env = pure none := by
  cases x with
  | Tuple xs k2 p2 =>
    unfold leftOk at hl
    unfold swappedStores
    simp only
    rw [Bool.or_eq_true] at hl
    rcases hl with hl | hl
    · split
      · rfl
      · split
        · rfl
        · split
          · rfl
          · first | rfl | rw [if_pos hl]
    · rw [← hj] at hl
      rw [if_pos (by rw [hl]; rfl)]
      first | done | rfl
  | _ => first | rfl | cases hs
theorem chkNs_len {N : List Str} : ∀ {js : List Nat} {ts : List Expr}, chkTg.chkNs N sc js ts = true → ts.length = js.length
  | [], [], _ => rfl
  | i :: js, t :: ts, h => by
    cases t with
    | Name x p =>
      have h : (decide (N[i]? = some x) && (decide (sc.lookup x = some .local) || decide (sc.lookup x = some .cell)) && chkTg.chkNs N sc js ts) = true := h
      rw [Bool.and_eq_true] at h
      rw [List.length_cons, List.length_cons, chkNs_len h.2]
    | _ => exact absurd (show false = true from h) Bool.false_ne_true
  | [], _ :: _, h => by unfold chkTg.chkNs at h; cases h
  | _ :: _, [], h => by unfold chkTg.chkNs at h; cases h
theorem blk_fn' {env : Env} (hk : env.scope.kind = .function) : env.blockKind = .function := by unfold Env.blockKind; rw [hk]; rfl
theorem dc_parts {tg : Tg} {it : PL.It} {ifs : Es} {ke el : Ex} {own : List Nat} {z y g i : Expr} {fs : List Expr} {scope : Scope} {pos : Pos} (ok : XOk P n X sc) (h : chkE P X.N sc (.dc tg it ifs ke el own) (.DictComp z y [⟨g, i, fs, 0⟩] scope pos) = true) :
    PI X g i (rdI X.K (cfP P n) it) ∧ BlkOk X.N X.env.scope scope (own.map fun i => (X.N.getD i "", i)) ∧ (∀ (s : Shared) (H : Hp) (C : Addr) (cl : List (Str × Addr)) (fp : List Addr), PG (X.blk s H scope (compEnvC scope cl C X.env) fp) g (rdG X.K tg)) ∧
    (∀ (s : Shared) (H : Hp) (C : Addr) (cl : List (Str × Addr)) (fp : List Addr), PTs (X.blk s H scope (compEnvC scope cl C X.env) fp) fs (rdTs X.K (cfP P n) ifs)) ∧
    (∀ (s : Shared) (H : Hp) (C : Addr) (cl : List (Str × Addr)) (fp : List Addr), PE (X.blk s H scope (compEnvC scope cl C X.env) fp) z (rdE X.K (cfP P n) ke)) ∧
    (∀ (s : Shared) (H : Hp) (C : Addr) (cl : List (Str × Addr)) (fp : List Addr), PE (X.blk s H scope (compEnvC scope cl C X.env) fp) y (rdE X.K (cfP P n) el)) ∧ (∀ x, foldedSetIterable i X.env x = pure x) ∧ (∀ i ∈ tg.sl, i ∈ own) := by
  unfold chkE at h
  simp only [Bool.and_eq_true, decide_eq_true_eq, List.all_eq_true] at h
  obtain ⟨⟨⟨⟨⟨⟨⟨h1, h2⟩, h3⟩, h4⟩, h5⟩, h6⟩, h8⟩, h7⟩ := h
  obtain ⟨b1, b2⟩ := blk_ok ok h1
  have hsh : shape i = true := it_shape (n := n) it h4
  have pl := plain_of hsh
  exact ⟨it_ok it ok h4, b1, fun s H C cl fp => (show PG _ g (rdG X.K tg) from tg_ok (b2 s H C cl fp) h3), fun s H C cl fp => ts_ok ifs (b2 s H C cl fp) h5 h6, fun s H C cl fp => (show PE _ z (rdE X.K (cfP P n) ke) from ev_ok ke (b2 s H C cl fp) h8),
    fun s H C cl fp => (show PE _ y (rdE X.K (cfP P n) el) from ev_ok el (b2 s H C cl fp) h7), fun y => pl.fold _ y, fun i hi => by simpa using h2 i hi⟩
/-- the parts of a comprehension -/
theorem lc_parts {tg : Tg} {it : PL.It} {ifs : Es} {el : Ex} {own : List Nat} {y g i : Expr} {fs : List Expr} {scope : Scope} {pos : Pos} (ok : XOk P n X sc) (h : chkE P X.N sc (.lc tg it ifs el own) (.ListComp y [⟨g, i, fs, 0⟩] scope pos) = true) :
    PI X g i (rdI X.K (cfP P n) it) ∧ BlkOk X.N X.env.scope scope (own.map fun i => (X.N.getD i "", i)) ∧ (∀ (s : Shared) (H : Hp) (C : Addr) (cl : List (Str × Addr)) (fp : List Addr), PG (X.blk s H scope (compEnvC scope cl C X.env) fp) g (rdG X.K tg)) ∧
    (∀ (s : Shared) (H : Hp) (C : Addr) (cl : List (Str × Addr)) (fp : List Addr), PTs (X.blk s H scope (compEnvC scope cl C X.env) fp) fs (rdTs X.K (cfP P n) ifs)) ∧
    (∀ (s : Shared) (H : Hp) (C : Addr) (cl : List (Str × Addr)) (fp : List Addr), PE (X.blk s H scope (compEnvC scope cl C X.env) fp) y (rdE X.K (cfP P n) el)) ∧ (∀ x, foldedSetIterable i X.env x = pure x) ∧ (∀ i ∈ tg.sl, i ∈ own) := by
  unfold chkE at h
  simp only [Bool.and_eq_true, decide_eq_true_eq, List.all_eq_true] at h
  obtain ⟨⟨⟨⟨⟨⟨h1, h2⟩, h3⟩, h4⟩, h5⟩, h6⟩, h7⟩ := h
  obtain ⟨b1, b2⟩ := blk_ok ok h1
  have hsh : shape i = true := it_shape (n := n) it h4
  have pl := plain_of hsh
  refine ⟨it_ok it ok h4, b1, fun s H C cl fp => (show PG _ g (rdG X.K tg) from tg_ok (b2 s H C cl fp) h3), fun s H C cl fp => ?_, fun s H C cl fp => (show PE _ y (rdE X.K (cfP P n) el) from ev_ok el (b2 s H C cl fp) h7), fun y => pl.fold _ y, fun i hi => by simpa using h2 i hi⟩
  exact ts_ok ifs (b2 s H C cl fp) h5 h6
theorem sw_comp {y : Str} {scope : Scope} {pos py : Pos} {env : Env} (h : ((py.line == pos.line) = true → env.kindOf y = some .local → (scope.names.any fun (n, k) => n == y && (k == .local || k == .cell)) = false → False)) :
    (pure (env.blockKind == .function && env.kindOf y == some .local && py.line == pos.line && !(scope.names.any fun (n, k) => n == y && (k == .local || k == .cell))) : Sem Bool) = pure false := by
  congr 1
  cases h1 : (env.blockKind == .function) with
  | false => rfl
  | true =>
    cases h2 : (env.kindOf y == some .local) with
    | false => rfl
    | true =>
      cases h3 : (py.line == pos.line) with
      | false => rfl
      | true =>
        cases h4 : (scope.names.any fun (n, k) => n == y && (k == .local || k == .cell)) with
        | true => rfl
        | false => exact (h h3 (eq_of_beq h2) h4).elim
theorem sw_falseD {y : Str} {kx vx : Expr} {gs : List Comprehension} {scope : Scope} {pos py : Pos} {l : Nat} {env : Env} (h : ((py.line == pos.line) = true → env.kindOf y = some .local → (scope.names.any fun (n, k) => n == y && (k == .local || k == .cell)) = false → False)) : swapsWith (.DictComp kx vx gs scope pos) (some (.Name y py)) l env = pure false := by
  unfold swapsWith
  simp only [Expr.pos]
  exact sw_comp h
theorem sw_trueD {kx vx : Expr} {gs : List Comprehension} {scope : Scope} {pos py : Pos} {y : Str} {l : Nat} {env : Env} (hk : env.scope.kind = .function) (hy : env.scope.names.lookup y = some .local) (hl : (py.line == pos.line) = true)
    (ha : (scope.names.any fun (n, k) => n == y && (k == .local || k == .cell)) = false) : swapsWith (.DictComp kx vx gs scope pos) (some (.Name y py)) l env = pure true := by
  have ky : env.kindOf y = some .local := hy
  have hb := blk_fn' hk
  unfold swapsWith
  simp only [hb, ky, ha, Expr.pos, hl]
  rfl
/-- name = {..} on one line, the name a local -/
theorem ps_setDc {i : Nat} {y : Str} {py : Pos} {kx vx tg iter : Expr} {ifs : List Expr} {scope : Scope} {own : List (Str × Nat)} {pos spos : Pos} {wi : TI} {g : TG} {tt : TT} {tk tv : TE} (hc : X.calm = true) (hN : X.N.Nodup) (hy : X.N[i]? = some y) (hyl : X.env.scope.names.lookup y = some .local)
    (hsw : swapsWith (.DictComp kx vx [⟨tg, iter, ifs, 0⟩] scope pos) (some (.Name y py)) spos.line X.env = pure true) (hi : PI X tg iter wi) (ok : BlkOk X.N X.env.scope scope own)
    (hg : ∀ (s : Shared) (H : Hp) (C : Addr) (cl : List (Str × Addr)) (fp : List Addr), PG (X.blk s H scope (compEnvC scope cl C X.env) fp) tg g) (ht : ∀ (s : Shared) (H : Hp) (C : Addr) (cl : List (Str × Addr)) (fp : List Addr), PTs (X.blk s H scope (compEnvC scope cl C X.env) fp) ifs tt)
    (hk : ∀ (s : Shared) (H : Hp) (C : Addr) (cl : List (Str × Addr)) (fp : List Addr), PE (X.blk s H scope (compEnvC scope cl C X.env) fp) kx tk)
    (he : ∀ (s : Shared) (H : Hp) (C : Addr) (cl : List (Str × Addr)) (fp : List Addr), PE (X.blk s H scope (compEnvC scope cl C X.env) fp) vx tv) (hs : ∀ x, foldedSetIterable iter X.env x = pure x) :
    PS X (.Assign [.Name y py] (.DictComp kx vx [⟨tg, iter, ifs, 0⟩] scope pos) spos) (tAsg (tDc wi g tt tk tv (own.map (·.2))) (gName i)) := by
  constructor
  intro pins s σ H D I h
  rw [exec_Assign_Name_used _ _ _ _ hsw]
  replace h : tDc wi g tt tk tv (own.map (·.2)) σ H (fun x H1 => gName i x σ H1 D.nx) := h
  refine wpAny_bind (wpAny_standAt (wpAny_bind ?_))
  show wpAny _ X.A (do let _ ← comprehension (.DictComp kx vx [⟨tg, iter, ifs, 0⟩] scope pos) scope X.env (firstIterPos [⟨tg, iter, ifs, 0⟩] pos) newDict false (eval iter X.env) (some (assign (.Name y py) X.env))) _ _ s
  refine wpAny_bind (thn (dc_core (Qf := fun _ s' => SP X pins D .next s') hc hN I hi ok hg ht hk he hs h ?_) fun _ s' hq => wpAny_pure (wpAny_pure hq))
  intro L C s' m H' I' q hn f
  show wpAny _ _ (assign (.Name y py) X.env (.ref L)) _ _ _
  refine wpAny_assign_Name (store_ok2 (v := V.ref L) I' hN hy (.inl hyl) rfl ?_ (.inr hyl))
  rintro s2 I2 ⟨a, sb, ha⟩
  obtain ⟨f0, f1, f2, f3, f4, f5⟩ := f
  refine ⟨m, hn.sameBut sb ?_, ?_⟩
  · rcases ha with z | z
    · rw [z]; exact f1
    · exact fun e => f4 y a z e.symm
  · intro h3 sb3
    exact ⟨_, H', I2.turned (t' := s2.toks) (fun b o hb e => (sb3.2 b hb).trans e) f0 f1 f3 f4 f5, q⟩
theorem sw_false {y : Str} {elt : Expr} {gs : List Comprehension} {scope : Scope} {pos py : Pos} {l : Nat} {env : Env} (h : ((py.line == pos.line) = true → env.kindOf y = some .local → (scope.names.any fun (n, k) => n == y && (k == .local || k == .cell)) = false → False)) : swapsWith (.ListComp elt gs scope pos) (some (.Name y py)) l env = pure false := by
  unfold swapsWith
  simp only [Expr.pos]
  show (pure (env.blockKind == .function && env.kindOf y == some .local && py.line == pos.line && !(scope.names.any fun (n, k) => n == y && (k == .local || k == .cell))) : Sem Bool) = pure false
  congr 1
  cases h1 : (env.blockKind == .function) with
  | false => rfl
  | true =>
    cases h2 : (env.kindOf y == some .local) with
    | false => rfl
    | true =>
      cases h3 : (py.line == pos.line) with
      | false => rfl
      | true =>
        cases h4 : (scope.names.any fun (n, k) => n == y && (k == .local || k == .cell)) with
        | true => rfl
        | false => exact (h h3 (eq_of_beq h2) h4).elim
theorem set_ok (ok : XOk P n X sc) {i : Nat} {t : Ex} {y : Str} {py pos : Pos} {x : Expr} (h1 : nmOk X.N sc i y = true) (h2 : chkE P X.N sc t x = true) : PS X (.Assign [.Name y py] x pos) (rdS X.K (cfP P n) (.set i t)) := by
  refine ps_kind fun hk => ?_
  obtain ⟨k1, k2, k3⟩ := nmOk_loc ok h1
  have hs := chk_shape h2
  cases hn : notLc x with
  | true => exact ps_imp (ps_set ok.nd k1 k2 (ev_ok t ok h2) (swW_not hs hn) k3) fun σ H D q => set_rdS q
  | false =>
    cases x with
    | ListComp elt gs scope lpos =>
      by_cases hc : (py.line == lpos.line) = true ∧ X.env.kindOf y = some .local ∧ (scope.names.any fun (n, k) => n == y && (k == .local || k == .cell)) = false
      · obtain ⟨c1, c2, c3⟩ := hc
        have h2' := h2
        cases t with
        | lc tg it ifs el own =>
          unfold chkE at h2
          split at h2
          · rename_i he
            cases he
            obtain ⟨p1, p2, p3, p4, p5, p6, p7⟩ := lc_parts ok h2'
            refine ps_imp (ps_setLc ok.calm ok.nd k1 c2 (sw_true hk c2 c1 c3) p1 p2 p3 p4 p5 p6) fun σ H D q => ?_
            have eown : (own.map fun i => (X.N.getD i "", i)).map (·.2) = own := by rw [List.map_map]; exact List.map_id' own
            rw [eown]
            exact lc_rd p7 (set_rdS q)
          · cases h2
        | prm p ts => unfold chkE at h2; split at h2; · rename_i hx; exact absurd hx (by cases p <;> (first | (unfold argsP; intro z; cases z) | (rename_i a b; cases a <;> cases b <;> (unfold argsP; intro z; cases z))))
                      · cases h2
        | _ => unfold chkE at h2; cases h2
      · refine ps_imp (ps_set ok.nd k1 k2 (ev_ok t ok h2) (sw_false fun a b c => hc ⟨a, b, c⟩) k3) fun σ H D q => set_rdS q
    | DictComp kx vx gs scope lpos =>
      by_cases hc : (py.line == lpos.line) = true ∧ X.env.kindOf y = some .local ∧ (scope.names.any fun (n, k) => n == y && (k == .local || k == .cell)) = false
      · obtain ⟨c1, c2, c3⟩ := hc
        have h2' := h2
        cases t with
        | dc tg it ifs ke el own =>
          unfold chkE at h2
          split at h2
          · rename_i he
            cases he
            obtain ⟨p1, p2, p3, p4, p5, p6, p7, p8⟩ := dc_parts ok h2'
            refine ps_imp (ps_setDc ok.calm ok.nd k1 c2 (sw_trueD hk c2 c1 c3) p1 p2 p3 p4 p5 p6 p7) fun σ H D q => ?_
            have eown : (own.map fun i => (X.N.getD i "", i)).map (·.2) = own := by rw [List.map_map]; exact List.map_id' own
            rw [eown]
            exact dc_rd p8 (set_rdS q)
          · cases h2
        | prm p ts => unfold chkE at h2; split at h2; · rename_i hx; exact absurd hx (by cases p <;> (first | (unfold argsP; intro z; cases z) | (rename_i a b; cases a <;> cases b <;> (unfold argsP; intro z; cases z))))
                      · cases h2
        | _ => unfold chkE at h2; cases h2
      · refine ps_imp (ps_set ok.nd k1 k2 (ev_ok t ok h2) (sw_falseD fun a b c => hc ⟨a, b, c⟩) k3) fun σ H D q => set_rdS q
    | _ => cases hn
/-! ### a, b = x, y -/
theorem sw_two {x y : Str} {px py pt pt2 : Pos} {kt k2 : Nat} {a b : Expr} {env : Env} (hk : env.blockKind = .function) (hx : env.kindOf x = some .local) (hy : env.kindOf y = some .local) (hl : (py.line == px.line) = true) (hne : x ≠ y)
    (hst : ([a, b].any fun | .Starred .. => true | _ => false) = false) (hf : [a, b].all (foldedForSure 8) = false) (hc : [a, b].all (constantsAlone 8) = false) : swappedStores [.Tuple [.Name x px, .Name y py] kt pt] (.Tuple [a, b] k2 pt2) env = pure (some [x, y]) := by
  have hl0 : (px.line == px.line) = true := beq_self_eq_true _
  have e1 : (([.Name x px, .Name y py] : List Expr).filterMap fun
    | .Name id pos => if env.kindOf id == some .local && pos.line == px.line then some id else none
    | _ => none) = [x, y] := by
    simp only [List.filterMap_cons, List.filterMap_nil, hx, hy, hl, hl0, beq_self_eq_true, Bool.and_self, if_true]
  have e2 : ([x, y].eraseDups.length != [x, y].length) = false := by
    have : [x, y].eraseDups = [x, y] := by
      rw [List.eraseDups_cons, List.filter_cons, if_pos (by simpa using fun z => hne z.symm)]
      rfl
    rw [this]
    exact bne_self_eq_false _
  unfold swappedStores
  have nf : ∀ {b : Bool}, b = false → ¬ (b = true) := fun h z => Bool.false_ne_true (h.symm.trans z)
  refine (if_neg ?_).trans ((if_neg (nf hst)).trans ((if_neg ?_).trans ((if_neg (nf hf)).trans ((if_neg (nf hc)).trans (congrArg (fun z => (pure (some z) : Sem (Option (List Str)))) e1)))))
  · rw [hk]; exact Bool.false_ne_true
  · refine nf ?_
    have e3 : (([x, y].length != 2) || ([x, y].eraseDups.length != [x, y].length)) = false := by rw [e2]; rfl
    rw [← e1] at e3
    exact e3
theorem sw_three {x y z : Str} {px py pz pt pt2 : Pos} {kt k2 : Nat} {a b c : Expr} {env : Env} (hk : env.blockKind = .function) (hx : env.kindOf x = some .local) (hy : env.kindOf y = some .local) (hz : env.kindOf z = some .local) (hl : (py.line == px.line) = true) (hl2 : (pz.line == px.line) = true) (hne : x ≠ y) (hne2 : x ≠ z) (hne3 : y ≠ z)
    (hst : ([a, b, c].any fun | .Starred .. => true | _ => false) = false) (hf : [a, b, c].all (foldedForSure 8) = false) (hc : [a, b, c].all (constantsAlone 8) = false) : swappedStores [.Tuple [.Name x px, .Name y py, .Name z pz] kt pt] (.Tuple [a, b, c] k2 pt2) env = pure (some [x, y, z]) := by
  have hl0 : (px.line == px.line) = true := beq_self_eq_true _
  have e1 : (([.Name x px, .Name y py, .Name z pz] : List Expr).filterMap fun
    | .Name id pos => if env.kindOf id == some .local && pos.line == px.line then some id else none
    | _ => none) = [x, y, z] := by
    simp only [List.filterMap_cons, List.filterMap_nil, hx, hy, hz, hl, hl2, hl0, beq_self_eq_true, Bool.and_self, if_true]
  have e2 : ([x, y, z].eraseDups.length != [x, y, z].length) = false := by
    have : [x, y, z].eraseDups = [x, y, z] := by
      rw [List.eraseDups_cons, List.filter_cons, if_pos (by simpa using fun z => hne z.symm), List.filter_cons, if_pos (by simpa using fun z => hne2 z.symm), List.filter_nil, List.eraseDups_cons, List.filter_cons, if_pos (by simpa using fun z => hne3 z.symm)]
      rfl
    rw [this]
    exact bne_self_eq_false _
  unfold swappedStores
  have nf : ∀ {b : Bool}, b = false → ¬ (b = true) := fun h z => Bool.false_ne_true (h.symm.trans z)
  refine (if_neg ?_).trans ((if_neg (nf hst)).trans ((if_neg ?_).trans ((if_neg (nf hf)).trans ((if_neg (nf hc)).trans (congrArg (fun z => (pure (some z) : Sem (Option (List Str)))) e1)))))
  · rw [hk]; exact Bool.false_ne_true
  · refine nf ?_
    have e3 : (([x, y, z].length != 3) || ([x, y, z].eraseDups.length != [x, y, z].length)) = false := by rw [e2]; rfl
    rw [← e1] at e3
    exact e3
theorem no_star {N : List Str} : ∀ {ts : Es} {xs : List Expr}, chkEs P N sc ts xs = true → (xs.any fun | .Starred .. => true | _ => false) = false
  | .nil, xs, h => by unfold chkEs at h; rw [List.isEmpty_iff.mp h]; rfl
  | .cons t ts, xs, h => by
    unfold chkEs at h
    split at h
    · rename_i y ys
      rw [Bool.and_eq_true] at h
      have hs := chk_shape h.1
      rw [List.any_cons, no_star h.2, Bool.or_false]
      cases y <;> first | rfl | cases hs
    · cases h
theorem parNs_cons {N : List Str} {l i : Nat} {js : List Nat} {ts : List Expr} (h : parNs N sc l (i :: js) ts = true) : ∃ x p r, ts = .Name x p :: r ∧ N[i]? = some x ∧ sc.lookup x = some .local ∧ (p.line == l) = true ∧ parNs N sc l js r = true := by
  cases ts with
  | nil => unfold parNs at h; cases h
  | cons t r =>
    cases t with
    | Name x p =>
      have h : (decide (N[i]? = some x) && decide (sc.lookup x = some .local) && (p.line == l) && parNs N sc l js r) = true := h
      rw [Bool.and_eq_true, Bool.and_eq_true, Bool.and_eq_true, decide_eq_true_eq, decide_eq_true_eq] at h
      exact ⟨_, _, _, rfl, h.1.1.1, h.1.1.2, h.1.2, h.2⟩
    | _ => exact absurd (show false = true from h) Bool.false_ne_true
theorem parNs_nil {N : List Str} {l : Nat} {ts : List Expr} (h : parNs N sc l [] ts = true) : ts = [] := by
  cases ts with
  | nil => rfl
  | cons _ _ => unfold parNs at h; cases h
theorem par_ok (ok : XOk P n X sc) {js : List Nat} {es : Es} {ts xs : List Expr} {k1 k2 : Nat} {p1 p2 pos : Pos} (h1 : js.Nodup) (h2 : (js.length == 2 || js.length == 3) = true) (h3 : parNs X.N sc (headLine ts) js ts = true) (h4 : xs.all (foldedForSure 8) = false) (h5 : xs.all (constantsAlone 8) = false) (h6 : xs.length = js.length) (h7 : chkEs P X.N sc es xs = true) :
    PS X (.Assign [.Tuple ts k1 p1] (.Tuple xs k2 p2) pos) (rdS X.K (cfP P n) (.par js es)) := by
  refine ps_kind fun hk => ?_
  have hb := blk_fn hk
  have pa := (evs_ok es ok h7).pa
  have hst := no_star h7
  have uniq : ∀ {i j : Nat} {x y : Str}, X.N[i]? = some x → X.N[j]? = some y → i ≠ j → x ≠ y := fun {i j x y} a b hij e => by
    subst e
    obtain ⟨l1, e1⟩ := List.getElem?_eq_some_iff.mp a
    obtain ⟨l2, e2⟩ := List.getElem?_eq_some_iff.mp b
    rcases Nat.lt_or_gt_of_ne hij with h | h
    · exact List.pairwise_iff_getElem.mp ok.nd i j l1 l2 h (e1.trans e2.symm)
    · exact List.pairwise_iff_getElem.mp ok.nd j i l2 l1 h (e2.trans e1.symm)
  rcases js with _ | ⟨i, _ | ⟨j, _ | ⟨l, _ | ⟨m, r⟩⟩⟩⟩
  · cases h2
  · cases h2
  · obtain ⟨x, px, r, rfl, a1, a2, a3, h3⟩ := parNs_cons h3
    obtain ⟨y, py, r, rfl, b1, b2, b3, h3⟩ := parNs_cons h3
    cases parNs_nil h3
    obtain ⟨a, b, rfl⟩ : ∃ a b, xs = [a, b] := by
      match xs, h6 with
      | [a, b], _ => exact ⟨a, b, rfl⟩
    have hij : i ≠ j := by
      intro z; rw [List.nodup_cons] at h1; exact h1.1 (by rw [z]; exact List.mem_cons_self)
    have ka := ok.loc x a2
    have kb := ok.loc y b2
    refine ps_imp (ps_par ok.calm ok.nd a1 b1 hij ka kb pa (sw_two hb ka kb b3 (uniq a1 b1 hij) hst h4 h5)) fun σ H D q => ?_
    refine rdA_mono (par_rdS q) fun vs H1 k => ?_
    obtain ⟨k1, k2⟩ := k
    match vs, k1 with
    | [v, w], _ => exact ⟨v, w, rfl, k2⟩
  · obtain ⟨x, px, r, rfl, a1, a2, a3, h3⟩ := parNs_cons h3
    obtain ⟨y, py, r, rfl, b1, b2, b3, h3⟩ := parNs_cons h3
    obtain ⟨z, pz, r, rfl, c1, c2, c3, h3⟩ := parNs_cons h3
    cases parNs_nil h3
    obtain ⟨a, b, c, rfl⟩ : ∃ a b c, xs = [a, b, c] := by
      match xs, h6 with
      | [a, b, c], _ => exact ⟨a, b, c, rfl⟩
    simp only [List.nodup_cons, List.mem_cons, List.not_mem_nil, or_false, not_or] at h1
    have ka := ok.loc x a2
    have kb := ok.loc y b2
    have kc := ok.loc z c2
    refine ps_imp (ps_par3 ok.calm ok.nd a1 b1 c1 h1.1.1 h1.1.2 h1.2.1 ka kb kc pa (sw_three hb ka kb kc b3 c3 (uniq a1 b1 h1.1.1) (uniq a1 c1 h1.1.2) (uniq b1 c1 h1.2.1) hst h4 h5)) fun σ H D q => ?_
    refine rdA_mono (par_rdS q) fun vs H1 k => ?_
    obtain ⟨k1, k2⟩ := k
    match vs, k1 with
    | [v, w, u], _ => exact ⟨v, w, u, rfl, k2⟩
  · simp at h2
mutual
theorem s_ok : ∀ (s : Sm) {X : Cx} {sc : Nms} {st : Stmt}, XOk P n X sc → chkS P X.N sc s st = true → PS X st (rdS X.K (cfP P n) s)
  | .set i t, X, sc, st, ok, h => by
    unfold chkS at h
    split at h
    · rw [Bool.and_eq_true] at h
      exact set_ok ok h.1 h.2
    · cases h
  | .setT js t, X, sc, st, ok, h => by
    unfold chkS at h
    split at h
    · rw [Bool.and_eq_true, Bool.and_eq_true] at h
      have hs := chk_shape h.2
      have hl := chkNs_len (show chkTg.chkNs X.N sc js _ = true from h.1.2)
      exact ps_imp (ps_asg (ev_ok t ok h.2) (tg_ok ok h.1.2) (swS_tup hs) (swSt_left hs h.1.1 hl)) fun σ H D q => setT_rdS q
    · cases h
  | .par js es, X, sc, st, ok, h => by
    unfold chkS at h
    split at h
    · simp only [Bool.and_eq_true, decide_eq_true_eq, Bool.not_eq_true'] at h
      obtain ⟨⟨⟨⟨⟨⟨h1, h2⟩, h3⟩, h4⟩, h5⟩, h6⟩, h7⟩ := h
      exact par_ok ok h1 h2 h3 h4 h5 h6 h7
    · cases h
  | .aug _ _ _, X, sc, st, ok, h => by unfold chkS at h; cases h
  | .fst i f t, X, sc, st, ok, h => by unfold chkS at h; cases h
  | .sto i t u, X, sc, st, ok, h => by
    unfold chkS at h
    split at h
    · simp only [Bool.and_eq_true, decide_eq_true_eq, Bool.not_eq_true'] at h
      obtain ⟨⟨⟨⟨⟨h1, h2⟩, h3⟩, h4⟩, h5⟩, h6⟩ := h
      have hs := chk_shape h6
      have pk := plain_of (chk_shape h5)
      exact ps_imp (ps_asg (ev_ok u ok h6) (pg_sub (var_pe ok h1 h2 h3 h4) (ev_ok t ok h5) (set_both (by have := hu200 ok; omega)) (sub_asg (chk_shape h5))) (swS_sub hs) (swSt_sub hs)) fun σ H D q => sto_rdS q
    · cases h
  | .exp t, X, sc, st, ok, h => by
    unfold chkS at h
    split at h
    · rw [Bool.and_eq_true] at h
      exact ps_imp (ps_expr (ev_ok t ok h.2) (swW_not (chk_shape h.2) h.1)) fun σ H D q => exp_rdS q
    · cases h
  | .ifs t a b, X, sc, st, ok, h => by
    unfold chkS at h
    split at h
    · rw [Bool.and_eq_true, Bool.and_eq_true] at h
      exact ps_imp (ps_if (tst_ok t ok h.1.1) (ss_ok a ok h.1.2) (ss_ok b ok h.2)) fun σ H D q => ifs_rdS q
    · cases h
  | .fr tg it b, X, sc, st, ok, h => by
    unfold chkS at h
    split at h
    · rw [Bool.and_eq_true, Bool.and_eq_true] at h
      have pl := plain_of (it_shape (n := n) it h.1.2)
      exact ps_imp (ps_for (by rw [ok.xe]; exact PassesOwn.never) ok.calm (it_ok it ok h.1.2) (tg_ok ok h.1.1) (ss_ok b ok h.2) (fun x => pl.fold _ x)) fun σ H D q => fr_rdS q
    · cases h
  | .whl m t b, X, sc, st, ok, h => by
    unfold chkS at h
    split at h
    · rw [Bool.and_eq_true] at h
      exact ps_imp (ps_while (by rw [ok.xe]; exact PassesOwn.never) (tst_ok t ok h.1) (ss_ok b ok h.2)) fun σ H D q => whl_rdS q
    · cases h
  | .ret t, X, sc, st, ok, h => by
    unfold chkS at h
    split at h
    · exact ps_imp (ps_ret (ev_ok t ok h)) fun σ H D q => ret_rdS q
    · cases h
  | .retn, X, sc, st, ok, h => by
    unfold chkS at h
    split at h
    · exact ps_imp ps_retN fun σ H D q => retn_rdS q
    · cases h
  | .brk, X, sc, st, ok, h => by
    unfold chkS at h
    split at h
    · exact ps_imp ps_break fun σ H D q => brk_rdS q
    · cases h
  | .cnt, X, sc, st, ok, h => by
    unfold chkS at h
    split at h
    · exact ps_imp ps_continue fun σ H D q => cnt_rdS q
    · cases h
  | .pas, X, sc, st, ok, h => by
    unfold chkS at h
    split at h
    · exact ps_imp ps_pass fun σ H D q => pas_rdS q
    · exact ps_imp ps_doc fun σ H D q => pas_rdS q
    · cases h
  | .nev, X, sc, st, ok, h => ps_imp ps_never fun σ H D q => nev_rdS q
theorem ss_ok : ∀ (ss : Sms) {X : Cx} {sc : Nms} {sts : List Stmt}, XOk P n X sc → chkSs P X.N sc ss sts = true → PSs X sts (rdSs X.K (cfP P n) ss)
  | .nil, X, sc, sts, ok, h => by
    unfold chkSs at h
    rw [List.isEmpty_iff.mp h]
    exact pss_imp pss_nil fun σ H D q => nil_rdSs q
  | .cons s ss, X, sc, sts, ok, h => by
    unfold chkSs at h
    split at h
    · rw [Bool.and_eq_true] at h
      exact pss_imp (pss_cons (s_ok s ok h.1) (ss_ok ss ok h.2)) fun σ H D q => cons_rdSs q
    · cases h
end
end
end PL

/-! PL16: a program's defs keep their word. -/
namespace PL
open PySem PySem.Spec
open PyProof.Rows L2
def psOf (st : Stmt) : List Str := (defArgs st).args.map (·.arg)
/-- plain parameters only -/
def argsOk (a : Arguments) : Bool := a.posonlyargs.isEmpty && a.vararg.isNone && a.kwonlyargs.isEmpty && a.kwarg.isNone && decide ((a.args.map (·.arg)).Nodup)
theorem zip_look : ∀ {ps : List Str} {us : List Value}, ps.Nodup → us.length = ps.length → (ps.filterMap fun n => ((ps.zip us).lookup n).map fun v => (n, v)) = ps.zip us := by
  have gen : ∀ (ps : List Str) (us : List Value) (l : List (Str × Value)), ps.Nodup → us.length = ps.length → (∀ n ∈ ps, l.lookup n = (ps.zip us).lookup n) → (ps.filterMap fun n => (l.lookup n).map fun v => (n, v)) = ps.zip us := by
    intro ps
    induction ps with
    | nil => intro us l _ _ _; rfl
    | cons p ps ih =>
      intro us l nd hl h
      cases us with
      | nil => simp at hl
      | cons u us =>
        have h0 : l.lookup p = some u := by
          rw [h p List.mem_cons_self, List.zip_cons_cons, List.lookup_cons, beq_self_eq_true]
        rw [List.filterMap_cons, h0, List.zip_cons_cons]
        show (p, u) :: _ = (p, u) :: _
        congr 1
        rw [List.nodup_cons] at nd
        refine ih us l nd.2 (by simpa using hl) fun n hn => ?_
        rw [h n (List.mem_cons_of_mem _ hn), List.zip_cons_cons, List.lookup_cons]
        have : (n == p) = false := by
          rw [beq_eq_false_iff_ne]
          intro e
          subst e
          exact nd.1 hn
        rw [this]
  intro ps us nd hl
  exact gen ps us _ nd hl fun _ _ => rfl
theorem zip_miss {ps : List Str} {us : List Value} (hl : us.length = ps.length) : (ps.filter fun n => ((ps.zip us).lookup n).isNone) = [] := by
  rw [List.filter_eq_nil_iff]
  intro n hn hz
  have : ∀ {ps : List Str} {us : List Value}, us.length = ps.length → n ∈ ps → ∃ v, (ps.zip us).lookup n = some v := by
    intro ps
    induction ps with
    | nil => intro us _ h; exact absurd h List.not_mem_nil
    | cons p ps ih =>
      intro us hl h
      cases us with
      | nil => simp at hl
      | cons u us =>
        rw [List.zip_cons_cons, List.lookup_cons]
        cases e : n == p with
        | true => exact ⟨u, rfl⟩
        | false =>
          rcases List.mem_cons.mp h with h | h
          · subst h; rw [beq_self_eq_true] at e; cases e
          · exact ih (by simpa using hl) h
  obtain ⟨v, e⟩ := this hl hn
  rw [e] at hz
  cases hz
theorem bind_all {x qual : Str} {a : Arguments} {body : List Stmt} {scope : Scope} (h : argsOk a = true) {kV doc pm : Value} {an : Option Addr} {cdv ct : Value} {us : List Value} (hl : us.length = (a.args.map (·.arg)).length) :
    bindArgs (PySem.W.fnOf x qual a body scope .none kV doc pm an cdv ct) ⟨us, []⟩ = pure ((a.args.map (·.arg)).zip us) := by
  unfold argsOk at h
  simp only [Bool.and_eq_true, decide_eq_true_eq, List.isEmpty_iff, Option.isNone_iff_eq_none] at h
  obtain ⟨⟨⟨⟨h1, h2⟩, h3⟩, h4⟩, h5⟩ := h
  obtain ⟨p1, p2, p3, p4, p5, p6, p7⟩ := a
  simp only at h1 h2 h3 h4 h5 hl ⊢
  subst h1 h2 h3 h4
  unfold bindArgs
  simp only [PySem.W.fnOf]
  have e1 : seqItems? Value.none = pure none := rfl
  rw [e1]
  simp only [List.forIn_nil, pure_bind, List.map_nil, List.nil_append, List.append_nil, Option.getD_none, List.drop_nil, List.length_nil, Nat.sub_zero, List.take_length, zip_miss hl, zip_look h5 hl]
  have e2 : (decide (us.length > (List.map (fun x : Arg => x.arg) p2).length) && (none : Option Arg).isNone) = false := by
    rw [decide_eq_false (by omega)]; rfl
  have e3 : ((List.drop (List.map (fun x : Arg => x.arg) p2).length (List.map (fun x : Arg => x.arg) p2)).zip ([] : List Value)) = [] := List.zip_nil_right
  rw [e2, e3]
  simp only [List.isEmpty_nil, Bool.not_true, Bool.false_eq_true, if_false, List.forIn_nil, pure_bind, zip_look h5 hl]
/-! ### one def -/
def chkFn (P : Pg) (fn : Fn) (st : Stmt) : Bool := C8.scC fn.N (psOf st) (defScope st) && argsOk (defArgs st) && decide ((psOf st).length = fn.io.length) && chkSs P fn.N (defScope st).names fn.body (defBody st)
/-- what the head tells -/
structure Facts (P : Pg) (K : PySem.W.Frag) (mg : Str → Option Value) (sts : List Stmt) : Prop where
  defs : ∀ (f : Str) (fn : Fn), P.fn? f = some fn → ∃ st, chkFn P fn st = true ∧ ∃ fa fd, FunD K fn.name fn.name (defArgs st) (defBody st) (defScope st) [] [] fa fd ∧ mg fn.name = some (.ref fa)
  blt : ∀ x ∈ bltNames, mg x = none
  glbs : ∀ x d, P.glb x = some d → ∃ u v, mg x = some u ∧ RelV v u ∧ ∀ H, Rp K H v d
def ioOf (vs : List V) (as : List SV) (i : Nat) : Option Addr := match as[i]?, vs[i]? with
  | some (.own true _), some (.ref a) => some a
  | _, _ => none
theorem ioOf_some {vs : List V} {as : List SV} {i : Nat} {a : Addr} (h : ioOf vs as i = some a) : ∃ o, as[i]? = some (.own true o) ∧ vs[i]? = some (.ref a) := by
  unfold ioOf at h
  split at h
  · rename_i o b h1 h2; cases h; exact ⟨o, h1, h2⟩
  · cases h
theorem ioOf_mk {vs : List V} {as : List SV} {i : Nat} {a : Addr} {o : OD} (h1 : as[i]? = some (.own true o)) (h2 : vs[i]? = some (.ref a)) : ioOf vs as i = some a := by
  unfold ioOf; rw [h1, h2]
theorem start_get {as : List SV} {m : Nat} {i : Nat} {x : SV} (h : (as.map some ++ List.replicate m none)[i]? = some (some x)) : as[i]? = some x := by
  by_cases hi : i < as.length
  · rw [List.getElem?_append_left (by simpa using hi), List.getElem?_map] at h
    cases q : as[i]? with
    | none => rw [q] at h; cases h
    | some y => rw [q] at h; cases h; rfl
  · rw [List.getElem?_append_right (by simpa using hi), List.getElem?_replicate] at h
    split at h <;> cases h
theorem start_getV {N : List Str} {vs : List V} {i : Nat} {v : V} (h : vs[i]? = some v) : (L2.start N vs)[i]? = some (some v) := by
  have hi : i < vs.length := lt_of_get h
  unfold L2.start
  rw [List.getElem?_append_left (by simpa using hi), List.getElem?_map, h]
  rfl
theorem start_getE {as : List SV} {m : Nat} {i : Nat} {x : SV} (h : as[i]? = some x) : (as.map some ++ List.replicate m none)[i]? = some (some x) := by
  have hi : i < as.length := lt_of_get h
  rw [List.getElem?_append_left (by simpa using hi), List.getElem?_map, h]
  rfl
/-- the places of what is handed in at i -/
def regOf (H : Hp) (vs : List V) (as : List SV) (i : Nat) (p : Addr) : Prop := ∃ a o, as[i]? = some (.own true o) ∧ vs[i]? = some (.ref a) ∧ p ∈ foot H o a
def coOf (K : PySem.W.Frag) (H G : Hp) (vs : List V) (as : List SV) : Co := ⟨K, H, G, ioOf vs as, regOf H vs as, fun _ => none⟩
/-- at a def's entry -/
theorem rel_start {K : PySem.W.Frag} {H G : Hp} {vs : List V} {as : List SV} {N : List Str} (sg : Same G H) (hp : Paired (ArgR K H G) vs as) (nd : OwnD H vs as) : Rel (coOf K H G vs as) (L2.start N vs) H (as.map some ++ List.replicate (N.length - as.length) none) G := by
  have hl := Paired.length hp
  refine { sub := sg, gold := Same.refl _, old := fun a o q _ => q, dom := fun a q => q, rok := fun p ⟨i, a, o, h1, h2, h3⟩ => ?_, gnew := fun a o q => .inl q, len := ?_, dat := fun i x q => ?_, own := fun i b o q => ?_, sep := fun i j a a' b b' o o' p q1 q2 q3 q4 q5 q6 => ?_, bor := fun i o q => ?_, bok := fun i o a q => (nomatch q), iok := fun i a q => ?_ }
  · obtain ⟨v, h4, h5⟩ := Paired.get' hp h1
    rw [h2] at h4; cases h4
    obtain ⟨_, b, e, z1, _⟩ := h5
    cases e
    obtain ⟨u, hu⟩ := z1.ex p h3
    show H p ≠ none
    rw [hu]; exact fun z => nomatch z
  · unfold L2.start
    rw [List.length_append, List.length_append, List.length_map, List.length_map, List.length_replicate, List.length_replicate, hl]
  · have q := start_get q
    obtain ⟨v, h1, h2⟩ := Paired.get' hp q
    exact ⟨v, start_getV h1, h2⟩
  · have q := start_get q
    obtain ⟨v, h1, h2⟩ := Paired.get' hp q
    obtain ⟨rfl, a, rfl, z1, z2, z3⟩ := h2
    exact ⟨a, start_getV h1, z1, z2, fun p hp => ⟨z3 p hp, .inr ⟨rfl, a, o, q, h1, hp⟩⟩, fun _ => ioOf_mk q h1⟩
  · have q1 := start_get q1
    have q2 := start_get q2
    obtain ⟨v, h1, h2⟩ := Paired.get' hp q1
    obtain ⟨w, h3, h4⟩ := Paired.get' hp q2
    rw [start_getV h1] at q3
    rw [start_getV h3] at q4
    cases q3
    cases q4
    exact nd i j a a' _ _ _ _ p h1 h3 q1 q2 q5 q6
  · have q := start_get q
    obtain ⟨v, h1, h2⟩ := Paired.get' hp q
    exact h2.elim
  · obtain ⟨o, h1, h2⟩ := ioOf_some q
    exact ⟨⟨o, start_getE h1⟩, start_getV h2⟩
/-- .. at its end -/
theorem post_end {K : PySem.W.Frag} {H G H' G' : Hp} {vs : List V} {as : List SV} {σ : Sg} {e : En} {r : R} {v : V} (hp : Paired (ArgR K H G) vs as) (rel : Rel (coOf K H G vs as) σ H' e G') (gs : Same G G') (ho : outR r = true) (rr : RR (coOf K H G vs as) H' G' σ e v r) :
    CallPost K H G vs as r (e.take as.length) v H' G' := by
  have reg_own : ∀ p, (coOf K H G vs as).rg p → InOwn H vs as p := fun p ⟨i, a, o, h1, h2, h3⟩ => ⟨i, a, true, o, h2, h1, h3⟩
  have tru : ∀ (j : Nat) b o, as[j]? = some (.own b o) → b = true := fun j b o q => by
    obtain ⟨v, _, h2⟩ := Paired.get' hp q
    exact h2.1
  -- a slot handed in, at the end
  have slot : ∀ (j : Nat) a o1 o, vs[j]? = some (.ref a) → as[j]? = some (.own true o1) → (e.take as.length)[j]? = some (some (.own true o)) → e[j]? = some (some (.own true o)) ∧ σ[j]? = some (some (.ref a)) := fun j a o1 o h1 h2 h3 => by
    rw [List.getElem?_take_of_lt (lt_of_get h2)] at h3
    exact ⟨h3, (rel.iok j a (ioOf_mk h2 h1)).2⟩
  refine { gs := gs, sub := rel.sub, dom := rel.dom, gn := fun a o q => ?_, old := fun a o q hn => rel.old a o q fun z => hn (reg_own a z), res := ?_, osep := fun i j a a' b b' o1 o2 o o' p q1 q2 q3 q4 q5 q6 q7 q8 => ?_, outs := fun j a o q1 q2 => ?_ }
  · rcases rel.gnew a o q with z | z | z
    · exact .inl z
    · exact .inr (.inl z)
    · exact .inr (.inr (reg_own a z))
  · cases r with
    | d x => exact rr
    | new o =>
      obtain ⟨a, rfl, h2, h3, h4⟩ := rr
      refine ⟨a, rfl, h2, h3, fun p hp' => ⟨(h4 p hp').2.1, (h4 p hp').1, fun j a' o' q1 q2 q3 hf => ?_⟩⟩
      cases z : as[j]? with
      | none => exact q2 z
      | some s =>
        obtain ⟨v', w1, w2⟩ := Paired.get' hp z
        rw [q1] at w1; cases w1
        rw [List.getElem?_take_of_lt (lt_of_get z)] at q3
        obtain ⟨d, x1, x2, x3, x4, x5⟩ := rel.own j _ _ q3
        have io := x5 rfl
        obtain ⟨o9, y1, y2⟩ := ioOf_some io
        rw [q1] at y2; cases y2
        exact (h4 p hp').2.2 j _ _ _ q3 x1 hf
    | slot i => cases ho
  · have b1 := tru i b o1 q3
    have b2 := tru j b' o2 q4
    subst b1 b2
    obtain ⟨s1, s2⟩ := slot i a o1 o q1 q3 q5
    obtain ⟨s3, s4⟩ := slot j a' o2 o' q2 q4 q6
    exact rel.sep i j a a' _ _ _ _ p s1 s3 s2 s4 q7 q8
  · obtain ⟨⟨o', h1⟩, h2⟩ := rel.iok j a (ioOf_mk q2 q1)
    obtain ⟨b, z1, z2, z3, z4, _⟩ := rel.own j true o' h1
    rw [h2] at z1; cases z1
    refine ⟨o', ?_, z2, z3, fun p hp' => ⟨(z4 p hp').1, ?_⟩⟩
    · rw [List.getElem?_take_of_lt (lt_of_get q2)]
      exact h1
    · rcases (z4 p hp').2 with z | ⟨_, a2, o2, w1, w2, w3⟩
      · exact .inl z
      · rw [q2] at w1; cases w1
        rw [q1] at w2; cases w2
        exact .inr w3
section
variable {P : Pg} {p : Program} {w : World} {K : PySem.W.Frag} {mg : Str → Option Value} {base : Heap} {sts : List Stmt}
theorem fn_ok (F : Facts P K mg sts) : ∀ (n : Nat) (f : Str) (fn : Fn) (st : Stmt) (fa : Addr) (fd : FuncData), P.fn? f = some fn → chkFn P fn st = true → FunD K fn.name fn.name (defArgs st) (defBody st) (defScope st) [] [] fa fd → FnG p w K mg base CX0 n fa fd (psOf st) (spF K P n f)
  | n, f, fn, st, fa, fd, hf, hc, FF => by
    unfold chkFn at hc
    rw [Bool.and_eq_true, Bool.and_eq_true, Bool.and_eq_true, decide_eq_true_eq] at hc
    obtain ⟨⟨⟨c1, c2⟩, c3⟩, c4⟩ := hc
    have S := C8.fnScope_by c1
    have hlen : ∀ vs H Q E, spF K P n f vs H Q E → vs.length = (psOf st).length := by
      rintro vs H Q E ⟨fn', G, as, r, outs, h1, h2, h3, h4, _⟩
      rw [hf] at h1; cases h1
      rw [Paired.length h4, h2, c3]
    cases n with
    | zero =>
      refine ⟨hlen, ?_⟩
      intro A outer s H args us vs Q E _ _ _ _ _ hs
      obtain ⟨fn', G, as, r, outs, h1, h2, h3, h4, h5, h6, _⟩ := hs
      unfold run at h6
      cases h6
    | succ n =>
      refine fnG_of FF S hlen fun cdv A outer s H vs Q E hgd hr hs => ?_
      have ok : XOk P n (cxOf CX0 p w K mg base fn.N fn.name (defScope st) fa cdv A outer s H E).nox (defScope st).names := by
        refine ⟨rfl, S.nd, hr, hgd, rfl, fun x q => q, fun x q => ⟨q, rfl⟩, fun x q => .inr q, fun x q => q, fun g gn hg => ?_, F.blt, F.glbs⟩
        obtain ⟨st', z1, ga, gd, z2, z3⟩ := F.defs g gn hg
        refine ⟨ga, gd, psOf st', fn_ok F n g gn st' ga gd hg z1 z2, z3, z2.kp, z2.bindsN fun _ _ _ _ _ _ us hl => bind_all ?_ hl⟩
        unfold chkFn at z1
        rw [Bool.and_eq_true, Bool.and_eq_true, Bool.and_eq_true] at z1
        exact z1.1.1.2
      refine ⟨_, PSs.nox (ss_ok fn.body ok c4), ?_⟩
      obtain ⟨fn', G, as, r, outs, h1, h2, h3, h4, h5, h6, k⟩ := hs
      rw [hf] at h1; cases h1
      unfold run at h6
      rw [hf] at h6
      simp only at h6
      rw [if_pos h2] at h6
      cases hx : execs (cfP P n) fn.body (as.map some ++ List.replicate (fn.N.length - as.length) none) with
      | none => rw [hx] at h6; cases h6
      | some fl =>
        rw [hx] at h6
        refine ⟨coOf K H G vs as, _, G, fl, rfl, rel_start h3 h4 h5, hx, ?_⟩
        cases fl with
        | nx e =>
          cases h6
          intro σ H' G' rel g
          exact k .non H' G' (post_end h4 rel g rfl .non)
        | ret r' e =>
          simp only at h6
          split at h6
          · rename_i ho
            cases h6
            intro v σ H' G' rel g rr
            exact k v H' G' (post_end h4 rel g ho rr)
          · cases h6
        | brk e => cases h6
        | cnt e => cases h6
end
end PL

/-! PL17: the head's facts, the law's end. -/
namespace PL
open PySem PySem.Spec
open PyProof.Rows L2
def isDef : Stmt → Bool
  | .FunctionDef .. => true
  | _ => false
def nmOf : Stmt → Str
  | .FunctionDef n _ _ _ _ _ _ _ _ _ => n
  | _ => ""
def fnD (st : Stmt) : He.DefD := ⟨(nmOf st, none), nmOf st, nmOf st, defArgs st, defBody st, defScope st, [], []⟩
def fnsD (sts : List Stmt) : List He.DefD := sts.map fnD
def fasD (P : Pg) : List He.Fa := P.fns.map (fun fn => He.Fa.glo fn.name) ++ bltNames.map He.Fa.free
def chkAll (P : Pg) : List Fn → List Stmt → Bool
  | [], [] => true
  | fn :: fns, st :: sts => decide (nmOf st = fn.name) && chkFn P fn st && chkAll P fns sts
  | _, _ => false
theorem chkAll_get {P : Pg} : ∀ {fns : List Fn} {sts : List Stmt}, chkAll P fns sts = true → ∀ {i : Nat} {fn : Fn}, fns[i]? = some fn → ∃ st, sts[i]? = some st ∧ nmOf st = fn.name ∧ chkFn P fn st = true
  | [], [], _, i, fn, h => by simp at h
  | f :: fns, st :: sts, hc, i, fn, h => by
    unfold chkAll at hc
    rw [Bool.and_eq_true, Bool.and_eq_true, decide_eq_true_eq] at hc
    cases i with
    | zero => simp at h; subst h; exact ⟨st, rfl, hc.1.1, hc.1.2⟩
    | succ i =>
      obtain ⟨st', h1, h2⟩ := chkAll_get hc.2 (i := i) (fn := fn) (by simpa using h)
      exact ⟨st', by simpa using h1, h2⟩
  | [], _ :: _, hc, _, _, _ => by unfold chkAll at hc; cases hc
  | _ :: _, [], hc, _, _, _ => by unfold chkAll at hc; cases hc
/-! ### the module's constants -/
mutual
def repB (K : PySem.W.Frag) : D → Value → Bool
  | .none, .none => true
  | .bool b, .bool c => b == c
  | .int i, .int j _ => decide (i = j)
  | .str x, .str y _ => decide (x = y)
  | .tuple xs, .ref a => (match K.lookup a with
    | some ⟨.type c, _, .seq its _, _⟩ => decide (c = "tuple") && (decide (its.size ≤ sizeLine) && repAll K xs its.toList)
    | _ => false)
  | _, _ => false
def repAll (K : PySem.W.Frag) : List D → List Value → Bool
  | [], [] => true
  | x :: xs, u :: us => repB K x u && repAll K xs us
  | _, _ => false
end
mutual
theorem repB_ok {K : PySem.W.Frag} : ∀ {d : D} {u : Value}, repB K d u = true → ∃ v, RelV v u ∧ ∀ H, Rp K H v d
  | .none, u, h => by
    cases u <;> simp only [repB, Bool.false_eq_true] at h
    exact ⟨.non, rfl, fun _ => .non⟩
  | .bool b, u, h => by
    cases u <;> simp only [repB, Bool.false_eq_true] at h
    rw [← eq_of_beq h]
    exact ⟨.bl b, rfl, fun _ => .bl b⟩
  | .int i, u, h => by
    cases u <;> simp only [repB, Bool.false_eq_true] at h
    rw [← of_decide_eq_true h]
    exact ⟨.int i, ⟨_, rfl⟩, fun _ => .int i⟩
  | .str i, u, h => by
    cases u <;> simp only [repB, Bool.false_eq_true] at h
    rw [← of_decide_eq_true h]
    exact ⟨.str i, ⟨_, rfl⟩, fun _ => .str i⟩
  | .list xs, u, h => by cases u <;> simp only [repB, Bool.false_eq_true] at h
  | .dict xs, u, h => by cases u <;> simp only [repB, Bool.false_eq_true] at h
  | .tuple xs, u, h => by
    cases u <;> simp only [repB, Bool.false_eq_true] at h
    rename_i a
    split at h
    · rename_i c dd its n sl q
      rw [Bool.and_eq_true, Bool.and_eq_true, decide_eq_true_eq, decide_eq_true_eq] at h
      obtain ⟨h1, h2, h3⟩ := h
      obtain ⟨vs, r1, r2⟩ := repAll_ok h3
      exact ⟨.ref a, rfl, fun H => .tup (.inr ⟨_, its, n, q, congrArg Value.type h1, rfl, h2, r1⟩) (r2 H)⟩
    · cases h
theorem repAll_ok {K : PySem.W.Frag} : ∀ {ds : List D} {us : List Value}, repAll K ds us = true → ∃ vs, Vals vs us ∧ ∀ H, RpL K H vs ds
  | [], [], _ => ⟨[], .nil, fun _ => .nil⟩
  | x :: xs, u :: us, h => by
    simp only [repAll, Bool.and_eq_true] at h
    obtain ⟨v, r1, r2⟩ := repB_ok h.1
    obtain ⟨vs, s1, s2⟩ := repAll_ok h.2
    exact ⟨v :: vs, .cons r1 s1, fun H => .cons (r2 H) (s2 H)⟩
  | [], _ :: _, h => by simp only [repAll, Bool.false_eq_true] at h
  | _ :: _, [], h => by simp only [repAll, Bool.false_eq_true] at h
end
def gdB (K : PySem.W.Frag) (p : Str × D) : Bool := match PySem.W.nsIn K mainGlobals p.1 with
  | some (some u) => repB K p.2 u
  | _ => false
def glbB (P : Pg) (K : PySem.W.Frag) : Bool := P.glbs.all (gdB K)
section
variable {P : Pg} {K : PySem.W.Frag} {mg : Str → Option Value} {sts : List Stmt} {h : Heap}
theorem def_of (c : He.SaysD (fasD P) (fnsD sts) K) {i : Nat} {fn : Fn} {st : Stmt} (h2 : sts[i]? = some st) (h3 : nmOf st = fn.name) : ∃ fd, FunD K fn.name fn.name (defArgs st) (defBody st) (defScope st) [] [] (He.ga K fn.name) fd := by
  obtain ⟨fd, FF⟩ := c.def_ i (d := fnD st) (by unfold fnsD; rw [List.getElem?_map, h2]; rfl)
  refine ⟨fd, ?_⟩
  rw [← h3]
  exact FF
theorem glo_of (X : K.In h) (G : h.Ns mainGlobals mg) (c : He.SaysD (fasD P) (fnsD sts) K) {i : Nat} {fn : Fn} (h1 : P.fns[i]? = some fn) : mg fn.name = some (.ref (He.ga K fn.name)) :=
  He.glo_ok X G (c.fact i (f := .glo fn.name) (by
    unfold fasD
    rw [List.getElem?_append_left (by rw [List.length_map]; exact lt_of_get h1), List.getElem?_map, h1]
    rfl))
theorem facts_of (X : K.In h) (G : h.Ns mainGlobals mg) (c : He.SaysD (fasD P) (fnsD sts) K) (hc : chkAll P P.fns sts = true) (hg : glbB P K = true) : Facts P K mg sts := by
  refine ⟨fun f fn hf => ?_, fun x hx => ?_, fun x d hk => ?_⟩
  · obtain ⟨i, hi⟩ := List.getElem?_of_mem (List.mem_of_find?_eq_some hf)
    obtain ⟨st, h1, h2, h3⟩ := chkAll_get hc hi
    obtain ⟨fd, FF⟩ := def_of (fn := fn) c h1 h2
    exact ⟨st, h3, _, fd, FF, glo_of X G c hi⟩
  · obtain ⟨i, hi⟩ := List.getElem?_of_mem hx
    refine He.free_ok X G (c.fact (P.fns.length + i) (f := .free x) ?_)
    unfold fasD
    rw [List.getElem?_append_right (by rw [List.length_map]; omega), List.length_map, List.getElem?_map, Nat.add_sub_cancel_left, hi]
    rfl
  · unfold Pg.glb at hk
    rw [Option.map_eq_some_iff] at hk
    obtain ⟨⟨y, d'⟩, h1, h2⟩ := hk
    cases h2
    have h3 := List.find?_some h1
    simp only [decide_eq_true_eq] at h3
    subst h3
    have h4 := List.all_eq_true.mp hg _ (List.mem_of_find?_eq_some h1)
    unfold gdB at h4
    split at h4
    · rename_i u hu
      obtain ⟨v, r1, r2⟩ := repB_ok h4
      exact ⟨u, v, PySem.W.mg_of X G hu, r1, r2⟩
    · cases h4
end
theorem law_end {l : PySem.W.OpenLaw} {q : Program} {loose : List Str} {XP : (Str → Option Value) → Heap → Prop} {d : DefRec} {P : Pg} {sts : List Stmt} {k m : Nat} {fn : Fn} {x : Str}
    (hn : l.most = some 63) (hdf : d.params.defaults = []) (hr : Room k callerA) (hc : chkAll P P.fns sts = true) (hj : P.fn? "law" = some fn) (hnm : d.name = "law") (hio : fn.io = [false]) (hN : fn.N.head? = some x)
    (hp : ∀ ns : List Int, ns.length ≤ 63 → ∃ outs, run P k "law" [.d (klD (ns.map .int))] = some (.d (.bool true), outs)) :
    PySem.W.WalkO q loose XP (He.hookX m (fasD P) (fnsD sts) [] [] (glbB P)).says l.row.toRowW d [] (fun f vs => PySem.call f vs) := by
  refine walk_G (l := l) (n := 63) (k := k) (x := x) (Cc := L2.CX0) hn (by decide) hdf hr (fun w mg fa h Y G hmg => ?_) (fun _ _ _ _ z => z)
  obtain ⟨K, KX, c0⟩ := Y
  have c := c0.t.d
  obtain ⟨j, hj'⟩ := List.getElem?_of_mem (List.mem_of_find?_eq_some hj)
  obtain ⟨st, hst, z2, z3⟩ := chkAll_get hc hj'
  have hnm' : fn.name = "law" := fn?_name hj
  obtain ⟨fd, FF⟩ := def_of (fn := fn) c hst z2
  have hfa := glo_of KX G c hj'
  rw [hnm', ← hnm] at hfa
  rw [hmg] at hfa
  have e : fa = He.ga K d.name := by cases hfa; rfl
  have e1 : fn.name = d.name := hnm'.trans hnm.symm
  rw [e1, ← e] at FF
  have z3' := z3
  unfold chkFn at z3'
  rw [Bool.and_eq_true, Bool.and_eq_true, Bool.and_eq_true, decide_eq_true_eq] at z3'
  obtain ⟨⟨⟨c1, hargs⟩, c3⟩, c4⟩ := z3'
  have hps : psOf st = [x] := by
    have S := C8.fnScope_by c1
    have h1 := S.pre
    rw [hio] at c3
    cases hq : psOf st with
    | nil => rw [hq] at c3; cases c3
    | cons y r =>
      rw [hq] at c3 h1
      have : r = [] := by
        cases r with
        | nil => rfl
        | cons _ _ => simp at c3
      subst this
      cases hf : fn.N with
      | nil => rw [hf] at hN; cases hN
      | cons a b =>
        rw [hf] at h1 hN
        cases hN
        simp at h1
        rw [h1]
  refine ⟨K, fd, spF K P k "law", KX, fun s u => ?_, fun H a ns hl hO hS => ?_, fun base KB GB => ?_⟩
  · have := FF.bindsA (ps := psOf st) (fun _ _ _ _ _ _ us hl => bind_all hargs hl) s [u] (by rw [hps]; rfl)
    rw [hps] at this
    exact this
  · obtain ⟨outs, ho⟩ := hp ns hl
    refine ⟨fn, H, [.d (klD (ns.map .int))], _, outs, hj, by rw [hio]; rfl, Same.refl _, .cons ?_ .nil, (fun i j a a' b b' o o' p h1 h2 h3 => by cases i with
    | zero => cases h3
    | succ i => simp at h3), ho, fun v H' G' post => ?_⟩
    · exact .kl hS (RpL.of_ints ns)
    · cases (show Rp K G' v (.bool true) from post.res)
      rfl
  · have F := facts_of (P := P) (sts := sts) KX G c hc c0.more
    have := fn_ok (p := l.prog) (w := w) (base := base) F k "law" fn st fa fd hj z3 (by rw [e1]; exact FF)
    rw [hps] at this
    exact this
end PL

/-! PS1: running the little language by rewriting. -/
namespace PL.Y
open PySem
/-- o gives a value of which Q is true -/
def wp {α : Type} (o : Option α) (Q : α → Prop) : Prop := ∃ a, o = some a ∧ Q a
section
variable {α β : Type} {Q : α → Prop} {R : β → Prop}
@[simp] theorem wp_some (a : α) : wp (some a) Q ↔ Q a := by
  constructor
  · intro h; obtain ⟨b, h, q⟩ := h; cases h; exact q
  · intro q; exact ⟨a, rfl, q⟩
@[simp] theorem wp_none : wp (none : Option α) Q ↔ False := by
  constructor
  · intro h; obtain ⟨b, h, q⟩ := h; cases h
  · exact False.elim
@[simp] theorem wp_bind (o : Option α) (f : α → Option β) : wp (o.bind f) R ↔ wp o fun a => wp (f a) R := by
  cases o with
  | none =>
    constructor
    · intro h; obtain ⟨b, h, q⟩ := h; cases h
    · intro h; obtain ⟨b, h, q⟩ := h; cases h
  | some a => simp
@[simp] theorem wp_map (o : Option α) (f : α → β) : wp (o.map f) R ↔ wp o fun a => R (f a) := by
  cases o with
  | none =>
    constructor
    · intro h; obtain ⟨b, h, q⟩ := h; cases h
    · intro h; obtain ⟨b, h, q⟩ := h; cases h
  | some a => simp
theorem wp_ite (c : Prop) [Decidable c] (a b : Option α) : wp (if c then a else b) Q ↔ (c → wp a Q) ∧ (¬ c → wp b Q) := by
  by_cases h : c <;> simp [h]
theorem wp_mono {Q Q' : α → Prop} {o : Option α} (h : wp o Q) (i : ∀ a, Q a → Q' a) : wp o Q' := h.elim fun a q => ⟨a, q.1, i a q.2⟩
theorem wp_eq {o : Option α} {a : α} (h : o = some a) (q : Q a) : wp o Q := ⟨a, h, q⟩
end
/-- a test's two ways -/
def br {α : Type} (b : Bool) (x y : Option α) : Option α := if b = true then x else y
@[simp] theorem br_true {α : Type} (x y : Option α) : br true x y = x := rfl
@[simp] theorem br_false {α : Type} (x y : Option α) : br false x y = y := rfl
theorem wp_br {α : Type} {Q : α → Prop} {b : Bool} {x y : Option α} : wp (br b x y) Q ↔ (b = true → wp x Q) ∧ (b = false → wp y Q) := by
  cases b <;> simp
def cmp2F (c : Cf) (op op' : CmpOp) (r1 r2 : R) (z : Ex) (e2 : En) : Option (R × En) := match r1, r2 with
  | .d d1, .d d2 => (cmpF op d1 d2).bind fun b => match b with
    | true => (ev c z e2).bind fun (r3, e3) => match r3 with
      | .d d3 => (cmpF op' d2 d3).map fun b' => (.d (.bool b'), e3)
      | _ => none
    | false => some (.d (.bool false), e2)
  | _, _ => none
def cmp3F (op' : CmpOp) (d2 : D) (q : R × En) : Option (R × En) := match q.1 with
  | .d d3 => (cmpF op' d2 d3).map fun b' => (.d (.bool b'), q.2)
  | _ => none
@[simp] theorem cmp3F_d (op' : CmpOp) (d2 d3 : D) (e : En) : cmp3F op' d2 (.d d3, e) = (cmpF op' d2 d3).map fun b' => (.d (.bool b'), e) := rfl
@[simp] theorem cmp2F_d (c : Cf) (op op' : CmpOp) (d1 d2 : D) (z : Ex) (e2 : En) : cmp2F c op op' (.d d1) (.d d2) z e2 = (cmpF op d1 d2).bind fun b => br b ((ev c z e2).bind (cmp3F op' d2)) (some (.d (.bool false), e2)) := by
  unfold cmp2F
  simp only
  congr 1
  funext b
  cases b <;> rfl
section
variable {c : Cf} {e : En}
/-! ### expressions -/
def rdV (i : Nat) (e : En) : Option (Option SV) → Option (R × En)
  | some (some (.d x)) => some (.d x, e)
  | some (some (.own _ _)) => some (.slot i, e)
  | _ => none
@[simp] theorem rdV_d (i : Nat) (x : D) : rdV i e (some (some (.d x))) = some (.d x, e) := rfl
@[simp] theorem rdV_own (i : Nat) (b : Bool) (o : OD) : rdV i e (some (some (.own b o))) = some (.slot i, e) := rfl
@[simp] theorem ev_var (i : Nat) : ev c (.var i) e = rdV i e e[i]? := by
  (conv => lhs; unfold ev)
  unfold rdV
  cases e[i]? with
  | none => rfl
  | some v => cases v with
    | none => rfl
    | some w => cases w <;> rfl
@[simp] theorem ev_cst (x : D) : ev c (.cst x) e = some (.d x, e) := by (conv => lhs; unfold ev) <;> rfl
@[simp] theorem ev_prm (p : Prm) (es : Es) : ev c (.prm p es) e = (evs c es e).bind fun q => (pks q.1 q.2).bind fun xs => (prmF p xs).map fun r => (r.toR, q.2) := by (conv => lhs; unfold ev) <;> rfl
@[simp] theorem ev_tup (es : Es) : ev c (.tup es) e = (evs c es e).bind fun q => (fzs q.1 q.2).bind fun z => if z.1.length ≤ lim then some (.d (.tuple z.1), z.2) else none := by (conv => lhs; unfold ev) <;> rfl
@[simp] theorem ev_lst (es : Es) : ev c (.lst es) e = (evs c es e).bind fun q => (fzs q.1 q.2).bind fun z => if z.1.length ≤ lim then some (.new (.lst z.1), z.2) else none := by (conv => lhs; unfold ev) <;> rfl
@[simp] theorem ev_glb (x : Str) : ev c (.glb x) e = (c.glb x).map fun d => (.d d, e) := by (conv => lhs; unfold ev) <;> rfl
@[simp] theorem ev_mth (m : Mth) (x : Ex) (es : Es) : ev c (.mth m x es) e = (ev c x e).bind fun q => br (kM m.rk q.1 q.2) ((evs c es q.2).bind fun z => (pks (q.1 :: z.1) z.2).bind fun ys => (mthF m ys).map fun r => (r.toR, z.2)) none := by
  (conv => lhs; unfold ev)
  congr 1
  funext q
  obtain ⟨q1, q2⟩ := q
  simp only
  cases kM m.rk q1 q2 <;> rfl
@[simp] theorem ev_dsp (ks : List D) (es : Es) : ev c (.dsp ks es) e = (evs c es e).bind fun q => (fzs q.1 q.2).bind fun z => if ks.length = z.1.length ∧ ks.length ≤ 15 ∧ ks.all isKey then some (.new (.dic (dMerge [] (ks.zip z.1))), z.2) else none := by (conv => lhs; unfold ev) <;> rfl
@[simp] theorem ev_cmp2 (op op' : CmpOp) (x y z : Ex) : ev c (.cmp2 op op' x y z) e = (ev c x e).bind fun q1 => (ev c y q1.2).bind fun q2 => cmp2F c op op' q1.1 q2.1 z q2.2 := by (conv => lhs; unfold ev) <;> rfl
@[simp] theorem ev_call (f : Str) (es : Es) : ev c (.call f es) e = (evs c es e).bind fun q => callF c.call (c.io f) f q.1 q.2 := by (conv => lhs; unfold ev) <;> rfl
def mut1 (m : Mut) (i : Nat) (q : List D × En) : Option (Option SV) → Option (R × En)
  | some (some (.own io o)) => (mutF m o q.1).map fun z => (.d z.1, q.2.set i (some (.own io z.2)))
  | _ => none
@[simp] theorem mut1_own (m : Mut) (i : Nat) (q : List D × En) (io : Bool) (o : OD) : mut1 m i q (some (some (.own io o))) = (mutF m o q.1).map fun z => (.d z.1, q.2.set i (some (.own io z.2))) := rfl
@[simp] theorem ev_mut (m : Mut) (i : Nat) (es : Es) : ev c (.mut m i es) e = br (isOwn e i m) ((evs c es e).bind fun q => (fzs q.1 q.2).bind fun z => mut1 m i z z.2[i]?) none := by
  (conv => lhs; unfold ev)
  unfold br
  cases isOwn e i m with
  | false => rfl
  | true =>
    simp only [if_true]
    first | done | rfl
def and1 (x : R) (y : Option (R × En)) (e : En) : Option (R × En) := match x with
  | .d (.bool true) => y
  | .d (.bool false) => some (.d (.bool false), e)
  | _ => none
def or1 (x : R) (y : Option (R × En)) (e : En) : Option (R × En) := match x with
  | .d (.bool false) => y
  | .d (.bool true) => some (.d (.bool true), e)
  | _ => none
@[simp] theorem and1_b (b : Bool) (y : Option (R × En)) : and1 (.d (.bool b)) y e = br b y (some (.d (.bool false), e)) := by cases b <;> rfl
@[simp] theorem or1_b (b : Bool) (y : Option (R × En)) : or1 (.d (.bool b)) y e = br b (some (.d (.bool true), e)) y := by cases b <;> rfl
@[simp] theorem ev_and (a b : Ex) : ev c (.and a b) e = (ev c a e).bind fun q => and1 q.1 (ev c b q.2) q.2 := by (conv => lhs; unfold ev) <;> rfl
@[simp] theorem ev_or (a b : Ex) : ev c (.or a b) e = (ev c a e).bind fun q => or1 q.1 (ev c b q.2) q.2 := by (conv => lhs; unfold ev) <;> rfl
def not1 (x : R) (e : En) : Option (R × En) := match x with
  | .d (.bool b) => some (.d (.bool (!b)), e)
  | _ => none
@[simp] theorem not1_b (b : Bool) : not1 (.d (.bool b)) e = some (.d (.bool (!b)), e) := rfl
@[simp] theorem ev_not (a : Ex) : ev c (.not a) e = (ev c a e).bind fun q => not1 q.1 q.2 := by (conv => lhs; unfold ev) <;> rfl
@[simp] theorem ev_ite (t a b : Ex) : ev c (.ite t a b) e = (tst c t e).bind fun q => br q.1 (ev c a q.2) (ev c b q.2) := by
  (conv => lhs; unfold ev)
  congr 1
  funext q
  obtain ⟨q1, q2⟩ := q
  cases q1 <;> rfl
@[simp] theorem evs_nil : evs c .nil e = some ([], e) := by (conv => lhs; unfold evs) <;> rfl
@[simp] theorem evs_cons (x : Ex) (xs : Es) : evs c (.cons x xs) e = (ev c x e).bind fun q => (evs c xs q.2).map fun z => (q.1 :: z.1, z.2) := by (conv => lhs; unfold evs) <;> rfl
@[simp] theorem evIt_ex (x : Ex) : evIt c (.ex x) e = (ev c x e).bind fun q => (fzR q.1 q.2).bind fun z => (itemsOf z.1).map fun ys => (ys, z.2) := by (conv => lhs; unfold evIt) <;> rfl
@[simp] theorem evIt_rng (es : Es) : evIt c (.rng es) e = (evs c es e).bind fun q => (pks q.1 q.2).bind fun xs => (rngF xs).map fun ys => (ys, q.2) := by (conv => lhs; unfold evIt) <;> rfl
/-! ### tests -/
def tstR (q : R × En) : Option (Bool × En) := (pkR q.1 q.2).bind fun y => (truthy y).map fun b => (b, q.2)
@[simp] theorem tstR_d (x : D) : tstR (.d x, e) = (truthy x).map fun b => (b, e) := rfl
@[simp] theorem tstR_slot (i : Nat) : tstR (.slot i, e) = (pkR (.slot i) e).bind fun y => (truthy y).map fun b => (b, e) := rfl
@[simp] theorem tstR_new (o : OD) : tstR (.new o, e) = (fzO o).bind fun y => (truthy y).map fun b => (b, e) := rfl
@[simp] theorem tt_and (a b : Ex) : tst c (.and a b) e = (tst c a e).bind fun q => br q.1 (tst c b q.2) (some (false, q.2)) := by
  (conv => lhs; unfold tst); congr 1; funext q; obtain ⟨q1, q2⟩ := q; cases q1 <;> rfl
@[simp] theorem tt_or (a b : Ex) : tst c (.or a b) e = (tst c a e).bind fun q => br q.1 (some (true, q.2)) (tst c b q.2) := by
  (conv => lhs; unfold tst); congr 1; funext q; obtain ⟨q1, q2⟩ := q; cases q1 <;> rfl
@[simp] theorem tt_not (a : Ex) : tst c (.not a) e = (tst c a e).map fun q => (!q.1, q.2) := by (conv => lhs; unfold tst) <;> rfl
@[simp] theorem tt_ite (t a b : Ex) : tst c (.ite t a b) e = (tst c t e).bind fun q => br q.1 (tst c a q.2) (tst c b q.2) := by
  (conv => lhs; unfold tst); congr 1; funext q; obtain ⟨q1, q2⟩ := q; cases q1 <;> rfl
@[simp] theorem tt_var (i : Nat) : tst c (.var i) e = (ev c (.var i) e).bind tstR := by (conv => lhs; unfold tst) <;> rfl
@[simp] theorem tt_cst (x : D) : tst c (.cst x) e = (ev c (.cst x) e).bind tstR := by (conv => lhs; unfold tst) <;> rfl
@[simp] theorem tt_prm (p : Prm) (es : Es) : tst c (.prm p es) e = (ev c (.prm p es) e).bind tstR := by (conv => lhs; unfold tst) <;> rfl
@[simp] theorem tt_cmp2 (p p' : CmpOp) (x y z : Ex) : tst c (.cmp2 p p' x y z) e = (ev c (.cmp2 p p' x y z) e).bind tstR := by (conv => lhs; unfold tst) <;> rfl
@[simp] theorem tt_mth (m : Mth) (x : Ex) (es : Es) : tst c (.mth m x es) e = (ev c (.mth m x es) e).bind tstR := by (conv => lhs; unfold tst) <;> rfl
@[simp] theorem tt_call (f : Str) (es : Es) : tst c (.call f es) e = (ev c (.call f es) e).bind tstR := by (conv => lhs; unfold tst) <;> rfl
@[simp] theorem tsts_nil : tsts c .nil e = some (true, e) := by (conv => lhs; unfold tsts) <;> rfl
@[simp] theorem tsts_one (x : Ex) : tsts c (.cons x .nil) e = tst c x e := by (conv => lhs; unfold tsts) <;> rfl
/-! ### statements -/
@[simp] theorem exec_set (i : Nat) (x : Ex) : exec c (.set i x) e = (ev c x e).bind fun q => (setR i q.1 q.2).map .nx := by (conv => lhs; unfold exec) <;> rfl
@[simp] theorem exec_setT (js : List Nat) (x : Ex) : exec c (.setT js x) e = (ev c x e).bind fun q => (fzR q.1 q.2).bind fun z => (itemsOf z.1).bind fun ys => (putAll js (ys.map .d) z.2).map .nx := by (conv => lhs; unfold exec) <;> rfl
@[simp] theorem exec_par (js : List Nat) (xs : Es) : exec c (.par js xs) e = (evs c xs e).bind fun q => (subs q.1 q.2).bind fun z => (putAll js z.1 z.2).map .nx := by (conv => lhs; unfold exec) <;> rfl
@[simp] theorem exec_exp (x : Ex) : exec c (.exp x) e = (ev c x e).map fun q => .nx q.2 := by (conv => lhs; unfold exec) <;> rfl
@[simp] theorem exec_ifs (t : Ex) (a b : Sms) : exec c (.ifs t a b) e = (tst c t e).bind fun q => br q.1 (execs c a q.2) (execs c b q.2) := by
  (conv => lhs; unfold exec); congr 1; funext q; obtain ⟨q1, q2⟩ := q; cases q1 <;> rfl
def turnF (c : Cf) (tg : Tg) (b : Sms) (x : D) (e : En) : Option Fl := (setTg tg x e).bind (execs c b)
@[simp] theorem turnF_eq (tg : Tg) (b : Sms) (x : D) : turnF c tg b x e = (setTg tg x e).bind fun e1 => execs c b e1 := rfl
@[simp] theorem exec_fr (tg : Tg) (it : It) (b : Sms) : exec c (.fr tg it b) e = (evIt c it e).bind fun q => forL (turnF c tg b) q.1 q.2 := by (conv => lhs; unfold exec) <;> rfl
@[simp] theorem exec_whl (n : Nat) (t : Ex) (b : Sms) : exec c (.whl n t b) e = whlL (tst c t) (execs c b) n e := by (conv => lhs; unfold exec) <;> rfl
def sto1 (i : Nat) (y : D) (q : R × En) : Option Fl := match q.1, q.2[i]? with
  | .d z, some (some (.own io o)) => (stoF o z y).map fun o' => .nx (q.2.set i (some (.own io o')))
  | _, _ => none
def sto2 (i : Nat) (y z : D) (e : En) : Option (Option SV) → Option Fl
  | some (some (.own io o)) => (stoF o z y).map fun o' => .nx (e.set i (some (.own io o')))
  | _ => none
@[simp] theorem sto2_own (i : Nat) (y z : D) (io : Bool) (o : OD) : sto2 i y z e (some (some (.own io o))) = (stoF o z y).map fun o' => .nx (e.set i (some (.own io o'))) := rfl
@[simp] theorem sto1_d (i : Nat) (y z : D) : sto1 i y (.d z, e) = sto2 i y z e e[i]? := by
  unfold sto1 sto2
  simp only
  cases e[i]? with
  | none => rfl
  | some v => cases v with
    | none => rfl
    | some w => cases w <;> rfl
@[simp] theorem exec_sto (i : Nat) (k x : Ex) : exec c (.sto i k x) e = (ev c x e).bind fun q => (fzR q.1 q.2).bind fun z => br (ownAt z.2 i) ((ev c k z.2).bind fun q' => sto1 i z.1 q') none := by
  (conv => lhs; unfold exec)
  congr 1
  funext q
  obtain ⟨q1, q2⟩ := q
  simp only
  congr 1
  funext z
  obtain ⟨z1, z2⟩ := z
  simp only
  cases ownAt z2 i <;> rfl
def ret1 (r : R) (e : En) : Option Fl := match r with
  | .d y => some (.ret (.d y) e)
  | .new o => some (.ret (.new o) e)
  | .slot i => match e[i]? with
    | some (some (.own false o)) => some (.ret (.new o) (e.set i none))
    | _ => none
@[simp] theorem ret1_d (y : D) : ret1 (.d y) e = some (.ret (.d y) e) := rfl
@[simp] theorem ret1_new (o : OD) : ret1 (.new o) e = some (.ret (.new o) e) := rfl
def ret2 (i : Nat) (e : En) : Option (Option SV) → Option Fl
  | some (some (.own false o)) => some (.ret (.new o) (e.set i none))
  | _ => none
@[simp] theorem ret2_own (i : Nat) (o : OD) : ret2 i e (some (some (.own false o))) = some (.ret (.new o) (e.set i none)) := rfl
@[simp] theorem ret1_slot (i : Nat) : ret1 (.slot i) e = ret2 i e e[i]? := by
  simp only [ret1]
  cases e[i]? with
  | none => rfl
  | some v => cases v with
    | none => rfl
    | some w => cases w with
      | d x => rfl
      | bor o => rfl
      | own b o => cases b <;> rfl
@[simp] theorem exec_ret (x : Ex) : exec c (.ret x) e = (ev c x e).bind fun q => ret1 q.1 q.2 := by (conv => lhs; unfold exec) <;> rfl
@[simp] theorem exec_retn : exec c .retn e = some (.ret (.d .none) e) := by (conv => lhs; unfold exec) <;> rfl
@[simp] theorem exec_brk : exec c .brk e = some (.brk e) := by (conv => lhs; unfold exec) <;> rfl
@[simp] theorem exec_cnt : exec c .cnt e = some (.cnt e) := by (conv => lhs; unfold exec) <;> rfl
@[simp] theorem exec_pas : exec c .pas e = some (.nx e) := by (conv => lhs; unfold exec) <;> rfl
@[simp] theorem execs_nil : execs c .nil e = some (.nx e) := by (conv => lhs; unfold execs) <;> rfl
def seqF (c : Cf) (ss : Sms) : Fl → Option Fl
  | .nx e1 => execs c ss e1
  | .ret r e1 => some (.ret r e1)
  | .brk e1 => some (.brk e1)
  | .cnt e1 => some (.cnt e1)
@[simp] theorem seqF_nx (ss : Sms) : seqF c ss (.nx e) = execs c ss e := rfl
@[simp] theorem seqF_ret (ss : Sms) (r : R) : seqF c ss (.ret r e) = some (.ret r e) := rfl
@[simp] theorem seqF_brk (ss : Sms) : seqF c ss (.brk e) = some (.brk e) := rfl
@[simp] theorem seqF_cnt (ss : Sms) : seqF c ss (.cnt e) = some (.cnt e) := rfl
@[simp] theorem execs_cons (s : Sm) (ss : Sms) : execs c (.cons s ss) e = (exec c s e).bind (seqF c ss) := by
  unfold execs
  cases exec c s e with
  | none => rfl
  | some f => cases f <;> rfl
/-! ### loops -/
/-- what a loop makes of its body's end -/
def flL (nx : En → Prop) (Q : Fl → Prop) : Fl → Prop
  | .nx e => nx e
  | .cnt e => nx e
  | .brk e => Q (.nx e)
  | .ret r e => Q (.ret r e)
@[simp] theorem flL_nx (nx : En → Prop) (Q : Fl → Prop) : flL nx Q (.nx e) ↔ nx e := Iff.rfl
@[simp] theorem flL_cnt (nx : En → Prop) (Q : Fl → Prop) : flL nx Q (.cnt e) ↔ nx e := Iff.rfl
@[simp] theorem flL_brk (nx : En → Prop) (Q : Fl → Prop) : flL nx Q (.brk e) ↔ Q (.nx e) := Iff.rfl
@[simp] theorem flL_ret (nx : En → Prop) (Q : Fl → Prop) (r : R) : flL nx Q (.ret r e) ↔ Q (.ret r e) := Iff.rfl
/-- THE RULE for a loop over xs: I by the place -/
theorem wp_for {f : D → En → Option Fl} {Q : Fl → Prop} (I : Nat → En → Prop) : ∀ {xs : List D} {e : En}, I 0 e → (∀ i x e, xs[i]? = some x → I i e → wp (f x e) (flL (I (i + 1)) Q)) → (∀ e, I xs.length e → Q (.nx e)) → wp (forL f xs e) Q
  | [], e, h0, _, hd => ⟨_, rfl, hd e h0⟩
  | x :: xs, e, h0, hs, hd => by
    obtain ⟨fl, h1, h2⟩ := hs 0 x e rfl h0
    have ih : ∀ {e1 : En}, I 1 e1 → wp (forL f xs e1) Q := fun {e1} h => wp_for (fun i => I (i + 1)) h (fun i y e2 hy hi => hs (i + 1) y e2 (by simpa using hy) hi) hd
    unfold forL
    cases fl with
    | nx e1 => rw [h1]; exact ih h2
    | cnt e1 => rw [h1]; exact ih h2
    | brk e1 => rw [h1]; exact ⟨_, rfl, h2⟩
    | ret r e1 => rw [h1]; exact ⟨_, rfl, h2⟩
/-- .. by what is done and what is left -/
theorem wp_for2 {f : D → En → Option Fl} {Q : Fl → Prop} (I : List D → En → Prop) {xs : List D} {e : En} (h0 : I [] e) (hs : ∀ done x rest e, xs = done ++ x :: rest → I done e → wp (f x e) (flL (I (done ++ [x])) Q)) (hd : ∀ e, I xs e → Q (.nx e)) : wp (forL f xs e) Q := by
  refine wp_for (fun i e => I (xs.take i) e) (by simpa using h0) (fun i x e hx hi => ?_) (fun e h => hd e (by simpa using h))
  have hlt : i < xs.length := (List.getElem?_eq_some_iff.mp hx).1
  have hx' : xs[i] = x := (List.getElem?_eq_some_iff.mp hx).2
  have e1 : xs.take (i + 1) = xs.take i ++ [x] := by rw [List.take_add_one, hx]; rfl
  rw [e1]
  refine hs _ x (xs.drop (i + 1)) e ?_ hi
  rw [← hx', ← List.drop_eq_getElem_cons hlt, List.take_append_drop]
/-- THE RULE for a while: a measure below the bound -/
theorem wp_whl {t : En → Option (Bool × En)} {b : En → Option Fl} {Q : Fl → Prop} (I : Nat → En → Prop) (hs : ∀ m e, I m e → wp (t e) fun q => (q.1 = true → wp (b q.2) (flL (fun e2 => ∃ m', m' < m ∧ I m' e2) Q)) ∧ (q.1 = false → Q (.nx q.2))) : ∀ {n m : Nat} {e : En}, m < n → I m e → wp (whlL t b n e) Q
  | 0, m, e, hm, _ => absurd hm (Nat.not_lt_zero _)
  | n + 1, m, e, hm, h => by
    obtain ⟨⟨bb, e1⟩, h1, h2, h3⟩ := hs m e h
    unfold whlL
    rw [h1]
    cases bb with
    | false => exact ⟨_, rfl, h3 rfl⟩
    | true =>
      obtain ⟨fl, h4, h5⟩ := h2 rfl
      rw [Option.bind_some]
      simp only
      rw [h4]
      cases fl with
      | nx e2 => obtain ⟨m', hl, h6⟩ := h5; exact wp_whl I hs (by omega) h6
      | cnt e2 => obtain ⟨m', hl, h6⟩ := h5; exact wp_whl I hs (by omega) h6
      | brk e2 => exact ⟨_, rfl, h5⟩
      | ret r e2 => exact ⟨_, rfl, h5⟩
end
end PL.Y

/-! PS2: slots and primitives by rewriting. -/
namespace PL.Y
open PySem
section
variable {e : En}
/-! ### slots -/
@[simp] theorem pkR_d (x : D) : pkR (.d x) e = some x := rfl
@[simp] theorem pkR_new (o : OD) : pkR (.new o) e = fzO o := rfl
def pkS : Option (Option SV) → Option D
  | some (some (.d (.list x))) => some (.list x)
  | some (some (.d (.dict x))) => some (.dict x)
  | some (some (.own _ o)) => pkO o
  | _ => none
@[simp] theorem pkS_own (b : Bool) (o : OD) : pkS (some (some (.own b o))) = pkO o := rfl
@[simp] theorem pkO_lst (xs : List D) : pkO (.lst xs) = some (.list xs) := rfl
@[simp] theorem pkO_dic (xs : List (D × D)) : pkO (.dic xs) = some (.dict xs) := rfl
@[simp] theorem fzO_lst (xs : List D) : fzO (.lst xs) = some (.list xs) := rfl
@[simp] theorem fzO_dic (xs : List (D × D)) : fzO (.dic xs) = some (.dict xs) := rfl
@[simp] theorem ldR_d (x : D) : ldR (.d x) e = some x := rfl
@[simp] theorem ldR_new (o : OD) : ldR (.new o) e = fzO o := rfl
def ldS : Option (Option SV) → Option D
  | some (some (.d (.list x))) => some (.list x)
  | some (some (.d (.dict x))) => some (.dict x)
  | some (some (.own _ o)) => fzO o
  | _ => none
@[simp] theorem ldS_own (b : Bool) (o : OD) : ldS (some (some (.own b o))) = fzO o := rfl
@[simp] theorem ldR_slot (i : Nat) : ldR (.slot i) e = ldS e[i]? := by
  simp only [ldR]
  unfold ldS
  rfl
@[simp] theorem pkR_slot (i : Nat) : pkR (.slot i) e = pkS e[i]? := by
  simp only [pkR]
  unfold pkS
  rfl
@[simp] theorem toD_lst (xs : List D) : OD.toD (.lst xs) = .list xs := by unfold OD.toD; rfl
@[simp] theorem pks_nil : pks [] e = some [] := rfl
@[simp] theorem pks_cons (r : R) (rs : List R) : pks (r :: rs) e = (pkR r e).bind fun x => (pks rs e).map fun z => x :: z := rfl
def fzS (i : Nat) (e : En) : Option (Option SV) → Option (D × En)
  | some (some (.d x)) => some (x, e)
  | some (some (.own false o)) => (fzO o).map fun x => (x, e.set i (some (.d x)))
  | _ => none
@[simp] theorem fzS_d (i : Nat) (x : D) : fzS i e (some (some (.d x))) = some (x, e) := rfl
@[simp] theorem fzS_own (i : Nat) (o : OD) : fzS i e (some (some (.own false o))) = (fzO o).map fun x => (x, e.set i (some (.d x))) := rfl
@[simp] theorem fzR_d (x : D) : fzR (.d x) e = some (x, e) := rfl
@[simp] theorem fzR_new (o : OD) : fzR (.new o) e = (fzO o).map fun x => (x, e) := rfl
@[simp] theorem fzR_slot (i : Nat) : fzR (.slot i) e = fzS i e e[i]? := by
  simp only [fzR]
  unfold fzS
  rfl
@[simp] theorem fzs_nil : fzs [] e = some ([], e) := rfl
@[simp] theorem fzs_cons (r : R) (rs : List R) : fzs (r :: rs) e = (fzR r e).bind fun z => (fzs rs z.2).map fun y => (z.1 :: y.1, y.2) := rfl
def puS (i : Nat) (v : SV) (e : En) : Option (Option SV) → Option En
  | some (some (.own true _)) => none
  | some (some (.bor _)) => none
  | some _ => some (e.set i (some v))
  | none => none
@[simp] theorem puS_d (i : Nat) (v : SV) (x : D) : puS i v e (some (some (.d x))) = some (e.set i (some v)) := rfl
@[simp] theorem puS_own (i : Nat) (v : SV) (o : OD) : puS i v e (some (some (.own false o))) = some (e.set i (some v)) := rfl
@[simp] theorem puS_none (i : Nat) (v : SV) : puS i v e (some none) = some (e.set i (some v)) := rfl
@[simp] theorem putS_puS (i : Nat) (v : SV) : putS i v e = puS i v e e[i]? := by
  unfold putS puS
  rfl
@[simp] theorem putAll_nil : putAll [] [] e = some e := rfl
@[simp] theorem putAll_cons (i : Nat) (is : List Nat) (v : SV) (vs : List SV) : putAll (i :: is) (v :: vs) e = (putS i v e).bind fun z => putAll is vs z := rfl
@[simp] theorem setR_d (i : Nat) (x : D) : setR i (.d x) e = putS i (.d x) e := rfl
@[simp] theorem setR_new (i : Nat) (o : OD) : setR i (.new o) e = putS i (.own false o) e := rfl
@[simp] theorem setR_slot (i j : Nat) : setR i (.slot j) e = (fzR (.slot j) e).bind fun z => putS i (.d z.1) z.2 := rfl
@[simp] theorem sub_d (x : D) : sub (.d x) e = some (.d x, e) := rfl
@[simp] theorem sub_new (o : OD) : sub (.new o) e = some (.own false o, e) := rfl
@[simp] theorem sub_slot (j : Nat) : sub (.slot j) e = (fzR (.slot j) e).map fun z => (.d z.1, z.2) := rfl
@[simp] theorem subs_nil : subs [] e = some ([], e) := rfl
@[simp] theorem subs_cons (r : R) (rs : List R) : subs (r :: rs) e = (sub r e).bind fun z => (subs rs z.2).map fun y => (z.1 :: y.1, y.2) := rfl
@[simp] theorem itemsOf_list (xs : List D) : itemsOf (.list xs) = some xs := rfl
@[simp] theorem itemsOf_tup (xs : List D) : itemsOf (.tuple xs) = some xs := rfl
@[simp] theorem setTg_nm (i : Nat) (x : D) : setTg (.nm i) x e = putS i (.d x) e := rfl
@[simp] theorem setTg_tp (js : List Nat) (x : D) : setTg (.tp js) x e = (itemsOf x).bind fun xs => putAll js (xs.map .d) e := rfl
def isO (m : Mut) : Option (Option SV) → Bool
  | some (some (.own _ o)) => m.fits o
  | _ => false
@[simp] theorem isO_lst (m : Mut) (b : Bool) (xs : List D) : isO m (some (some (.own b (.lst xs)))) = true := by cases m <;> rfl
@[simp] theorem isOwn_isO (i : Nat) (m : Mut) : isOwn e i m = isO m e[i]? := by
  unfold isOwn isO
  rfl
def oAt : Option (Option SV) → Bool
  | some (some (.own _ o)) => o.leaf
  | _ => false
@[simp] theorem oAt_own (b : Bool) (o : OD) : oAt (some (some (.own b o))) = o.leaf := rfl
@[simp] theorem leaf_lst (xs : List D) : OD.leaf (.lst xs) = true := rfl
@[simp] theorem leaf_dic (xs : List (D × D)) : OD.leaf (.dic xs) = true := rfl
@[simp] theorem ownAt_oAt (i : Nat) : ownAt e i = oAt e[i]? := by
  unfold ownAt oAt
  rfl
@[simp] theorem kM_d (k : RK) (x : D) : kM k (.d x) e = k.isD x := rfl
@[simp] theorem kM_new (k : RK) (o : OD) : kM k (.new o) e = k.isO o := rfl
def kMS (k : RK) : Option (Option SV) → Bool
  | some (some (.own _ o)) => k.isO o
  | _ => false
@[simp] theorem kMS_own (k : RK) (b : Bool) (o : OD) : kMS k (some (some (.own b o))) = k.isO o := rfl
@[simp] theorem kM_slot (k : RK) (i : Nat) : kM k (.slot i) e = kMS k e[i]? := by
  simp only [kM]
  unfold kMS
  rfl
@[simp] theorem isD_lst (xs : List D) : RK.isD .lst (.list xs) = true := rfl
@[simp] theorem isD_dic (kvs : List (D × D)) : RK.isD .dic (.dict kvs) = dKeys kvs := rfl
@[simp] theorem isD_str (x : Str) : RK.isD .str (.str x) = true := rfl
@[simp] theorem isO_lst' (xs : List D) : RK.isO .lst (.lst xs) = true := rfl
@[simp] theorem isO_dic (xs : List (D × D)) : RK.isO .dic (.dic xs) = true := rfl
@[simp] theorem rk_index : Mth.rk .index = .lst := rfl
@[simp] theorem rk_get : Mth.rk .get = .dic := rfl
@[simp] theorem rk_join : Mth.rk .join = .str := rfl
@[simp] theorem rk_split : Mth.rk .split = .str := rfl
@[simp] theorem toD_dic (xs : List (D × D)) : OD.toD (.dic xs) = .dict xs := by unfold OD.toD; rfl
@[simp] theorem dKeys_nil : dKeys [] = true := rfl
@[simp] theorem dKeys_cons (p : D × D) (r : List (D × D)) : dKeys (p :: r) = (isKey p.1 && dKeys r) := rfl
@[simp] theorem isKey_int (i : Int) : isKey (.int i) = true := rfl
@[simp] theorem isKey_str (i : Str) : isKey (.str i) = true := rfl
/-! ### primitives -/
@[simp] theorem prm_dnew : prmF .dnew [] = some (.new (.dic [])) := rfl
@[simp] theorem prm_lrng (xs : List D) : prmF .lrng xs = (rng1F xs).map fun ys => .new (.lst ys) := rfl
theorem prm_lset {xs : List D} {ns : List Int} (h : intsOf xs = some ns) (h2 : ns.length + 1 < scanBound) : prmF .lset [.list xs] = some (.is (.int (dedupI ns).length)) := by
  show (intsOf xs).bind _ = _
  rw [h]
  simp only [Option.bind_some]
  rw [if_pos h2]
@[simp] theorem ints_of (ns : List Int) : intsOf (ns.map .int) = some ns := by
  induction ns with
  | nil => rfl
  | cons n ns ih => rw [List.map_cons, intsOf, ih]; rfl
@[simp] theorem blt_sum (ns : List Int) : bltF .sum [.list (ns.map .int)] = some (.is (.int ns.sum)) := by
  show (intsOf _).map _ = _
  rw [ints_of]; rfl
@[simp] theorem blt_max2 (i j : Int) : bltF .max2 [.int i, .int j] = some (.is (.int (if j > i then j else i))) := rfl
@[simp] theorem blt_min2 (i j : Int) : bltF .min2 [.int i, .int j] = some (.is (.int (if j < i then j else i))) := rfl
@[simp] theorem blt_intB (b : Bool) : bltF .int [.bool b] = some (.is (.int (if b then 1 else 0))) := rfl
theorem blt_repr {x : D} (h : showOk x = true) : bltF .repr [x] = some (.is (.str x.shown)) := if_pos h
theorem rng1_1 {n : Nat} (h : n ≤ 16777216) : rng1F [.int (n : Int)] = some ((List.range n).map fun k => .int ((k : Nat) : Int)) := by
  have h1 : (0 : Int) ≤ (n : Int) ∧ (n : Int) ≤ 16777216 := by omega
  simp only [rng1F]
  rw [if_pos h1, Int.toNat_natCast]
theorem mth_index {xs : List D} {y : D} {j : Nat} (h1 : SeqAt.shaped (.list xs) = true) (h2 : SeqAt.shaped y = true) (h3 : xs.findIdx? (fun z => PyData.eqv z y) = some j) : mthF .index [.list xs, y] = some (.is (.int (j : Int))) := by
  simp only [mthF]
  rw [if_pos (by rw [h1, h2]; rfl), h3]
  rfl
theorem mth_get {kvs : List (D × D)} {k d : D} (h1 : isKey k = true) (h2 : dKeys kvs = true) (h3 : isTop d = false) : mthF .get [.dict kvs, k, d] = some (.is ((dget kvs k).getD d)) := by
  simp only [mthF]
  rw [if_pos (by rw [h1, h2, h3]; rfl)]
@[simp] theorem sto_lst (xs : List D) (k : Int) (v : D) : stoF (.lst xs) (.int k) v = (L2.ixN xs.length k).map fun j => .lst (xs.set j v) := rfl
theorem sto_nat {xs : List D} {k : Nat} (h : k < xs.length) (v : D) : stoF (.lst xs) (.int (k : Int)) v = some (.lst (xs.set k v)) := by
  rw [sto_lst]
  unfold L2.ixN
  rw [if_pos (Int.natCast_nonneg k), if_pos (by omega), Int.toNat_natCast]
  rfl
theorem sto_dic {kvs : List (D × D)} {k v : D} (h : isKey k = true) (h2 : kvs.length < lim) : stoF (.dic kvs) k v = some (.dic (dput kvs k v)) := by
  simp only [stoF]
  rw [if_pos (by rw [h, decide_eq_true h2]; rfl)]
theorem idx_dict {kvs : List (D × D)} {k v : D} (h : isKey k = true) (h2 : dKeys kvs = true) (h3 : dget kvs k = some v) : idxF (.dict kvs) k = some (.is v) := by
  have : idxF (.dict kvs) k = if isKey k && dKeys kvs then (dget kvs k).map .is else none := by cases k <;> rfl
  rw [this, if_pos (by rw [h, h2]; rfl), h3]
  rfl
theorem cmp_inDict {kvs : List (D × D)} {k : D} (h : isKey k = true) (h2 : dKeys kvs = true) : cmpF .In k (.dict kvs) = some (dget kvs k).isSome := by
  show inF k (.dict kvs) = _
  simp only [inF]
  rw [if_pos (by rw [h, h2]; rfl)]
theorem cmp_notInDict {kvs : List (D × D)} {k : D} (h : isKey k = true) (h2 : dKeys kvs = true) : cmpF .NotIn k (.dict kvs) = some (!(dget kvs k).isSome) := by
  show (inF k (.dict kvs)).map (!·) = _
  simp only [inF]
  rw [if_pos (by rw [h, h2]; rfl)]
  rfl
theorem cmp_inList {xs : List D} {k : D} (h : shp k = true) (h2 : shp (.list xs) = true) : cmpF .In k (.list xs) = some (xs.any fun y => PyData.eqv y k) := by
  show inF k (.list xs) = _
  simp only [inF]
  rw [if_pos (by rw [h, h2]; rfl)]
theorem cmp_notInList {xs : List D} {k : D} (h : shp k = true) (h2 : shp (.list xs) = true) : cmpF .NotIn k (.list xs) = some (!xs.any fun y => PyData.eqv y k) := by
  show (inF k (.list xs)).map (!·) = _
  simp only [inF]
  rw [if_pos (by rw [h, h2]; rfl)]
  rfl
theorem cmp_inTup {xs : List D} {k : D} (h : shp k = true) (h2 : shp (.tuple xs) = true) : cmpF .In k (.tuple xs) = some (xs.any fun y => PyData.eqv y k) := by
  show inF k (.tuple xs) = _
  simp only [inF]
  rw [if_pos (by rw [h, h2]; rfl)]
@[simp] theorem cmp_inStr (y z : Str) : cmpF .In (.str y) (.str z) = some (inStr y z) := rfl
@[simp] theorem cmp_notInStr (y z : Str) : cmpF .NotIn (.str y) (.str z) = some (!inStr y z) := rfl
theorem bin_repT {a : List D} {k : Int} (h : -(2 ^ 63) ≤ k ∧ k < 2 ^ 63 ∧ a.length * k.toNat ≤ lim) : binF .Mult (.tuple a) (.int k) = some (.is (.tuple (List.replicate k.toNat a).flatten)) := if_pos h
theorem bin_repL {a : List D} {k : Int} (h : -(2 ^ 63) ≤ k ∧ k < 2 ^ 63 ∧ a.length * k.toNat ≤ lim) : binF .Mult (.list a) (.int k) = some (.new (.lst (List.replicate k.toNat a).flatten)) := if_pos h
@[simp] theorem toR_is (x : D) : PR.toR (.is x) = .d x := rfl
@[simp] theorem toR_new (o : OD) : PR.toR (.new o) = .new o := rfl
@[simp] theorem prm_bin (op : Operator) (x y : D) : prmF (.bin op) [x, y] = binF op x y := rfl
@[simp] theorem prm_cmp (op : CmpOp) (x y : D) : prmF (.cmp op) [x, y] = (cmpF op x y).map fun b => .is (.bool b) := rfl
@[simp] theorem prm_neg (i : Int) : prmF .neg [.int i] = some (.is (.int (-i))) := rfl
@[simp] theorem prm_idx (x y : D) : prmF .idx [x, y] = idxF x y := rfl
@[simp] theorem prm_sl00 (x : D) : prmF (.slc false false) [x] = slcF x none none := rfl
@[simp] theorem prm_sl10 (x : D) (i : Int) : prmF (.slc true false) [x, .int i] = slcF x (some i) none := rfl
@[simp] theorem prm_sl01 (x : D) (i : Int) : prmF (.slc false true) [x, .int i] = slcF x none (some i) := rfl
@[simp] theorem prm_sl11 (x : D) (i j : Int) : prmF (.slc true true) [x, .int i, .int j] = slcF x (some i) (some j) := rfl
@[simp] theorem prm_rev (xs : List D) : prmF .rev [.list xs] = some (.new (.lst xs.reverse)) := rfl
@[simp] theorem prm_isi (T : String) (x : D) : prmF (.isi T) [x] = isiF T x := rfl
@[simp] theorem prm_blt (b : Blt) (xs : List D) : prmF (.blt b) xs = bltF b xs := rfl
@[simp] theorem bin_add (i j : Int) : binF .Add (.int i) (.int j) = some (.is (.int (i + j))) := rfl
@[simp] theorem bin_sub (i j : Int) : binF .Sub (.int i) (.int j) = some (.is (.int (i - j))) := rfl
theorem bin_mul {i j : Int} (h : small i = true ∨ small j = true) : binF .Mult (.int i) (.int j) = some (.is (.int (i * j))) := by
  show (if small i || small j then _ else _) = _
  rw [if_pos (by simpa using h)]
theorem bin_mulR (i j : Int) (h : -1000000000000 < j ∧ j < 1000000000000) : binF .Mult (.int i) (.int j) = some (.is (.int (i * j))) := bin_mul (.inr (by unfold small; exact decide_eq_true (by omega)))
theorem bin_mulL (i j : Int) (h : -1000000000000 < i ∧ i < 1000000000000) : binF .Mult (.int i) (.int j) = some (.is (.int (i * j))) := bin_mul (.inl (by unfold small; exact decide_eq_true (by omega)))
theorem bin_fdiv {i j : Int} (h : 0 < j ∧ j < 1073741824) : binF .FloorDiv (.int i) (.int j) = some (.is (.int (i / j))) := if_pos h
theorem bin_mod {i j : Int} (h : 0 < j) : binF .Mod (.int i) (.int j) = some (.is (.int (i % j))) := if_pos h
theorem bin_cat {a b : List D} (h : a.length + b.length ≤ lim) : binF .Add (.tuple a) (.tuple b) = some (.is (.tuple (a ++ b))) := if_pos h
theorem bin_catL {a b : List D} (h : a.length + b.length ≤ lim) : binF .Add (.list a) (.list b) = some (.new (.lst (a ++ b))) := if_pos h
@[simp] theorem cmp_lt (i j : Int) : cmpF .Lt (.int i) (.int j) = some (decide (i < j)) := rfl
@[simp] theorem cmp_le (i j : Int) : cmpF .LtE (.int i) (.int j) = some (decide (i ≤ j)) := rfl
@[simp] theorem cmp_gt (i j : Int) : cmpF .Gt (.int i) (.int j) = some (decide (j < i)) := rfl
@[simp] theorem cmp_ge (i j : Int) : cmpF .GtE (.int i) (.int j) = some (decide (j ≤ i)) := rfl
@[simp] theorem cmp_eqI (i j : Int) : cmpF .Eq (.int i) (.int j) = some (decide (i = j)) := by
  show (if shp (.int i) && shp (.int j) then some (PyData.eqv (.int i) (.int j)) else none) = _
  rw [if_pos (by rfl)]
  rfl
@[simp] theorem cmp_neI (i j : Int) : cmpF .NotEq (.int i) (.int j) = some (!decide (i = j)) := by
  show (if shp (.int i) && shp (.int j) then some (!PyData.eqv (.int i) (.int j)) else none) = _
  rw [if_pos (by rfl)]
  rfl
@[simp] theorem cmp_eqS (x y : Str) : cmpF .Eq (.str x) (.str y) = some (decide (x = y)) := by
  show (if shp (.str x) && shp (.str y) then some (PyData.eqv (.str x) (.str y)) else none) = _
  rw [if_pos (by rfl)]
  rfl
@[simp] theorem cmp_neS (x y : Str) : cmpF .NotEq (.str x) (.str y) = some (!decide (x = y)) := by
  show (if shp (.str x) && shp (.str y) then some (!PyData.eqv (.str x) (.str y)) else none) = _
  rw [if_pos (by rfl)]
  rfl
@[simp] theorem cmp_is (x y : D) : cmpF .Is x y = isF x y := by
  show (match CmpOp.Is, x, y with | _, _, _ => _) = _
  rfl
@[simp] theorem cmp_isnt (x y : D) : cmpF .IsNot x y = (isF x y).map (!·) := rfl
@[simp] theorem isF_none (x : D) : isF x .none = some (isN x) := rfl
@[simp] theorem isF_bool (x : D) (b : Bool) : isF x (.bool b) = some (isB b x) := rfl
@[simp] theorem isN_none : isN .none = true := rfl
@[simp] theorem isN_bool (b : Bool) : isN (.bool b) = false := rfl
@[simp] theorem isN_int (b : Int) : isN (.int b) = false := rfl
@[simp] theorem isN_str (b : Str) : isN (.str b) = false := rfl
@[simp] theorem isN_list (b : List D) : isN (.list b) = false := rfl
@[simp] theorem isN_tup (b : List D) : isN (.tuple b) = false := rfl
@[simp] theorem isB_none (b : Bool) : isB b .none = false := rfl
@[simp] theorem isB_bool (b c : Bool) : isB b (.bool c) = (c == b) := rfl
@[simp] theorem isB_int (b : Bool) (c : Int) : isB b (.int c) = false := rfl
@[simp] theorem isB_str (b : Bool) (c : Str) : isB b (.str c) = false := rfl
@[simp] theorem isB_list (b : Bool) (c : List D) : isB b (.list c) = false := rfl
@[simp] theorem isB_tup (b : Bool) (c : List D) : isB b (.tuple c) = false := rfl
@[simp] theorem idx_list (xs : List D) (i : Int) : idxF (.list xs) (.int i) = (at? xs i).map .is := rfl
@[simp] theorem idx_tup (xs : List D) (i : Int) : idxF (.tuple xs) (.int i) = (at? xs i).map .is := rfl
theorem at_nat {α : Type} {xs : List α} (i : Nat) (h : i < xs.length) : at? xs (i : Int) = some xs[i] := by
  unfold at? L2.atI L2.ixN
  rw [if_pos (Int.natCast_nonneg i), if_pos (by omega)]
  simp [h]
theorem at_get {α : Type} {xs : List α} {i : Nat} {x : α} (h : xs[i]? = some x) : at? xs (i : Int) = some x := by
  obtain ⟨h1, h2⟩ := List.getElem?_eq_some_iff.mp h
  rw [at_nat i h1, h2]
@[simp] theorem at_0 {α : Type} (x : α) (xs : List α) : at? (x :: xs) 0 = some x := at_get (i := 0) rfl
@[simp] theorem at_1 {α : Type} (a x : α) (xs : List α) : at? (a :: x :: xs) 1 = some x := at_get (i := 1) rfl
@[simp] theorem at_2 {α : Type} (a b x : α) (xs : List α) : at? (a :: b :: x :: xs) 2 = some x := at_get (i := 2) rfl
@[simp] theorem at_3 {α : Type} (a b c x : α) (xs : List α) : at? (a :: b :: c :: x :: xs) 3 = some x := at_get (i := 3) rfl
@[simp] theorem at_4 {α : Type} (a b c d x : α) (xs : List α) : at? (a :: b :: c :: d :: x :: xs) 4 = some x := at_get (i := 4) rfl
@[simp] theorem at_5 {α : Type} (a b c d f x : α) (xs : List α) : at? (a :: b :: c :: d :: f :: x :: xs) 5 = some x := at_get (i := 5) rfl
theorem at_last {α : Type} (xs : List α) (x : α) : at? (xs ++ [x]) (-1) = some x := by
  unfold at?
  exact L2.atI_last xs x
@[simp] theorem slc_list (xs : List D) (lo hi : Option Int) : slcF (.list xs) lo hi = some (.new (.lst (cut xs lo hi))) := rfl
@[simp] theorem slc_tup (xs : List D) (lo hi : Option Int) : slcF (.tuple xs) lo hi = some (.is (.tuple (cut xs lo hi))) := rfl
@[simp] theorem slc_kl (xs : List D) (lo hi : Option Int) : slcF (klD xs) lo hi = some (.new (.lst (cut xs lo hi))) := rfl
@[simp] theorem blt_lenL (xs : List D) : bltF .len [.list xs] = some (.is (.int xs.length)) := rfl
@[simp] theorem blt_lenT (xs : List D) : bltF .len [.tuple xs] = some (.is (.int xs.length)) := rfl
@[simp] theorem blt_abs (i : Int) : bltF .abs [.int i] = some (.is (.int (if i < 0 then -i else i))) := rfl
@[simp] theorem blt_int (i : Int) : bltF .int [.int i] = some (.is (.int i)) := rfl
@[simp] theorem blt_tupL (xs : List D) : bltF .tuple [.list xs] = some (.is (.tuple xs)) := rfl
@[simp] theorem blt_tupT (xs : List D) : bltF .tuple [.tuple xs] = some (.is (.tuple xs)) := rfl
@[simp] theorem blt_listL (xs : List D) : bltF .list [.list xs] = some (.new (.lst xs)) := rfl
@[simp] theorem blt_listT (xs : List D) : bltF .list [.tuple xs] = some (.new (.lst xs)) := rfl
@[simp] theorem tru_bool (b : Bool) : truthy (.bool b) = some b := rfl
theorem mut_app {xs : List D} {y : D} (h : xs.length < lim) : mutF .append (.lst xs) [y] = some (.none, .lst (xs ++ [y])) := if_pos h
theorem mut_ext {xs ys : List D} (h : xs.length + ys.length ≤ lim) : mutF .extend (.lst xs) [.list ys] = some (.none, .lst (xs ++ ys)) := if_pos h
theorem mut_pop (xs : List D) (y : D) : mutF .pop (.lst (xs ++ [y])) [] = some (y, .lst xs) := by
  show (((xs ++ [y])[(xs ++ [y]).length - 1]?).map fun z => (z, OD.lst (xs ++ [y]).dropLast)) = _
  have e1 : (xs ++ [y])[(xs ++ [y]).length - 1]? = some y := by
    rw [List.length_append, List.length_singleton, Nat.add_sub_cancel, List.getElem?_append_right (Nat.le_refl _), Nat.sub_self]
    rfl
  rw [e1, List.dropLast_concat]
  rfl
theorem rng_1 {n : Nat} (h : n < 4611686018427387904) : rngF [.int (n : Int)] = some ((List.range n).map fun k => .int ((k : Nat) : Int)) := by
  have h1 : -(2 ^ 62) ≤ (n : Int) ∧ (n : Int) < 2 ^ 62 := by omega
  simp only [rngF]
  rw [if_pos h1, Int.toNat_natCast]
/-! ### bounds -/
theorem lim_eq : lim = 16777216 := by decide
theorem le_lim {n : Nat} (h : n ≤ 10000000) : n ≤ lim := Nat.le_trans h (by decide)
theorem lt_lim {n : Nat} (h : n ≤ 10000000) : n < lim := Nat.lt_of_le_of_lt h (by decide)
theorem if_le_lim {α : Type} {n : Nat} {a b : α} (h : n ≤ 10000000) : (if n ≤ lim then a else b) = a := if_pos (le_lim h)
theorem wp_le_lim {α : Type} {n : Nat} {a b : Option α} {Q : α → Prop} (h : n ≤ 10000000) : wp (if n ≤ lim then a else b) Q ↔ wp a Q := by rw [if_le_lim h]
/-! ### calls -/
def fin (k : Nat) : Fl → Option (R × En)
  | .ret r e => if outR r then some (r, e.take k) else none
  | .nx e => some (.d .none, e.take k)
  | _ => none
@[simp] theorem fin_d (k : Nat) (x : D) : fin k (.ret (.d x) e) = some (.d x, e.take k) := rfl
@[simp] theorem fin_new (k : Nat) (o : OD) : fin k (.ret (.new o) e) = some (.new o, e.take k) := rfl
@[simp] theorem fin_nx (k : Nat) : fin k (.nx e) = some (.d .none, e.take k) := rfl
theorem run_at {P : Pg} {n : Nat} {f : Str} {as : List SV} {nm : Str} {io : List Bool} {N : List Str} {b : Sms} (hf : P.fn? f = some ⟨nm, io, N, b⟩) (hl : as.length = io.length) :
    run P (n + 1) f as = (execs ⟨run P n, P.io, P.glb⟩ b (as.map some ++ List.replicate (N.length - as.length) none)).bind (fin as.length) := by
  (conv => lhs; unfold run)
  rw [hf]
  simp only
  rw [if_pos hl]
  cases execs ⟨run P n, P.io, P.glb⟩ b (as.map some ++ List.replicate (N.length - as.length) none) with
  | none => rfl
  | some fl => cases fl <;> rfl
@[simp] theorem slotsOf_nil : slotsOf [] = [] := rfl
@[simp] theorem slotsOf_d (x : D) (rs : List R) : slotsOf (.d x :: rs) = slotsOf rs := rfl
@[simp] theorem slotsOf_new (x : OD) (rs : List R) : slotsOf (.new x :: rs) = slotsOf rs := rfl
@[simp] theorem slotsOf_slot (i : Nat) (rs : List R) : slotsOf (.slot i :: rs) = i :: slotsOf rs := rfl
@[simp] theorem argOf_f (r : R) : argOf false r e = (ldR r e).map .d := rfl
def aoS : Option (Option SV) → Option SV
  | some (some (.own _ o)) => some (.own true o)
  | _ => none
@[simp] theorem aoS_own (b : Bool) (o : OD) : aoS (some (some (.own b o))) = some (.own true o) := rfl
@[simp] theorem argOf_t (i : Nat) : argOf true (.slot i) e = aoS e[i]? := by
  simp only [argOf]
  unfold aoS
  rfl
@[simp] theorem argsOf_nil : argsOf [] [] e = some [] := rfl
@[simp] theorem argsOf_cons (b : Bool) (bs : List Bool) (r : R) (rs : List R) : argsOf (b :: bs) (r :: rs) e = (argOf b r e).bind fun v => (argsOf bs rs e).map fun z => v :: z := rfl
@[simp] theorem backOf_d (a b : Bool) (x : D) (o : Option SV) : backOf a b (.d x) o e = some e := rfl
@[simp] theorem backOf_new (a b : Bool) (x : OD) (o : Option SV) : backOf a b (.new x) o e = some e := rfl
def boS (a io : Bool) (i : Nat) (out : Option SV) (e : En) : Option (Option SV) → Option En
  | some (some (.own b o)) => match io with
    | true => match out with
      | some (.own true o') => some (e.set i (some (.own b o')))
      | _ => none
    | false => if a then some e else if b then none else (fzO o).map fun x => e.set i (some (.d x))
  | some (some (.d _)) => some e
  | _ => none
@[simp] theorem boS_d (a io : Bool) (i : Nat) (out : Option SV) (x : D) : boS a io i out e (some (some (.d x))) = some e := rfl
@[simp] theorem boS_io (a : Bool) (i : Nat) (b : Bool) (o o' : OD) : boS a true i (some (.own true o')) e (some (some (.own b o))) = some (e.set i (some (.own b o'))) := rfl
@[simp] theorem boS_at (i : Nat) (out : Option SV) (b : Bool) (o : OD) : boS true false i out e (some (some (.own b o))) = some e := rfl
@[simp] theorem boS_fz (i : Nat) (out : Option SV) (o : OD) : boS false false i out e (some (some (.own false o))) = (fzO o).map fun x => e.set i (some (.d x)) := rfl
@[simp] theorem backOf_slot (a b : Bool) (i : Nat) (o : Option SV) : backOf a b (.slot i) o e = boS a b i o e e[i]? := by
  simp only [backOf]
  unfold boS
  rfl
@[simp] theorem backs_nil (a : Bool) : backs a [] [] [] e = some e := rfl
@[simp] theorem backs_cons (a b : Bool) (bs : List Bool) (r : R) (rs : List R) (o : Option SV) (os : List (Option SV)) : backs a (b :: bs) (r :: rs) (o :: os) e = (backOf a b r o e).bind fun z => backs a bs rs os z := rfl
theorem callF_eq (call : Call) (io : List Bool) (f : Str) (rs : List R) (h : (slotsOf rs).Nodup) : callF call io f rs e = (argsOf io rs e).bind fun as => (call f as).bind fun q => (backs (atom q.1 && !(io.any id)) io rs q.2 e).map fun e1 => (q.1, e1) := if_pos h
@[simp] theorem atom_none : atom (.d .none) = true := rfl
@[simp] theorem atom_bool (b : Bool) : atom (.d (.bool b)) = true := rfl
@[simp] theorem atom_int (b : Int) : atom (.d (.int b)) = true := rfl
@[simp] theorem atom_str (b : Str) : atom (.d (.str b)) = true := rfl
@[simp] theorem atom_list (b : List D) : atom (.d (.list b)) = false := rfl
@[simp] theorem atom_tup (b : List D) : atom (.d (.tuple b)) = false := rfl
@[simp] theorem atom_new (o : OD) : atom (.new o) = false := rfl
/-! ### loops, the invariant out of the rewriting's sight -/
theorem wp_forI {f : D → En → Option Fl} {Q : Fl → Prop} {xs : List D} {e : En} (I : Nat → En → Prop) (h0 : I 0 e) (hs : ∀ J : Nat → En → Prop, (∀ k e, I k e → J k e) → ∀ i x e, xs[i]? = some x → I i e → wp (f x e) (flL (J (i + 1)) Q)) (hd : ∀ e, I xs.length e → Q (.nx e)) : wp (forL f xs e) Q :=
  wp_for I h0 (hs I fun _ _ h => h) hd
theorem wp_for2I {f : D → En → Option Fl} {Q : Fl → Prop} {xs : List D} {e : En} (I : List D → En → Prop) (h0 : I [] e) (hs : ∀ J : List D → En → Prop, (∀ k e, I k e → J k e) → ∀ done x rest e, xs = done ++ x :: rest → I done e → wp (f x e) (flL (J (done ++ [x])) Q)) (hd : ∀ e, I xs e → Q (.nx e)) : wp (forL f xs e) Q :=
  wp_for2 I h0 (hs I fun _ _ h => h) hd
theorem wp_whlI {t : En → Option (Bool × En)} {b : En → Option Fl} {Q : Fl → Prop} {n m : Nat} {e : En} (I : Nat → En → Prop) (hm : m < n) (h0 : I m e) (hs : ∀ J : Nat → En → Prop, (∀ k e, I k e → J k e) → ∀ m e, I m e → wp (t e) fun q => (q.1 = true → wp (b q.2) (flL (fun e2 => ∃ m', m' < m ∧ J m' e2) Q)) ∧ (q.1 = false → Q (.nx q.2))) : wp (whlL t b n e) Q :=
  wp_whl I (hs I fun _ _ h => h) hm h0
end
theorem wp_forNil {f : D → En → Option Fl} {Q : Fl → Prop} {e : En} : wp (forL f [] e) Q ↔ Q (.nx e) := by
  unfold forL; exact wp_some _
theorem wp_forCons {f : D → En → Option Fl} {Q : Fl → Prop} {e : En} {x : D} {xs : List D} : wp (forL f (x :: xs) e) Q ↔ wp (f x e) (flL (fun e1 => wp (forL f xs e1) Q) Q) := by
  (conv => lhs; unfold forL)
  cases f x e with
  | none => simp
  | some fl => cases fl <;> simp
theorem rng_0 : rngF [.int 0] = some [] := by
  rw [show (0 : Int) = ((0 : Nat) : Int) from rfl, rng_1 (by decide)]; rfl
theorem rng_2 : rngF [.int 2] = some [.int 0, .int 1] := by
  rw [show (2 : Int) = ((2 : Nat) : Int) from rfl, rng_1 (by decide)]; rfl
end PL.Y

/-! PK1: defs that all laws share: drawing numbers. -/
namespace PL.Y
open PySem
def bDraws : Sms :=
  .cons (.set 2 (.lst .nil)) <| 
  .cons (.fr (.nm 3) (.ex (.prm (.slc false true) (.cons (.var 0) (.cons (.cst (.int 63)) .nil)))) (
    .cons (.set 5 (.prm (.blt .abs) (.cons (.prm (.blt .int) (.cons (.var 3) .nil)) .nil))) <| 
    .cons (.ifs (.prm (.cmp .GtE) (.cons (.var 5) (.cons (.prm (.bin .Pow) (.cons (.cst (.int 10)) (.cons (.cst (.int 18)) .nil))) .nil))) (
      .cons (.fr (.nm 4) (.rng (.cons (.cst (.int 60)) .nil)) (
        .cons (.ifs (.prm (.cmp .Gt) (.cons (.var 5) (.cons (.cst (.int 0)) .nil))) (
          .cons (.exp (.mut .append 2 (.cons (.prm (.bin .Mod) (.cons (.var 5) (.cons (.cst (.int 1000003)) .nil))) .nil))) <| 
          .cons (.set 5 (.prm (.bin .FloorDiv) (.cons (.var 5) (.cons (.cst (.int 1000003)) .nil)))) <| 
          .nil) .nil) <| 
        .nil)) <| 
      .nil) (
      .cons (.set 6 (.prm (.bin .Mod) (.cons (.prm (.bin .Add) (.cons (.prm (.bin .Add) (.cons (.prm (.bin .Mult) (.cons (.var 5) (.cons (.cst (.int 48271)) .nil))) (.cons (.prm (.bin .Mult) (.cons (.cst (.int 7)) (.cons (.prm (.blt .len) (.cons (.var 2) .nil)) .nil))) .nil))) (.cons (.cst (.int 11)) .nil))) (.cons (.cst (.int 2147483647)) .nil)))) <| 
      .cons (.fr (.nm 4) (.rng (.cons (.cst (.int 4)) .nil)) (
        .cons (.set 6 (.prm (.bin .Mod) (.cons (.prm (.bin .Add) (.cons (.prm (.bin .Add) (.cons (.prm (.bin .Add) (.cons (.prm (.bin .Mult) (.cons (.var 6) (.cons (.cst (.int 69621)) .nil))) (.cons (.prm (.bin .FloorDiv) (.cons (.var 6) (.cons (.cst (.int 65536)) .nil))) .nil))) (.cons (.prm (.bin .Mult) (.cons (.cst (.int 13)) (.cons (.var 4) .nil))) .nil))) (.cons (.cst (.int 5)) .nil))) (.cons (.cst (.int 2147483629)) .nil)))) <| 
        .cons (.exp (.mut .append 2 (.cons (.prm (.bin .Mod) (.cons (.prm (.bin .FloorDiv) (.cons (.var 6) (.cons (.cst (.int 8)) .nil))) (.cons (.cst (.int 1000003)) .nil))) .nil))) <| 
        .nil)) <| 
      .nil)) <| 
    .nil)) <| 
  .cons (.fr (.nm 4) (.rng (.cons (.var 1) .nil)) (
    .cons (.ifs (.prm (.cmp .Lt) (.cons (.prm (.blt .len) (.cons (.var 2) .nil)) (.cons (.var 1) .nil))) (
      .cons (.set 7 (.cst (.int 0))) <| 
      .cons (.ifs (.prm (.cmp .Gt) (.cons (.prm (.blt .len) (.cons (.var 2) .nil)) (.cons (.cst (.int 0)) .nil))) (
        .cons (.set 7 (.prm .idx (.cons (.var 2) (.cons (.prm (.bin .Mod) (.cons (.var 4) (.cons (.prm (.blt .len) (.cons (.var 2) .nil)) .nil))) .nil)))) <| 
        .nil) .nil) <| 
      .cons (.exp (.mut .append 2 (.cons (.prm (.bin .Mod) (.cons (.prm (.bin .Add) (.cons (.prm (.bin .Add) (.cons (.prm (.bin .Mult) (.cons (.var 7) (.cons (.cst (.int 16807)) .nil))) (.cons (.prm (.bin .Mult) (.cons (.cst (.int 31)) (.cons (.prm (.blt .len) (.cons (.var 2) .nil)) .nil))) .nil))) (.cons (.cst (.int 17)) .nil))) (.cons (.cst (.int 1000003)) .nil))) .nil))) <| 
      .nil) .nil) <| 
    .nil)) <| 
  .cons (.ret (.prm (.slc false true) (.cons (.var 2) (.cons (.var 1) .nil)))) <| 
  .nil
def bCell : Sms :=
  .cons (.ret (.prm (.bin .FloorDiv) (.cons (.prm .idx (.cons (.var 0) (.cons (.prm (.bin .Mod) (.cons (.var 1) (.cons (.prm (.blt .len) (.cons (.var 0) .nil)) .nil))) .nil))) (.cons (.prm (.bin .Add) (.cons (.cst (.int 1)) (.cons (.prm (.bin .Mod) (.cons (.prm (.bin .FloorDiv) (.cons (.var 1) (.cons (.prm (.blt .len) (.cons (.var 0) .nil)) .nil))) (.cons (.cst (.int 7)) .nil))) .nil))) .nil)))) <| 
  .nil
def bNumber : Sms :=
  .cons (.ret (.and (.prm (.isi "int") (.cons (.var 0) .nil)) (.not (.prm (.isi "bool") (.cons (.var 0) .nil))))) <| 
  .nil
def bAlike (f g : Str) : Sms :=
  .cons (.ifs (.prm (.cmp .Is) (.cons (.var 1) (.cons (.cst .none) .nil))) (
    .cons (.ret (.prm (.cmp .Is) (.cons (.var 0) (.cons (.cst .none) .nil)))) <| 
    .nil) .nil) <| 
  .cons (.ifs (.prm (.cmp .Is) (.cons (.var 1) (.cons (.cst (.bool true)) .nil))) (
    .cons (.ret (.prm (.cmp .Is) (.cons (.var 0) (.cons (.cst (.bool true)) .nil)))) <| 
    .nil) .nil) <| 
  .cons (.ifs (.prm (.cmp .Is) (.cons (.var 1) (.cons (.cst (.bool false)) .nil))) (
    .cons (.ret (.prm (.cmp .Is) (.cons (.var 0) (.cons (.cst (.bool false)) .nil)))) <| 
    .nil) .nil) <| 
  .cons (.ifs (.prm (.isi "int") (.cons (.var 1) .nil)) (
    .cons (.ret (.and (.call g (.cons (.var 0) .nil)) (.prm (.cmp .Eq) (.cons (.var 0) (.cons (.var 1) .nil))))) <| 
    .nil) .nil) <| 
  .cons (.ifs (.prm (.isi "str") (.cons (.var 1) .nil)) (
    .cons (.ret (.and (.prm (.isi "str") (.cons (.var 0) .nil)) (.prm (.cmp .Eq) (.cons (.var 0) (.cons (.var 1) .nil))))) <| 
    .nil) .nil) <| 
  .cons (.ifs (.or (.and (.prm (.isi "list") (.cons (.var 1) .nil)) (.not (.prm (.isi "list") (.cons (.var 0) .nil)))) (.and (.prm (.isi "tuple") (.cons (.var 1) .nil)) (.not (.prm (.isi "tuple") (.cons (.var 0) .nil))))) (
    .cons (.ret (.cst (.bool false))) <| 
    .nil) .nil) <| 
  .cons (.ifs (.prm (.cmp .NotEq) (.cons (.prm (.blt .len) (.cons (.var 0) .nil)) (.cons (.prm (.blt .len) (.cons (.var 1) .nil)) .nil))) (
    .cons (.ret (.cst (.bool false))) <| 
    .nil) .nil) <| 
  .cons (.fr (.nm 2) (.rng (.cons (.prm (.blt .len) (.cons (.var 1) .nil)) .nil)) (
    .cons (.ifs (.not (.call f (.cons (.prm .idx (.cons (.var 0) (.cons (.var 2) .nil))) (.cons (.prm .idx (.cons (.var 1) (.cons (.var 2) .nil))) .nil)))) (
      .cons (.ret (.cst (.bool false))) <| 
      .nil) .nil) <| 
    .nil)) <| 
  .cons (.ret (.cst (.bool true))) <| 
  .nil
def bTake : Sms :=
  .cons (.ifs (.prm (.cmp .Eq) (.cons (.var 0) (.cons (.lst .nil) .nil))) (
    .cons (.ret (.cst (.int 5))) <| 
    .nil) .nil) <| 
  .cons (.ret (.mut .pop 0 .nil)) <| 
  .nil
/-- a slot with data or without -/
def jk (o : Option D) : Option SV := o.map .d
@[simp] theorem puS_jk {e : En} (i : Nat) (v : SV) (o : Option D) : puS i v e (some (jk o)) = some (e.set i (some v)) := by cases o <;> rfl
@[simp] theorem jk_some (x : D) : jk (some x) = some (.d x) := rfl
@[simp] theorem jk_none : jk none = none := rfl
/-- a slot with data, with an object, or without -/
inductive Jk where
  | n
  | d (x : D)
  | o (x : OD)
def ko : Jk → Option SV
  | .n => none
  | .d x => some (.d x)
  | .o x => some (.own false x)
@[simp] theorem puS_ko {e : En} (i : Nat) (v : SV) (o : Jk) : puS i v e (some (ko o)) = some (e.set i (some v)) := by cases o <;> rfl
@[simp] theorem ko_n : ko .n = none := rfl
@[simp] theorem ko_d (x : D) : ko (.d x) = some (.d x) := rfl
@[simp] theorem ko_o (x : OD) : ko (.o x) = some (.own false x) := rfl
def InR (ds : List Int) : Prop := ∀ d ∈ ds, 0 ≤ d ∧ d < 1000003
theorem InR.app {ds : List Int} {d : Int} (h : InR ds) (h1 : 0 ≤ d) (h2 : d < 1000003) : InR (ds ++ [d]) := fun x hx => by
  rcases List.mem_append.mp hx with hx | hx
  · exact h x hx
  · rw [List.mem_singleton.mp hx]; exact ⟨h1, h2⟩
theorem rev_app {ds : List Int} {d : Int} : (ds.map PyData.int) ++ [PyData.int d] = (ds ++ [d]).map PyData.int := by simp
end PL.Y

/-! PK2: what the shared defs do. -/
namespace PL.Y
open PySem
theorem cut_to {α : Type} (xs : List α) (k : Nat) : cut xs none (some (k : Int)) = xs.take k := by
  unfold cut
  rw [HT.sIx_none, HT.sIx_nat, List.drop_zero, Nat.sub_zero]
  by_cases h : k ≤ xs.length
  · rw [Nat.min_eq_left h]
  · rw [Nat.min_eq_right (by omega), List.take_length, List.take_of_length_le (by omega)]
theorem cut_from {α : Type} (xs : List α) (k : Nat) : cut xs (some (k : Int)) none = xs.drop k := by
  unfold cut
  rw [HT.sIx_none, HT.sIx_nat]
  by_cases h : k ≤ xs.length
  · rw [Nat.min_eq_left h, List.take_of_length_le (by rw [List.length_drop]; omega)]
  · rw [Nat.min_eq_right (by omega), List.drop_length, List.drop_of_length_le (by omega), List.take_nil]
theorem pow18 : binF .Pow (.int 10) (.int 18) = some (.is (.int 1000000000000000000)) := by
  have h : (0 : Int) ≤ 18 ∧ (18 : Int) ≤ 1000000 ∧ (10 : Int).natAbs < 2 ^ 64 := by decide +kernel
  simp only [binF]
  rw [if_pos h]
  rfl
theorem rng_lit (n : Nat) (h : n < 4611686018427387904) : rngF [.int (OfNat.ofNat n : Int)] = some ((List.range n).map fun k => .int ((k : Nat) : Int)) := rng_1 h
theorem inr_take {ds : List Int} (h : InR ds) (k : Nat) : InR (ds.take k) := fun d hd => h d (List.mem_of_mem_take hd)
theorem get_rng {n i : Nat} {x : D} (h : ((List.range n).map fun k => PyData.int ((k : Nat) : Int))[i]? = some x) : x = .int i ∧ i < n := by
  rw [List.getElem?_map, Option.map_eq_some_iff] at h
  obtain ⟨k, h1, h2⟩ := h
  obtain ⟨h3, h4⟩ := List.getElem?_eq_some_iff.mp h1
  rw [List.length_range] at h3
  rw [List.getElem_range] at h4
  exact ⟨by rw [← h2, h4], h3⟩
theorem get_ints {ns : List Int} {i : Nat} {x : D} (h : (ns.map PyData.int)[i]? = some x) : ∃ v, x = .int v ∧ ns[i]? = some v := by
  rw [List.getElem?_map, Option.map_eq_some_iff] at h
  obtain ⟨k, h1, h2⟩ := h
  exact ⟨k, h2.symm, h1⟩
theorem at_mod {ds : List Int} (h : 0 < ds.length) (k : Nat) : ∃ d, d ∈ ds ∧ at? (ds.map PyData.int) ((k : Int) % (ds.length : Int)) = some (.int d) := by
  have hlt : k % ds.length < ds.length := Nat.mod_lt _ h
  refine ⟨ds[k % ds.length], List.getElem_mem hlt, ?_⟩
  rw [← Int.natCast_emod]
  exact at_get (by rw [List.getElem?_map, List.getElem?_eq_getElem hlt]; rfl)
theorem draws_ok {P : Pg} {f : Str} {nm : Str} (hf : P.fn? f = some ⟨nm, [false, false], ["script", "many", "found", "cell", "k", "number", "mixed", "base"], bDraws⟩) (n : Nat) (ns : List Int) (hl : ns.length ≤ 63) (m : Nat) (hm : m ≤ 100000) :
    wp (run P (n + 1) f [.d (klD (ns.map .int)), .d (.int m)]) fun q => ∃ ds : List Int, q.1 = .new (.lst (ds.map .int)) ∧ ds.length = m ∧ InR ds ∧ ∃ o1 o2, q.2 = [o1, o2] := by
  rw [run_at hf rfl]
  simp -implicitDefEqProofs [bDraws, if_le_lim]
  rw [show ((63 : Int)) = ((63 : Nat) : Int) from rfl, cut_to, List.take_of_length_le (by simpa using hl)]
  refine wp_forI (fun i e => ∃ (fs : List Int) (j3 j4 j5 j6 : Option D), e = [some (.d (klD (ns.map .int))), some (.d (.int m)), some (.own false (.lst (fs.map .int))), jk j3, jk j4, jk j5, jk j6, none] ∧ fs.length ≤ 60 * i ∧ InR fs) ⟨[], none, none, none, none, rfl, by simp, fun _ h => absurd h List.not_mem_nil⟩ (fun I hI => ?_) ?_
  · rintro i x e hx ⟨fs, j3, j4, j5, j6, rfl, hfl, hfr⟩
    obtain ⟨v, rfl, hv⟩ := get_ints hx
    have hi : i < 63 := by
      have := (List.getElem?_eq_some_iff.mp hv).1
      omega
    simp -implicitDefEqProofs [pow18, wp_br, bin_mulL, bin_mulR, bin_mod]
    refine ⟨fun hbig => ?_, fun hbig => ?_⟩
    · rw [rng_lit 60 (by decide)]
      simp only [wp_some, wp_map]
      refine wp_forI (fun k e => ∃ (gs : List Int) (num : Int) (j4 : Option D), e = [some (.d (klD (ns.map .int))), some (.d (.int m)), some (.own false (.lst (gs.map .int))), some (.d (.int v)), jk j4, some (.d (.int num)), jk j6, none] ∧ gs.length ≤ 60 * i + k ∧ InR gs) ⟨fs, _, j4, rfl, by omega, hfr⟩ (fun J hJ => ?_) ?_
      · rintro k x e hx ⟨gs, num, j4, rfl, hgl, hgr⟩
        obtain ⟨rfl, hk⟩ := get_rng hx
        have hL : gs.length < lim := lt_lim (by omega)
        simp -implicitDefEqProofs [wp_br, bin_mod, bin_fdiv, mut_app, hL]
        refine ⟨fun hp => ?_, fun hp => ?_⟩
        · rw [rev_app]
          exact hJ _ _ ⟨gs ++ [num % 1000003], _, some (.int k), rfl, by simp; omega, hgr.app (Int.emod_nonneg _ (by decide)) (Int.emod_lt_of_pos _ (by decide))⟩
        · exact hJ _ _ ⟨gs, num, some (.int k), rfl, by omega, hgr⟩
      · rintro e ⟨gs, num, j4, rfl, hgl, hgr⟩
        simp at hgl
        simp -implicitDefEqProofs
        exact hI _ _ ⟨gs, some (.int v), j4, some (.int num), j6, rfl, by omega, hgr⟩
    · rw [rng_lit 4 (by decide)]
      simp only [wp_some, wp_map]
      refine wp_forI (fun k e => ∃ (gs : List Int) (mix : Int) (j4 : Option D), e = [some (.d (klD (ns.map .int))), some (.d (.int m)), some (.own false (.lst (gs.map .int))), some (.d (.int v)), jk j4, some (.d (.int (if v < 0 then -v else v))), some (.d (.int mix)), none] ∧ gs.length ≤ 60 * i + k ∧ InR gs) ⟨fs, _, j4, rfl, by omega, hfr⟩ (fun J hJ => ?_) ?_
      · rintro k x e hx ⟨gs, mix, j4, rfl, hgl, hgr⟩
        obtain ⟨rfl, hk⟩ := get_rng hx
        have hL : gs.length < lim := lt_lim (by omega)
        simp -implicitDefEqProofs [bin_mod, bin_fdiv, bin_mulL, bin_mulR, mut_app, hL]
        rw [rev_app]
        exact hJ _ _ ⟨gs ++ [_], _, some (.int k), rfl, by simp; omega, hgr.app (Int.emod_nonneg _ (by decide)) (Int.emod_lt_of_pos _ (by decide))⟩
      · rintro e ⟨gs, mix, j4, rfl, hgl, hgr⟩
        simp at hgl
        simp -implicitDefEqProofs
        exact hI _ _ ⟨gs, some (.int v), j4, some (.int _), some (.int mix), rfl, by omega, hgr⟩
  · rintro e ⟨fs, j3, j4, j5, j6, rfl, hfl, hfr⟩
    simp at hfl
    simp -implicitDefEqProofs
    rw [rng_1 (by omega)]
    simp only [wp_some, wp_map]
    refine wp_forI (fun k e => ∃ (gs : List Int) (j4 j7 : Option D), e = [some (.d (klD (ns.map .int))), some (.d (.int m)), some (.own false (.lst (gs.map .int))), jk j3, jk j4, jk j5, jk j6, jk j7] ∧ (k ≤ gs.length ∨ m ≤ gs.length) ∧ gs.length ≤ 60 * ns.length + k ∧ InR gs) ⟨fs, j4, none, rfl, by omega, by omega, hfr⟩ (fun J hJ => ?_) ?_
    · rintro k x e hx ⟨gs, j4, j7, rfl, hkg, hgl, hgr⟩
      obtain ⟨rfl, hk⟩ := get_rng hx
      have hL : gs.length < lim := lt_lim (by omega)
      simp -implicitDefEqProofs [wp_br, bin_mulL, bin_mulR, mut_app, hL, bin_mod]
      refine ⟨fun hlt => ⟨fun hpos => ?_, fun hpos => ?_⟩, fun hge => ?_⟩
      · obtain ⟨d, hd, ha⟩ := at_mod hpos k
        have hL0 : (0 : Int) < gs.length := by omega
        simp -implicitDefEqProofs [bin_mod, hpos, ha, bin_mulL, bin_mulR, mut_app, hL]
        rw [rev_app]
        exact hJ _ _ ⟨gs ++ [_], some (.int k), some (.int d), rfl, by simp; omega, by simp; omega, hgr.app (Int.emod_nonneg _ (by decide)) (Int.emod_lt_of_pos _ (by decide))⟩
      · rw [rev_app]
        exact hJ _ _ ⟨gs ++ [_], some (.int k), some (.int 0), rfl, by simp; omega, by simp; omega, hgr.app (Int.emod_nonneg _ (by decide)) (Int.emod_lt_of_pos _ (by decide))⟩
      · exact hJ _ _ ⟨gs, some (.int k), j7, rfl, by omega, by omega, hgr⟩
    · rintro e ⟨gs, j4, j7, rfl, hkg, hgl, hgr⟩
      simp at hkg hgl
      simp -implicitDefEqProofs [cut_to]
      exact ⟨gs.take m, by simp, by simp; omega, inr_take hgr _⟩
end PL.Y

/-! PK3: the shared defs: cell, alike, take. -/
namespace PL.Y
open PySem
/-- plain data at most t deep -/
def Pd : Nat → D → Prop
  | _, .none => True
  | _, .bool _ => True
  | _, .int _ => True
  | _, .str _ => True
  | 0, _ => False
  | t + 1, .list xs => xs.length ≤ 10000000 ∧ ∀ x ∈ xs, Pd t x
  | t + 1, .tuple xs => xs.length ≤ 10000000 ∧ ∀ x ∈ xs, Pd t x
  | _ + 1, .dict _ => False
@[simp] theorem Pd_none (t : Nat) : Pd t .none := by unfold Pd; trivial
@[simp] theorem Pd_bool (t : Nat) (b : Bool) : Pd t (.bool b) := by unfold Pd; trivial
@[simp] theorem Pd_int (t : Nat) (b : Int) : Pd t (.int b) := by unfold Pd; trivial
@[simp] theorem Pd_str (t : Nat) (b : Str) : Pd t (.str b) := by unfold Pd; trivial
@[simp] theorem Pd_list (t : Nat) (xs : List D) : Pd (t + 1) (.list xs) ↔ xs.length ≤ 10000000 ∧ ∀ x ∈ xs, Pd t x := by rw [Pd]
@[simp] theorem Pd_tup (t : Nat) (xs : List D) : Pd (t + 1) (.tuple xs) ↔ xs.length ≤ 10000000 ∧ ∀ x ∈ xs, Pd t x := by rw [Pd]
theorem Pd.up : ∀ {t : Nat} {x : D}, Pd t x → Pd (t + 1) x
  | t, .none, _ => by simp
  | t, .bool _, _ => by simp
  | t, .int _, _ => by simp
  | t, .str _, _ => by simp
  | 0, .list _, h => by unfold Pd at h; exact h.elim
  | 0, .tuple _, h => by unfold Pd at h; exact h.elim
  | 0, .dict _, h => by unfold Pd at h; exact h.elim
  | t + 1, .list xs, h => by
    rw [Pd_list] at h ⊢
    exact ⟨h.1, fun x hx => Pd.up (h.2 x hx)⟩
  | t + 1, .tuple xs, h => by
    rw [Pd_tup] at h ⊢
    exact ⟨h.1, fun x hx => Pd.up (h.2 x hx)⟩
  | t + 1, .dict _, h => by unfold Pd at h; exact h.elim
theorem Pd.le {t u : Nat} {x : D} (h : Pd t x) (l : t ≤ u) : Pd u x := by
  obtain ⟨k, rfl⟩ := Nat.le.dest l
  clear l
  induction k with
  | zero => exact h
  | succ k ih => exact ih.up
theorem Pd.shape : ∀ {t : Nat} {x : D}, Pd t x → x.plain = true ∧ x.depth ≤ t + 1
  | t, .none, _ => by simp [PyData.plain, PyData.depth]
  | t, .bool _, _ => by simp [PyData.plain, PyData.depth]
  | t, .int _, _ => by simp [PyData.plain, PyData.depth]
  | t, .str _, _ => by simp [PyData.plain, PyData.depth]
  | 0, .list _, h => by unfold Pd at h; exact h.elim
  | 0, .tuple _, h => by unfold Pd at h; exact h.elim
  | 0, .dict _, h => by unfold Pd at h; exact h.elim
  | t + 1, .list xs, h => by
    rw [Pd_list] at h
    replace h := h.2
    have : PyData.plainAll xs = true ∧ PyData.depthAll xs ≤ t + 1 := by
      induction xs with
      | nil => simp [PyData.plainAll, PyData.depthAll]
      | cons x xs ih =>
        have h1 := Pd.shape (h x List.mem_cons_self)
        have h2 := ih fun y hy => h y (List.mem_cons_of_mem _ hy)
        simp only [PyData.plainAll, PyData.depthAll, h1.1, h2.1, Bool.and_self, true_and]
        omega
    simp only [PyData.plain, PyData.depth, this.1, true_and]
    omega
  | t + 1, .tuple xs, h => by
    rw [Pd_tup] at h
    replace h := h.2
    have : PyData.plainAll xs = true ∧ PyData.depthAll xs ≤ t + 1 := by
      induction xs with
      | nil => simp [PyData.plainAll, PyData.depthAll]
      | cons x xs ih =>
        have h1 := Pd.shape (h x List.mem_cons_self)
        have h2 := ih fun y hy => h y (List.mem_cons_of_mem _ hy)
        simp only [PyData.plainAll, PyData.depthAll, h1.1, h2.1, Bool.and_self, true_and]
        omega
    simp only [PyData.plain, PyData.depth, this.1, true_and]
    omega
  | t + 1, .dict _, h => by unfold Pd at h; exact h.elim
theorem Pd.shp {t : Nat} {x : D} (h : Pd t x) (l : t ≤ 60) : shp x = true := by
  obtain ⟨h1, h2⟩ := h.shape
  unfold PL.shp
  rw [h1, decide_eq_true (by omega)]
  rfl
theorem cmp_eqD {x y : D} (hx : shp x = true) (hy : shp y = true) : cmpF .Eq x y = some (PyData.eqv x y) := by
  show (if PL.shp x && PL.shp y then _ else _) = _
  rw [hx, hy]
  rfl
theorem cmp_neD {x y : D} (hx : shp x = true) (hy : shp y = true) : cmpF .NotEq x y = some (!PyData.eqv x y) := by
  show (if PL.shp x && PL.shp y then _ else _) = _
  rw [hx, hy]
  rfl
/-- _law_cell: in range -/
theorem cell_ok {P : Pg} {f : Str} {nm : Str} (hf : P.fn? f = some ⟨nm, [false, false], ["draws", "k"], bCell⟩) (n : Nat) (ds : List Int) (h0 : 0 < ds.length) (h1 : ds.length ≤ 1000000) (hr : InR ds) (k : Nat) :
    wp (run P (n + 1) f [.d (.list (ds.map .int)), .d (.int k)]) fun q => ∃ v : Int, q.1 = .d (.int v) ∧ 0 ≤ v ∧ v < 1000003 ∧ ∃ o1 o2, q.2 = [o1, o2] := by
  rw [run_at hf rfl]
  obtain ⟨d, hd, ha⟩ := at_mod h0 k
  have hL : 0 < ds.length ∧ ds.length < 1073741824 := ⟨h0, by omega⟩
  have e1 : binF .FloorDiv (.int k) (.int ds.length) = some (.is (.int ((k : Int) / ds.length))) := bin_fdiv ⟨by omega, by omega⟩
  have hm : 0 ≤ ((k : Int) / ds.length) % 7 ∧ ((k : Int) / ds.length) % 7 < 7 := ⟨Int.emod_nonneg _ (by decide), Int.emod_lt_of_pos _ (by decide)⟩
  have e2 : binF .FloorDiv (.int d) (.int (1 + ((k : Int) / ds.length) % 7)) = some (.is (.int (d / (1 + ((k : Int) / ds.length) % 7)))) := bin_fdiv ⟨by omega, by omega⟩
  simp -implicitDefEqProofs [bCell, bin_mod, h0, ha, e1, e2]
  obtain ⟨r1, r2⟩ := hr d hd
  exact ⟨Int.ediv_nonneg r1 (by omega), Int.lt_of_le_of_lt (Int.ediv_le_self _ r1) r2⟩
theorem number_ok {P : Pg} {g : Str} {nm : Str} (hg : P.fn? g = some ⟨nm, [false], ["value"], bNumber⟩) (n : Nat) (i : Int) : run P (n + 1) g [.d (.int i)] = some (.d (.bool true), [some (.d (.int i))]) := by
  rw [run_at hg rfl]
  simp -implicitDefEqProofs [bNumber, isiF, isiT, isiB, tyN, isD]
/-- _law_alike: of the same -/
theorem alike_ok {P : Pg} {f g : Str} {nm nm' : Str} (hf : P.fn? f = some ⟨nm, [false, false], ["actual", "due", "k"], bAlike f g⟩) (hg : P.fn? g = some ⟨nm', [false], ["value"], bNumber⟩) :
    ∀ (t : Nat) (x : D), Pd t x → t ≤ 60 → ∀ n : Nat, wp (run P (n + t + 2) f [.d x, .d x]) fun q => q.1 = .d (.bool true) ∧ ∃ o1 o2, q.2 = [o1, o2] := by
  have iof : P.io f = [false, false] := by unfold Pg.io; rw [hf]
  have iog : P.io g = [false] := by unfold Pg.io; rw [hg]
  intro t
  induction t with
  | zero =>
    intro x hx _ n
    rw [show n + 0 + 2 = (n + 1) + 1 from rfl, run_at hf rfl]
    cases x with
    | none => simp -implicitDefEqProofs [bAlike]
    | bool b => cases b <;> simp -implicitDefEqProofs [bAlike]
    | int i => simp -implicitDefEqProofs [bAlike, isiF, isiT, isiB, tyN, isD, iog, callF_eq, number_ok hg]
    | str s => simp -implicitDefEqProofs [bAlike, isiF, isiT, isiB, tyN, isD]
    | _ => unfold Pd at hx; exact hx.elim
  | succ t ih =>
    intro x hx ht n
    rw [show n + (t + 1) + 2 = (n + t + 2) + 1 from rfl, run_at hf rfl]
    cases x with
    | none => simp -implicitDefEqProofs [bAlike]
    | bool b => cases b <;> simp -implicitDefEqProofs [bAlike]
    | int i => simp -implicitDefEqProofs [bAlike, isiF, isiT, isiB, tyN, isD, iog, callF_eq, number_ok hg]
    | str s => simp -implicitDefEqProofs [bAlike, isiF, isiT, isiB, tyN, isD]
    | list xs =>
      have hlen : xs.length ≤ 10000000 := by rw [Pd_list] at hx; exact hx.1
      have hxs : ∀ x ∈ xs, Pd t x := by rw [Pd_list] at hx; exact hx.2
      simp -implicitDefEqProofs [bAlike, isiF, isiT, isiB, tyN, isD]
      rw [rng_1 (by omega)]
      simp only [wp_some]
      refine wp_forI (fun _ e => ∃ j, e = [some (.d (.list xs)), some (.d (.list xs)), jk j]) ⟨none, rfl⟩ (fun J hJ => ?_) ?_
      · rintro k x e hk ⟨j, rfl⟩
        obtain ⟨rfl, hlt⟩ := get_rng hk
        have ha := at_nat k hlt
        simp -implicitDefEqProofs [ha, iof, callF_eq]
        refine wp_mono (ih _ (hxs _ (List.getElem_mem hlt)) (by omega) n) ?_
        rintro ⟨r, e⟩ ⟨h1, o1, o2, h2⟩
        simp only at h1 h2
        subst h1 h2
        simp -implicitDefEqProofs
        exact hJ _ _ ⟨some (.int k), rfl⟩
      · rintro e ⟨j, rfl⟩
        simp -implicitDefEqProofs
    | tuple xs =>
      have hlen : xs.length ≤ 10000000 := by rw [Pd_tup] at hx; exact hx.1
      have hxs : ∀ x ∈ xs, Pd t x := by rw [Pd_tup] at hx; exact hx.2
      simp -implicitDefEqProofs [bAlike, isiF, isiT, isiB, tyN, isD]
      rw [rng_1 (by omega)]
      simp only [wp_some]
      refine wp_forI (fun _ e => ∃ j, e = [some (.d (.tuple xs)), some (.d (.tuple xs)), jk j]) ⟨none, rfl⟩ (fun J hJ => ?_) ?_
      · rintro k x e hk ⟨j, rfl⟩
        obtain ⟨rfl, hlt⟩ := get_rng hk
        have ha := at_nat k hlt
        simp -implicitDefEqProofs [ha, iof, callF_eq]
        refine wp_mono (ih _ (hxs _ (List.getElem_mem hlt)) (by omega) n) ?_
        rintro ⟨r, e⟩ ⟨h1, o1, o2, h2⟩
        simp only at h1 h2
        subst h1 h2
        simp -implicitDefEqProofs
        exact hJ _ _ ⟨some (.int k), rfl⟩
      · rintro e ⟨j, rfl⟩
        simp -implicitDefEqProofs
    | dict _ => unfold Pd at hx; exact hx.elim
/-- _law_take -/
theorem take_nil {P : Pg} {f : Str} {nm : Str} (hf : P.fn? f = some ⟨nm, [true], ["cells"], bTake⟩) (n : Nat) : run P (n + 1) f [.own true (.lst [])] = some (.d (.int 5), [some (.own true (.lst []))]) := by
  rw [run_at hf rfl]
  have e1 : cmpF .Eq (.list []) (.list []) = some true := by rw [cmp_eqD (by decide) (by decide)]; simp [PyData.eqv, PyData.eqvAll]
  simp -implicitDefEqProofs [bTake, e1, if_le_lim]
theorem Pd_ints (cs : List Int) (t : Nat) (h : cs.length ≤ 10000000) : Pd (t + 1) (.list (cs.map .int)) := by
  rw [Pd_list]
  refine ⟨by simpa using h, fun x hx => ?_⟩
  obtain ⟨i, _, rfl⟩ := List.mem_map.mp hx
  simp
theorem take_snoc {P : Pg} {f : Str} {nm : Str} (hf : P.fn? f = some ⟨nm, [true], ["cells"], bTake⟩) (n : Nat) (cs : List Int) (c : Int) (h : cs.length ≤ 1000000) : run P (n + 1) f [.own true (.lst ((cs ++ [c]).map .int))] = some (.d (.int c), [some (.own true (.lst (cs.map .int)))]) := by
  rw [run_at hf rfl]
  have e1 : cmpF .Eq (.list ((cs ++ [c]).map .int)) (.list []) = some false := by
    rw [cmp_eqD ((Pd_ints _ 0 (by simp; omega)).shp (by decide)) (by decide)]
    cases cs <;> simp [PyData.eqv, PyData.eqvAll]
  have e2 := mut_pop (cs.map PyData.int) (.int c)
  rw [List.map_append, List.map_singleton] at e1 ⊢
  simp -implicitDefEqProofs [bTake, e1, if_le_lim, e2]
/-- .. of any list in range -/
theorem take_ok {P : Pg} {f : Str} {nm : Str} (hf : P.fn? f = some ⟨nm, [true], ["cells"], bTake⟩) (n : Nat) (cs : List Int) (h : cs.length ≤ 1000000) (hr : InR cs) :
    ∃ c cs', run P (n + 1) f [.own true (.lst (cs.map .int))] = some (.d (.int c), [some (.own true (.lst (cs'.map .int)))]) ∧ 0 ≤ c ∧ c < 1000003 ∧ InR cs' ∧ cs'.length ≤ cs.length := by
  rcases List.eq_nil_or_concat cs with rfl | ⟨xs, x, rfl⟩
  · exact ⟨5, [], take_nil hf n, by decide, by decide, hr, Nat.le_refl _⟩
  · rw [List.concat_eq_append] at h hr ⊢
    have hx := hr x (by simp)
    exact ⟨x, xs, take_snoc hf n xs x (by simp at h; omega), hx.1, hx.2, fun y hy => hr y (by simp [hy]), by simp⟩
end PL.Y

/-! PK4: ranges by two; slices from the end. -/
namespace PL.Y
open PySem
theorem rng_two {m : Nat} (h : m ≤ 1000000) : rngF [.int 0, .int (((2 * m : Nat)) : Int), .int 2] = some ((List.range m).map fun k => .int (((2 * k : Nat)) : Int)) := by
  have hs : Builtin.Range.rangeSize 0 ((2 * m : Nat) : Int) 2 = (m : Int) := by
    unfold Builtin.Range.rangeSize
    rw [if_pos (by decide)]
    by_cases hm : m = 0
    · subst hm; rfl
    · rw [if_pos (by omega)]
      omega
  have fit : ∀ x : Int, -100000000 ≤ x → x ≤ 100000000 → Builtin.Range.rangeFitsLong x = true := by
    intro x h1 h2
    unfold Builtin.Range.rangeFitsLong
    simp only [Bool.and_eq_true, decide_eq_true_eq]
    omega
  have hsm : Builtin.Range.small 0 ((2 * m : Nat) : Int) 2 = true := by
    unfold Builtin.Range.small
    rw [hs, fit 0 (by decide) (by decide), fit _ (by omega) (by omega), fit 2 (by decide) (by decide), fit (m : Int) (by omega) (by omega), if_pos (by decide), fit _ (by omega) (by omega)]
    simp
  have hc : (2 : Int) ≠ 0 ∧ (2 : Int).natAbs < 1073741824 ∧ Builtin.Range.small 0 ((2 * m : Nat) : Int) 2 = true ∧ 0 ≤ Builtin.Range.rangeSize 0 ((2 * m : Nat) : Int) 2 := ⟨by decide, by decide, hsm, by rw [hs]; omega⟩
  have e : ∀ k : Nat, (0 : Int) + (k : Int) * 2 = ((2 * k : Nat) : Int) := fun k => by omega
  simp only [rngF]
  rw [if_pos hc, hs]
  simp only [Int.toNat_natCast, e]
theorem cut_neg {α : Type} (xs : List α) (k : Nat) (hk : 0 < k) : cut xs none (some (-(k : Int))) = xs.take (xs.length - k) := by
  unfold cut
  rw [HT.sIx_none, List.drop_zero, Nat.sub_zero]
  have e : HT.sIx xs.length xs.length (some (-(k : Int))) = xs.length - k := by
    show (if -(k : Int) < 0 then (-(k : Int) + (xs.length : Int)).toNat else _) = _
    rw [if_pos (by omega)]
    omega
  rw [e]
theorem cut_1 {α : Type} (xs : List α) (x : α) : cut (xs ++ [x]) none (some (-1)) = xs := by
  rw [show (-1 : Int) = -((1 : Nat) : Int) from rfl, cut_neg _ 1 (by decide), List.length_append, List.length_singleton, Nat.add_sub_cancel, List.take_left]
theorem cut_2 {α : Type} (xs : List α) (x y : α) : cut (xs ++ [x, y]) none (some (-2)) = xs := by
  rw [show (-2 : Int) = -((2 : Nat) : Int) from rfl, cut_neg _ 2 (by decide), List.length_append, show [x, y].length = 2 from rfl, Nat.add_sub_cancel, List.take_left]
end PL.Y

/-! PS3: comprehensions by rewriting. -/
namespace PL.Y
open PySem
section
variable {c : Cf} {e : En}
def lcT (c : Cf) (tg : Tg) (ifs : Es) (el : Ex) (own : List Nat) (x : D) (e2 : En) : Option (Option D × En) :=
  (setTg tg x e2).bind fun e3 => (tsts c ifs e3).bind fun q => br q.1 ((ev c el q.2).bind fun z => (fzR z.1 z.2).map fun y => (some y.1, wipeE y.2 own)) (some (none, wipeE q.2 own))
theorem lcT_eq (tg : Tg) (ifs : Es) (el : Ex) (own : List Nat) (x : D) : lcT c tg ifs el own x e = (setTg tg x e).bind fun e3 => (tsts c ifs e3).bind fun q => br q.1 ((ev c el q.2).bind fun z => (fzR z.1 z.2).map fun y => (some y.1, wipeE y.2 own)) (some (none, wipeE q.2 own)) := rfl
@[simp] theorem ev_lc (tg : Tg) (it : It) (ifs : Es) (el : Ex) (own : List Nat) : ev c (.lc tg it ifs el own) e = (evIt c it e).bind fun q => br (noOwn q.2 own) ((lcL (lcT c tg ifs el own) q.1 [] (wipeE q.2 own)).map fun z => (.new (.lst z.1), backE q.2 z.2 own)) none := by
  (conv => lhs; unfold ev)
  congr 1
  funext q
  obtain ⟨q1, q2⟩ := q
  simp only
  cases noOwn q2 own with
  | false => rfl
  | true =>
    simp only [br_true]
    congr 2
    funext x e2
    unfold lcT
    congr 1
    funext e3
    congr 1
    funext q
    obtain ⟨b, e4⟩ := q
    cases b <;> rfl
def lcQ (I : List D → En → Prop) (acc : List D) (q : Option D × En) : Prop := match q.1 with
  | none => I acc q.2
  | some y => acc.length < lim ∧ I (acc ++ [y]) q.2
@[simp] theorem lcQ_none (I : List D → En → Prop) (acc : List D) : lcQ I acc (none, e) ↔ I acc e := Iff.rfl
@[simp] theorem lcQ_some (I : List D → En → Prop) (acc : List D) (y : D) : lcQ I acc (some y, e) ↔ acc.length < lim ∧ I (acc ++ [y]) e := Iff.rfl
theorem wp_lcCons {f : D → En → Option (Option D × En)} {Q : List D × En → Prop} {x : D} {xs acc : List D} : wp (lcL f (x :: xs) acc e) Q ↔ wp (f x e) (lcQ (fun acc e => wp (lcL f xs acc e) Q) acc) := by
  (conv => lhs; unfold lcL)
  rw [wp_bind]
  unfold wp lcQ
  constructor
  · rintro ⟨⟨o, e1⟩, h1, h2⟩
    refine ⟨(o, e1), h1, ?_⟩
    cases o with
    | none => exact h2
    | some y =>
      simp only at h2 ⊢
      split at h2
      · rename_i hl; exact ⟨hl, h2⟩
      · obtain ⟨a, h, _⟩ := h2; cases h
  · rintro ⟨⟨o, e1⟩, h1, h2⟩
    refine ⟨(o, e1), h1, ?_⟩
    cases o with
    | none => exact h2
    | some y =>
      simp only at h2 ⊢
      rw [if_pos h2.1]
      exact h2.2
theorem wp_lcNil {f : D → En → Option (Option D × En)} {Q : List D × En → Prop} {acc : List D} : wp (lcL f [] acc e) Q ↔ Q (acc, e) := by
  unfold lcL; exact wp_some _
theorem wp_lc {f : D → En → Option (Option D × En)} {Q : List D × En → Prop} (I : Nat → List D → En → Prop) : ∀ {xs acc : List D} {e : En}, I 0 acc e → (∀ i x acc e, xs[i]? = some x → I i acc e → wp (f x e) (lcQ (I (i + 1)) acc)) → (∀ acc e, I xs.length acc e → Q (acc, e)) → wp (lcL f xs acc e) Q
  | [], acc, e, h0, _, hd => wp_lcNil.mpr (hd acc e h0)
  | x :: xs, acc, e, h0, hs, hd => by
    rw [wp_lcCons]
    refine wp_mono (hs 0 x acc e rfl h0) ?_
    have ih : ∀ {acc1 : List D} {e1 : En}, I 1 acc1 e1 → wp (lcL f xs acc1 e1) Q := fun {acc1 e1} h => wp_lc (fun i => I (i + 1)) h (fun i y a e2 hy hi => hs (i + 1) y a e2 (by simpa using hy) hi) hd
    rintro ⟨o, e1⟩ h
    cases o with
    | none => exact ih h
    | some y => exact ⟨h.1, ih h.2⟩
theorem wp_lcI {f : D → En → Option (Option D × En)} {Q : List D × En → Prop} {xs acc : List D} {e : En} (I : Nat → List D → En → Prop) (h0 : I 0 acc e) (hs : ∀ J : Nat → List D → En → Prop, (∀ k a e, I k a e → J k a e) → ∀ i x acc e, xs[i]? = some x → I i acc e → wp (f x e) (lcQ (J (i + 1)) acc)) (hd : ∀ acc e, I xs.length acc e → Q (acc, e)) : wp (lcL f xs acc e) Q :=
  wp_lc I h0 (hs I fun _ _ _ h => h) hd
def nO : Option (Option SV) → Bool
  | some (some (.own _ _)) => false
  | some (some (.bor _)) => false
  | some _ => true
  | none => false
@[simp] theorem nO_d (x : D) : nO (some (some (.d x))) = true := rfl
@[simp] theorem nO_none : nO (some none) = true := rfl
@[simp] theorem noOwn_nil : noOwn e [] = true := rfl
@[simp] theorem noOwn_cons (v : Nat) (vs : List Nat) : noOwn e (v :: vs) = (nO e[v]? && noOwn e vs) := by
  unfold noOwn nO
  rfl
@[simp] theorem wipeE_nil : wipeE e [] = e := rfl
@[simp] theorem wipeE_cons (v : Nat) (vs : List Nat) : wipeE e (v :: vs) = (wipeE e vs).set v none := rfl
@[simp] theorem backE_nil (e1 : En) : backE e e1 [] = e1 := rfl
@[simp] theorem backE_cons (e1 : En) (v : Nat) (vs : List Nat) : backE e e1 (v :: vs) = (backE e e1 vs).set v (e.getD v none) := rfl
end
end PL.Y

/-! PS4: equations; loops as functions. -/
namespace PL.Y
open PySem
theorem of_wp {α : Type} {o : Option α} {a : α} (h : wp o fun q => q = a) : o = some a := by
  obtain ⟨b, h1, h2⟩ := h
  rw [h1, h2]
section
variable {α : Type} {e : En}
theorem catT {a b : List D} (h : a.length + b.length ≤ 10000000) : binF .Add (.tuple a) (.tuple b) = some (.is (.tuple (a ++ b))) := bin_cat (le_lim h)
theorem catL {a b : List D} (h : a.length + b.length ≤ 10000000) : binF .Add (.list a) (.list b) = some (.new (.lst (a ++ b))) := bin_catL (le_lim h)
theorem appL {xs : List D} {y : D} (h : xs.length ≤ 10000000) : mutF .append (.lst xs) [y] = some (.none, .lst (xs ++ [y])) := mut_app (lt_lim h)
theorem extL {xs ys : List D} (h : xs.length + ys.length ≤ 10000000) : mutF .extend (.lst xs) [.list ys] = some (.none, .lst (xs ++ ys)) := mut_ext (le_lim h)
theorem popL {xs : List D} {i : Nat} (h : i < xs.length) (hl : xs.length ≤ 10000000) : mutF .popAt (.lst xs) [.int (i : Int)] = some (xs[i], .lst (xs.eraseIdx i)) := by
  simp only [mutF]
  have h1 : seqIndex? (i : Int) xs.length = some i := by
    unfold seqIndex?
    have h2 : ¬ (i : Int) < 0 := by omega
    simp [h2, h]
  rw [if_pos (by omega), h1, Option.bind_some, List.getElem?_eq_getElem h]
  rfl
theorem rng1 {n : Nat} (h : n ≤ 1000000000) : rngF [.int (n : Int)] = some ((List.range n).map fun k => .int ((k : Nat) : Int)) := rng_1 (by omega)
theorem rng2 {a b : Nat} (h : b ≤ 1000000000) (ha : a ≤ b) : rngF [.int (a : Int), .int (b : Int)] = some ((List.range (b - a)).map fun k => .int (((a + k : Nat)) : Int)) := by
  simp only [rngF]
  rw [if_pos ⟨by omega, by omega, by omega, by omega⟩]
  have e1 : ((b : Int) - (a : Int)).toNat = b - a := by omega
  rw [e1]
  simp only [Int.natCast_add]
theorem mulI {i j : Int} (h : i.natAbs ≤ 10000000000000000000 ∨ j.natAbs ≤ 10000000000000000000) : binF .Mult (.int i) (.int j) = some (.is (.int (i * j))) := bin_mul (h.imp (fun h => by unfold small; exact decide_eq_true (by omega)) fun h => by unfold small; exact decide_eq_true (by omega))
@[simp] theorem callF_br (call : Call) (io : List Bool) (f : Str) (rs : List R) : callF call io f rs e = br (decide (slotsOf rs).Nodup) ((argsOf io rs e).bind fun as => (call f as).bind fun q => (backs (atom q.1 && !(io.any id)) io rs q.2 e).map fun e1 => (q.1, e1)) none := by
  unfold callF br
  by_cases h : (slotsOf rs).Nodup
  · rw [if_pos h, if_pos (decide_eq_true h)]
  · rw [if_neg h, if_neg (by simpa using h)]
/-! ### dicts -/
@[simp] theorem keyEq_str (a b : Str) : keyEq (.str a) (.str b) = decide (a = b) := rfl
@[simp] theorem keyEq_int (a b : Int) : keyEq (.int a) (.int b) = decide (a = b) := rfl
@[simp] theorem dget_nil (k : D) : dget [] k = none := rfl
theorem dget_cons (p : D × D) (r : List (D × D)) (k : D) : dget (p :: r) k = if keyEq p.1 k then some p.2 else dget r k := by
  unfold dget
  rw [List.find?_cons]
  cases keyEq p.1 k <;> rfl
@[simp] theorem dput_nil (k v : D) : dput [] k v = [(k, v)] := rfl
theorem dput_new {kvs : List (D × D)} {k v : D} (h : (dget kvs k).isSome = false) : dput kvs k v = kvs ++ [(k, v)] := by
  unfold dput
  have : (kvs.any fun p => keyEq p.1 k) = false := by
    induction kvs with
    | nil => rfl
    | cons p r ih =>
      rw [dget_cons] at h
      split at h
      · cases h
      · rename_i hp
        rw [List.any_cons, ih h]
        simpa using hp
  rw [this]
  rfl
/-! ### comprehensions -/
theorem lcL_filter {f : D → En → Option (Option D × En)} {enc : α → D} (p : α → Bool) (g : α → D) : ∀ {ys : List α} {acc : List D}, (∀ y ∈ ys, f (enc y) e = some (if p y then some (g y) else none, e)) → acc.length + ys.length ≤ 10000000 →
    lcL f (ys.map enc) acc e = some (acc ++ (ys.filter p).map g, e)
  | [], acc, _, _ => by rw [List.map_nil]; unfold lcL; rw [List.filter_nil, List.map_nil, List.append_nil]
  | y :: ys, acc, h, hl => by
    have h1 := h y List.mem_cons_self
    have ih : ∀ {acc : List D}, acc.length + ys.length ≤ 10000000 → _ := fun {acc} hl => lcL_filter (acc := acc) p g (fun z hz => h z (List.mem_cons_of_mem _ hz)) hl
    rw [List.length_cons] at hl
    rw [List.map_cons]
    unfold lcL
    rw [h1]
    cases hp : p y with
    | false =>
      simp only [Bool.false_eq_true, if_false, Option.bind_some]
      rw [ih (by omega), List.filter_cons, hp]
      rfl
    | true =>
      simp only [if_true, Option.bind_some]
      rw [if_pos (lt_lim (by omega)), ih (by rw [List.length_append, List.length_singleton]; omega), List.filter_cons, hp]
      simp
theorem lcL_map {f : D → En → Option (Option D × En)} {enc : α → D} (g : α → D) {ys : List α} {acc : List D} (h : ∀ y ∈ ys, f (enc y) e = some (some (g y), e)) (hl : acc.length + ys.length ≤ 10000000) :
    lcL f (ys.map enc) acc e = some (acc ++ ys.map g, e) := by
  have := lcL_filter (f := f) (enc := enc) (e := e) (fun _ => true) g (ys := ys) (acc := acc) (fun y hy => by rw [h y hy]; rfl) hl
  rw [this, List.filter_eq_self.mpr fun _ _ => rfl]
/-- .. over the numbers below n -/
theorem lcL_rng {f : D → En → Option (Option D × En)} (g : Nat → D) {n : Nat} (h : ∀ k, k < n → f (.int (k : Int)) e = some (some (g k), e)) (hl : n ≤ 10000000) :
    lcL f ((List.range n).map fun k => .int ((k : Nat) : Int)) [] e = some ((List.range n).map g, e) := by
  rw [lcL_map g (fun y hy => h y (List.mem_range.mp hy)) (by simpa using hl), List.nil_append]
theorem lcL_all {f : D → En → Option (Option D × En)} (g : D → D) {ys : List D} (h : ∀ y ∈ ys, f y e = some (some (g y), e)) (hl : ys.length ≤ 10000000) : lcL f ys [] e = some (ys.map g, e) := by
  have := lcL_map (f := f) (enc := id) (e := e) g (ys := ys) (acc := []) (fun y hy => h y hy) (by simpa using hl)
  rwa [List.map_id, List.nil_append] at this
def dcOf (kvs : List (D × D)) : List (D × D) → List (D × D) := fun acc => kvs.foldl (fun acc kv => dput acc kv.1 kv.2) acc
/-! ### loops -/
theorem forL_fold {σ : Type} {f : D → En → Option Fl} (E : σ → En) (step : σ → D → σ) : ∀ {xs : List D} {s : σ}, (∀ s, ∀ x ∈ xs, f x (E s) = some (.nx (E (step s x)))) → forL f xs (E s) = some (.nx (E (xs.foldl step s)))
  | [], s, _ => by unfold forL; rfl
  | x :: xs, s, h => by
    unfold forL
    rw [h s x List.mem_cons_self, List.foldl_cons]
    exact forL_fold E step fun s y hy => h s y (List.mem_cons_of_mem _ hy)
end
end PL.Y

/-! PS5: comprehensions of dicts. -/
namespace PL.Y
open PySem
section
variable {c : Cf} {e : En}
def dcT (c : Cf) (tg : Tg) (ifs : Es) (ke el : Ex) (own : List Nat) (x : D) (e2 : En) : Option (Option (D × D) × En) :=
  (setTg tg x e2).bind fun e3 => (tsts c ifs e3).bind fun q => br q.1 ((ev c ke q.2).bind fun z => (fzR z.1 z.2).bind fun y => (ev c el y.2).bind fun z' => (fzR z'.1 z'.2).map fun y' => (some (y.1, y'.1), wipeE y'.2 own)) (some (none, wipeE q.2 own))
theorem dcT_eq (tg : Tg) (ifs : Es) (ke el : Ex) (own : List Nat) (x : D) : dcT c tg ifs ke el own x e = (setTg tg x e).bind fun e3 => (tsts c ifs e3).bind fun q => br q.1 ((ev c ke q.2).bind fun z => (fzR z.1 z.2).bind fun y => (ev c el y.2).bind fun z' => (fzR z'.1 z'.2).map fun y' => (some (y.1, y'.1), wipeE y'.2 own)) (some (none, wipeE q.2 own)) := rfl
@[simp] theorem ev_dc (tg : Tg) (it : It) (ifs : Es) (ke el : Ex) (own : List Nat) : ev c (.dc tg it ifs ke el own) e = (evIt c it e).bind fun q => br (noOwn q.2 own) ((dcL (dcT c tg ifs ke el own) q.1 [] (wipeE q.2 own)).map fun z => (.new (.dic z.1), backE q.2 z.2 own)) none := by
  (conv => lhs; unfold ev)
  congr 1
  funext q
  obtain ⟨q1, q2⟩ := q
  simp only
  cases noOwn q2 own with
  | false => rfl
  | true =>
    simp only [br_true]
    congr 2
    funext x e2
    unfold dcT
    congr 1
    funext e3
    congr 1
    funext q
    obtain ⟨b, e4⟩ := q
    cases b <;> rfl
theorem dget_app_none {a b : List (D × D)} {k : D} (h : dget a k = none) : dget (a ++ b) k = dget b k := by
  induction a with
  | nil => rfl
  | cons p r ih =>
    rw [dget_cons] at h
    split at h
    · cases h
    · rename_i hp
      rw [List.cons_append, dget_cons, if_neg hp, ih h]
theorem dget_of {k v : D} : ∀ {l : List (D × D)}, (∀ p ∈ l, keyEq p.1 k = true → p.2 = v) → (∃ p ∈ l, keyEq p.1 k = true) → dget l k = some v
  | [], _, ⟨p, h, _⟩ => absurd h List.not_mem_nil
  | p :: r, h, ⟨q, hq, hk⟩ => by
    rw [dget_cons]
    split
    · rename_i hp; rw [h p List.mem_cons_self hp]
    · rename_i hp
      refine dget_of (fun p' h' => h p' (List.mem_cons_of_mem _ h')) ⟨q, ?_, hk⟩
      rcases List.mem_cons.mp hq with e | e
      · exact absurd (e ▸ hk) hp
      · exact e
theorem dget_no {k : D} : ∀ {l : List (D × D)}, (∀ p ∈ l, keyEq p.1 k = false) → dget l k = none
  | [], _ => rfl
  | p :: r, h => by
    rw [dget_cons, if_neg (by rw [h p List.mem_cons_self]; simp), dget_no fun q hq => h q (List.mem_cons_of_mem _ hq)]
/-- all keys unlike -/
theorem dcL_map {α : Type} {f : D → En → Option (Option (D × D) × En)} {enc : α → D} (kv : α → D × D) : ∀ {ys : List α} {acc : List (D × D)}, (∀ y ∈ ys, f (enc y) e = some (some (kv y), e)) → (∀ y ∈ ys, isKey (kv y).1 = true) → acc.length + ys.length ≤ 10000000 →
    (∀ y ∈ ys, (dget acc (kv y).1).isSome = false) → (ys.map kv).Pairwise (fun p q => keyEq p.1 q.1 = false) → dcL f (ys.map enc) acc e = some (acc ++ ys.map kv, e)
  | [], acc, _, _, _, _, _ => by rw [List.map_nil]; unfold dcL; rw [List.map_nil, List.append_nil]
  | y :: ys, acc, h, hk, hl, hn, hp => by
    rw [List.map_cons, List.pairwise_cons] at hp
    rw [List.length_cons] at hl
    have h1 := hn y List.mem_cons_self
    rw [List.map_cons]
    unfold dcL
    rw [h y List.mem_cons_self, Option.bind_some]
    simp only
    rw [if_pos (by rw [hk y List.mem_cons_self, decide_eq_true (lt_lim (by omega))]; rfl), dput_new h1]
    rw [dcL_map kv (fun z hz => h z (List.mem_cons_of_mem _ hz)) (fun z hz => hk z (List.mem_cons_of_mem _ hz)) (by rw [List.length_append, List.length_singleton]; omega) ?_ hp.2]
    · simp
    · intro z hz
      have h2 := hn z (List.mem_cons_of_mem _ hz)
      rw [dget_app_none (by simpa using h2), dget_cons, dget_nil]
      have := hp.1 (kv z) (List.mem_map_of_mem hz)
      rw [show keyEq (((kv y).1, (kv y).2) : D × D).1 (kv z).1 = false from this]
      rfl
end
end PL.Y

/-! PS6: a body in parts. -/
namespace PL.Y
open PySem
def takeS : Nat → Sms → Sms
  | 0, _ => .nil
  | _ + 1, .nil => .nil
  | k + 1, .cons s ss => .cons s (takeS k ss)
def dropS : Nat → Sms → Sms
  | 0, ss => ss
  | _ + 1, .nil => .nil
  | k + 1, .cons _ ss => dropS k ss
@[simp] theorem takeS_0 (ss : Sms) : takeS 0 ss = .nil := by cases ss <;> rfl
@[simp] theorem takeS_cons (k : Nat) (s : Sm) (ss : Sms) : takeS (k + 1) (.cons s ss) = .cons s (takeS k ss) := rfl
@[simp] theorem takeS_nil (k : Nat) : takeS k .nil = .nil := by cases k <;> rfl
@[simp] theorem dropS_0 (ss : Sms) : dropS 0 ss = ss := by cases ss <;> rfl
@[simp] theorem dropS_cons (k : Nat) (s : Sm) (ss : Sms) : dropS (k + 1) (.cons s ss) = dropS k ss := rfl
@[simp] theorem dropS_nil (k : Nat) : dropS k .nil = .nil := by cases k <;> rfl
theorem execs_split {c : Cf} : ∀ (k : Nat) (ss : Sms) (e : En), execs c ss e = (execs c (takeS k ss) e).bind (seqF c (dropS k ss))
  | 0, ss, e => by simp
  | k + 1, .nil, e => by simp
  | k + 1, .cons s ss, e => by
    rw [takeS_cons, dropS_cons, execs_cons, execs_cons]
    cases exec c s e with
    | none => rfl
    | some fl =>
      cases fl with
      | nx e1 => exact execs_split k ss e1
      | _ => rfl
/-- the first k statements end in a state of which I is true; from there the others -/
theorem wp_cut {c : Cf} (k : Nat) {ss : Sms} {e : En} {Q : Fl → Prop} (I : En → Prop) (h1 : wp (execs c (takeS k ss) e) fun fl => ∃ e1, fl = .nx e1 ∧ I e1) (h2 : ∀ e1, I e1 → wp (execs c (dropS k ss) e1) Q) : wp (execs c ss e) Q := by
  rw [execs_split k, wp_bind]
  refine wp_mono h1 ?_
  rintro fl ⟨e1, rfl, hI⟩
  exact h2 e1 hI
/-- .. or return -/
theorem wp_cutR {c : Cf} (k : Nat) {ss : Sms} {e : En} {Q : Fl → Prop} (I : En → Prop) (h1 : wp (execs c (takeS k ss) e) fun fl => (∃ e1, fl = .nx e1 ∧ I e1) ∨ (∃ r e1, fl = .ret r e1 ∧ Q (.ret r e1))) (h2 : ∀ e1, I e1 → wp (execs c (dropS k ss) e1) Q) : wp (execs c ss e) Q := by
  rw [execs_split k, wp_bind]
  refine wp_mono h1 ?_
  rintro fl (⟨e1, rfl, hI⟩ | ⟨r, e1, rfl, hQ⟩)
  · exact h2 e1 hI
  · exact (wp_some _).mpr hQ
end PL.Y

/-! PS7: things below an object of one's own, by rewriting. -/
namespace PL.Y
open PySem
section
variable {c : Cf} {e : En}
@[simp] theorem toD_d (x : D) : TV.toD (.d x) = x := by unfold TV.toD; rfl
@[simp] theorem toD_own (o : OD) : TV.toD (.own o) = o.toD := by conv => lhs; unfold TV.toD
@[simp] theorem toDs_nil : TV.toDs [] = [] := by unfold TV.toDs; rfl
@[simp] theorem toDs_cons (t : TV) (ts : List TV) : TV.toDs (t :: ts) = t.toD :: TV.toDs ts := by conv => lhs; unfold TV.toDs
@[simp] theorem dat_lst (xs : List D) : OD.dat (.lst xs) = true := by unfold OD.dat; rfl
@[simp] theorem dat_dic (xs : List (D × D)) : OD.dat (.dic xs) = true := by unfold OD.dat; rfl
@[simp] theorem dat_nodT (ts : List TV) : OD.dat (.nod .tup ts) = TV.dats ts := by rw [OD.dat, show NK.dat .tup = true from rfl]; exact Bool.true_and _
@[simp] theorem dat_nodL (ts : List TV) : OD.dat (.nod .lst ts) = TV.dats ts := by rw [OD.dat, show NK.dat .lst = true from rfl]; exact Bool.true_and _
@[simp] theorem tdat_d (x : D) : TV.dat (.d x) = true := by unfold TV.dat; rfl
@[simp] theorem tdat_own (o : OD) : TV.dat (.own o) = o.dat := by conv => lhs; unfold TV.dat
@[simp] theorem dats_nil : TV.dats [] = true := by unfold TV.dats; rfl
@[simp] theorem dats_cons (t : TV) (ts : List TV) : TV.dats (t :: ts) = (t.dat && TV.dats ts) := by conv => lhs; unfold TV.dats
@[simp] theorem fzO_tup (ts : List TV) : fzO (.nod .tup ts) = if TV.dats ts = true then some (.tuple (TV.toDs ts)) else none := by unfold fzO; rw [dat_nodT]; rfl
@[simp] theorem fzO_lstN (ts : List TV) : fzO (.nod .lst ts) = if TV.dats ts = true then some (.list (TV.toDs ts)) else none := by unfold fzO; rw [dat_nodL]; rfl
@[simp] theorem toD_nodT (ts : List TV) : OD.toD (.nod .tup ts) = .tuple (TV.toDs ts) := by conv => lhs; unfold OD.toD
@[simp] theorem toD_nodL (ts : List TV) : OD.toD (.nod .lst ts) = .list (TV.toDs ts) := by conv => lhs; unfold OD.toD
@[simp] theorem tvOf_d (x : D) : tvOf (.d x) = .d x := rfl
@[simp] theorem tvOf_own (b : Bool) (o : OD) : tvOf (.own b o) = .own o := rfl
def mvS (j : Nat) (e : En) : Option (Option SV) → Option (SV × En)
  | some (some (.d x)) => some (.d x, e)
  | some (some (.own false o)) => some (.own false o, e.set j none)
  | _ => none
@[simp] theorem mvS_d (j : Nat) (x : D) : mvS j e (some (some (.d x))) = some (.d x, e) := rfl
@[simp] theorem mvS_own (j : Nat) (o : OD) : mvS j e (some (some (.own false o))) = some (.own false o, e.set j none) := rfl
@[simp] theorem mv_d (x : D) : mv (.d x) e = some (.d x, e) := rfl
@[simp] theorem mv_new (o : OD) : mv (.new o) e = some (.own false o, e) := rfl
@[simp] theorem mv_slot (j : Nat) : mv (.slot j) e = mvS j e e[j]? := by
  simp only [mv]
  unfold mvS
  rfl
@[simp] theorem mvs_nil : mvs [] e = some ([], e) := rfl
@[simp] theorem mvs_cons (r : R) (rs : List R) : mvs (r :: rs) e = (mv r e).bind fun z => (mvs rs z.2).map fun y => (z.1 :: y.1, y.2) := rfl
@[simp] theorem ev_tupN (es : Es) : ev c (.tupN es) e = (evs c es e).bind fun q => (mvs q.1 q.2).bind fun z => if z.1.length ≤ lim then some (.new (.nod .tup (z.1.map tvOf)), z.2) else none := by (conv => lhs; unfold ev) <;> rfl
@[simp] theorem ev_lstN (es : Es) : ev c (.lstN es) e = (evs c es e).bind fun q => (mvs q.1 q.2).bind fun z => if z.1.length ≤ lim then some (.new (.nod .lst (z.1.map tvOf)), z.2) else none := by (conv => lhs; unfold ev) <;> rfl
def kidT (i : Nat) (e : En) (b : Bool) (k : NK) (ts : List TV) (j : Nat) : TV → Option (R × En)
  | .d x => some (.d x, e)
  | .own o => (fzO o).map fun x => (.d x, e.set i (some (.own b (.nod k (ts.set j (.d x))))))
@[simp] theorem kidT_d (i : Nat) (b : Bool) (k : NK) (ts : List TV) (j : Nat) (x : D) : kidT i e b k ts j (.d x) = some (.d x, e) := rfl
@[simp] theorem kidT_own (i : Nat) (b : Bool) (k : NK) (ts : List TV) (j : Nat) (o : OD) : kidT i e b k ts j (.own o) = (fzO o).map fun x => (.d x, e.set i (some (.own b (.nod k (ts.set j (.d x)))))) := rfl
def kidB (e : En) : TV → Option (R × En)
  | .d x => some (.d x, e)
  | .own _ => none
@[simp] theorem kidB_d (x : D) : kidB e (.d x) = some (.d x, e) := rfl
def kidS (st : Stp) (i : Nat) (e : En) : Option (Option SV) → Option (R × En)
  | some (some (.own b (.nod k ts))) => (spIx st k ts.length).bind fun j => (ts[j]?).bind (kidT i e b k ts j)
  | some (some (.bor (.nod k ts))) => (spIx st k ts.length).bind fun j => (ts[j]?).bind (kidB e)
  | _ => none
@[simp] theorem kidS_own (st : Stp) (i : Nat) (b : Bool) (k : NK) (ts : List TV) : kidS st i e (some (some (.own b (.nod k ts)))) = (spIx st k ts.length).bind fun j => (ts[j]?).bind (kidT i e b k ts j) := rfl
@[simp] theorem kidS_bor (st : Stp) (i : Nat) (k : NK) (ts : List TV) : kidS st i e (some (some (.bor (.nod k ts)))) = (spIx st k ts.length).bind fun j => (ts[j]?).bind (kidB e) := rfl
@[simp] theorem ev_kid (i : Nat) (st : Stp) : ev c (.kid i st) e = kidS st i e e[i]? := by
  (conv => lhs; unfold ev)
  unfold kidF kidS
  cases e[i]? with
  | none => rfl
  | some v => cases v with
    | none => rfl
    | some w => cases w with
      | d x => rfl
      | own b o => cases o with
        | nod k ts => rfl
        | _ => rfl
      | bor o => cases o with
        | nod k ts => rfl
        | _ => rfl
@[simp] theorem spIx_fld (f cl : Str) (fs : List Str) (n : Nat) : spIx (.fld f) (.ins cl fs) n = fs.findIdx? fun g => decide (g = f) := rfl
@[simp] theorem spIx_atT (z : Int) (n : Nat) : spIx (.at z) .tup n = L2.ixN n z := rfl
@[simp] theorem spIx_atL (z : Int) (n : Nat) : spIx (.at z) .lst n = L2.ixN n z := rfl
def mutU (m : Mut) (i : Nat) (b : Bool) (k : NK) (ts : List TV) (j : Nat) (xs : List D) (z : List D × En) : Option (Option SV) → Option (R × En)
  | some (some (.bor _)) => (mutF m (.lst xs) z.1).map fun w => (.d w.1, z.2.set i (some (.own b (.nod k (ts.set j (.own w.2))))))
  | _ => none
@[simp] theorem mutU_bor (m : Mut) (i : Nat) (b : Bool) (k : NK) (ts : List TV) (j : Nat) (xs : List D) (z : List D × En) (o : OD) : mutU m i b k ts j xs z (some (some (.bor o))) = (mutF m (.lst xs) z.1).map fun w => (.d w.1, z.2.set i (some (.own b (.nod k (ts.set j (.own w.2)))))) := rfl
def mutT (c : Cf) (m : Mut) (i : Nat) (es : Es) (e : En) (b : Bool) (k : NK) (ts : List TV) (j : Nat) : Option TV → Option (R × En)
  | some (.own (.lst xs)) => (evs c es (e.set i (some (.bor (.nod k ts))))).bind fun q => (fzs q.1 q.2).bind fun z => mutU m i b k ts j xs z z.2[i]?
  | _ => none
@[simp] theorem mutT_lst (m : Mut) (i : Nat) (es : Es) (b : Bool) (k : NK) (ts : List TV) (j : Nat) (xs : List D) : mutT c m i es e b k ts j (some (.own (.lst xs))) = (evs c es (e.set i (some (.bor (.nod k ts))))).bind fun q => (fzs q.1 q.2).bind fun z => mutU m i b k ts j xs z z.2[i]? := rfl
def mutS (c : Cf) (m : Mut) (i : Nat) (st : Stp) (es : Es) (e : En) : Option (Option SV) → Option (R × En)
  | some (some (.own b (.nod k ts))) => (spIx st k ts.length).bind fun j => mutT c m i es e b k ts j ts[j]?
  | _ => none
@[simp] theorem mutS_own (m : Mut) (i : Nat) (st : Stp) (es : Es) (b : Bool) (k : NK) (ts : List TV) : mutS c m i st es e (some (some (.own b (.nod k ts)))) = (spIx st k ts.length).bind fun j => mutT c m i es e b k ts j ts[j]? := rfl
@[simp] theorem ev_mutC (m : Mut) (i : Nat) (st : Stp) (es : Es) : ev c (.mutC m i st es) e = mutS c m i st es e e[i]? := by
  (conv => lhs; unfold ev)
  unfold mutS
  cases e[i]? with
  | none => rfl
  | some v => cases v with
    | none => rfl
    | some w => cases w with
      | d x => rfl
      | bor o => rfl
      | own b o => cases o with
        | nod k ts => rfl
        | _ => rfl
@[simp] theorem tt_kid (i : Nat) (st : Stp) : tst c (.kid i st) e = (ev c (.kid i st) e).bind tstR := by (conv => lhs; unfold tst) <;> rfl
@[simp] theorem tt_mutC (m : Mut) (i : Nat) (st : Stp) (es : Es) : tst c (.mutC m i st es) e = (ev c (.mutC m i st es) e).bind tstR := by (conv => lhs; unfold tst) <;> rfl
@[simp] theorem prm_stp (xs : List D) (k : Int) : prmF .stp [.list xs, .int k] = if k ≠ 0 then some (.new (.lst (pickL xs k))) else none := rfl
theorem pickL_mem {α : Type} {xs : List α} {k : Int} {x : α} (h : x ∈ pickL xs k) : x ∈ xs := by
  unfold pickL at h
  obtain ⟨j, _, h2⟩ := List.mem_filterMap.mp h
  exact List.mem_of_getElem? h2
@[simp] theorem putFd_nil (f : Str) (t : TV) : putFd f t [] [] = ([f], [t]) := by unfold putFd; rfl
theorem putFd_cons (f g : Str) (t u : TV) (fs : List Str) (ts : List TV) : putFd f t (g :: fs) (u :: ts) = if g = f then (g :: fs, t :: ts) else ((g :: (putFd f t fs ts).1), u :: (putFd f t fs ts).2) := by conv => lhs; unfold putFd
end
end PL.Y

/-! D0: data, and what is plain of it. -/
namespace PL.K
open PySem PL.Y
local macro_rules | `(tactic| trivial) => `(tactic| first | omega | (simp -implicitDefEqProofs; done) | (simp -implicitDefEqProofs; omega))
@[simp] theorem ofString_inj (a b : String) : (Str.ofString a = Str.ofString b) ↔ a = b := by
  constructor
  · intro h
    rw [Str.ofString_eq_toList, Str.ofString_eq_toList] at h
    have h1 : a.toList.map Char.toNat = b.toList.map Char.toNat := by
      have := congrArg (fun s : Str => s.cps.toList) h
      simpa using this
    have h2 : a.toList = b.toList := by
      refine List.map_inj_right (fun x y e => ?_) |>.mp h1
      exact Char.toNat_inj.mp e
    exact String.toList_inj.mp h2
  · intro h; rw [h]
@[simp] theorem eqv_str (x y : Str) : PyData.eqv (.str x) (.str y) = decide (x = y) := by rw [PyData.eqv]; rfl
@[simp] theorem eqv_int (x y : Int) : PyData.eqv (.int x) (.int y) = decide (x = y) := by rw [PyData.eqv]; rfl
@[simp] theorem shp_str (x : Str) : shp (.str x) = true := rfl
@[simp] theorem shp_int (x : Int) : shp (.int x) = true := rfl
inductive Op where
  | add | sub | less | same
  deriving DecidableEq
def Op.nm : Op → Str
  | .add => "add" | .sub => "sub" | .less => "less" | .same => "same"
inductive St where
  | read (v x : Str)
  | write (x v : Str)
  | num (v : Str) (n : Int)
  | copy (v w : Str)
  | op (k : Op) (v a b : Str)
  | say (v : Str)
  | need (v : Str)
  | skip
  | ite (v : Str) (a b : List St)
mutual
def encT : St → D
  | .read v x => .tuple [.str "read", .str v, .str x]
  | .write x v => .tuple [.str "write", .str x, .str v]
  | .num v n => .tuple [.str "num", .str v, .int n]
  | .copy v w => .tuple [.str "copy", .str v, .str w]
  | .op k v a b => .tuple [.str k.nm, .str v, .str a, .str b]
  | .say v => .tuple [.str "say", .str v]
  | .need v => .tuple [.str "need", .str v]
  | .skip => .tuple [.str "skip"]
  | .ite v a b => .tuple [.str "if", .str v, .tuple (encTs a), .tuple (encTs b)]
def encTs : List St → List D
  | [] => []
  | s :: r => encT s :: encTs r
end
@[simp] theorem encTs_map : ∀ l : List St, encTs l = l.map encT
  | [] => rfl
  | s :: r => by rw [encTs, encTs_map r]; rfl
/-- strings in a written tuple -/
theorem in_strs {y : Str} {zs : List Str} (h : zs.length ≤ 1000) : cmpF .In (.str y) (.tuple (zs.map .str)) = some (decide (y ∈ zs)) := by
  rw [cmp_inTup rfl]
  · congr 1
    rw [List.any_map]
    induction zs with
    | nil => rfl
    | cons z zs ih =>
      rw [List.any_cons, ih (by simp at h; omega)]
      simp [eq_comm]
  · exact (show Pd 1 (.tuple (zs.map .str)) by
      rw [Pd_tup]
      refine ⟨by simp; omega, fun x hx => ?_⟩
      obtain ⟨z, _, rfl⟩ := List.mem_map.mp hx
      simp).shp (by decide)
def parts : St → List (List St)
  | .ite _ a b => [a, b]
  | _ => []
def lnames : St → List Str
  | .op _ v a b => [v, a, b]
  | .copy v w => [v, w]
  | .write _ v => [v]
  | .skip => []
  | .read v _ => [v]
  | .num v _ => [v]
  | .say v => [v]
  | .need v => [v]
  | .ite v _ _ => [v]
mutual
def szT : St → Nat
  | .ite _ a b => 1 + szTs a + szTs b
  | _ => 1
def szTs : List St → Nat
  | [] => 0
  | s :: r => szT s + szTs r
end
mutual
def dpT : St → Nat
  | .ite _ a b => 1 + max (dpTs a) (dpTs b)
  | _ => 0
def dpTs : List St → Nat
  | [] => 0
  | s :: r => max (dpT s) (dpTs r)
end
mutual
def stmt1 : St → List St
  | .ite v a b => .ite v a b :: (stmts a ++ stmts b)
  | s => [s]
def stmts : List St → List St
  | [] => []
  | s :: r => stmt1 s ++ stmts r
end
theorem encTs_app (a b : List St) : encTs (a ++ b) = encTs a ++ encTs b := by rw [encTs_map, encTs_map, encTs_map, List.map_append]
theorem encTs_len (a : List St) : (encTs a).length = a.length := by rw [encTs_map, List.length_map]
theorem stmts_app : ∀ a b : List St, stmts (a ++ b) = stmts a ++ stmts b
  | [], b => rfl
  | s :: r, b => by rw [List.cons_append, stmts, stmts, stmts_app r b, List.append_assoc]
mutual
theorem stmt1_len : ∀ s : St, (stmt1 s).length = szT s
  | .ite v a b => by rw [stmt1, szT, List.length_cons, List.length_append, stmts_len a, stmts_len b]; omega
  | .read _ _ => rfl | .write _ _ => rfl | .num _ _ => rfl | .copy _ _ => rfl | .op _ _ _ _ => rfl | .say _ => rfl | .need _ => rfl | .skip => rfl
theorem stmts_len : ∀ a : List St, (stmts a).length = szTs a
  | [] => rfl
  | s :: r => by rw [stmts, szTs, List.length_append, stmt1_len s, stmts_len r]
end
theorem szTs_app : ∀ a b : List St, szTs (a ++ b) = szTs a + szTs b
  | [], b => by simp [szTs]
  | s :: r, b => by rw [List.cons_append, szTs, szTs, szTs_app r b]; omega
theorem szT_le {s : St} {l : List St} (h : s ∈ l) : szT s ≤ szTs l := by
  induction l with
  | nil => cases h
  | cons x l ih =>
    rw [szTs]
    rcases List.mem_cons.mp h with h | h
    · subst h; omega
    · have := ih h; omega
theorem dpT_le {s : St} {l : List St} (h : s ∈ l) : dpT s ≤ dpTs l := by
  induction l with
  | nil => cases h
  | cons x l ih =>
    rw [dpTs]
    rcases List.mem_cons.mp h with h | h
    · subst h; omega
    · have := ih h; omega
theorem take_snoc {α : Type} {l : List α} {i : Nat} (h : i < l.length) : l.take (i + 1) = l.take i ++ [l[i]] := by
  rw [List.take_add_one, List.getElem?_eq_getElem h]; rfl
theorem szTs_take (l : List St) (i : Nat) : szTs (l.take i) ≤ szTs l := by
  have := szTs_app (l.take i) (l.drop i)
  rw [List.take_append_drop] at this
  omega
theorem get_map {α β : Type} {l : List α} {f : α → β} {i : Nat} {x : β} (h : (l.map f)[i]? = some x) : ∃ h : i < l.length, x = f l[i] := by
  rw [List.getElem?_map, Option.map_eq_some_iff] at h
  obtain ⟨y, h1, h2⟩ := h
  obtain ⟨h3, h4⟩ := List.getElem?_eq_some_iff.mp h1
  exact ⟨h3, by rw [h4, h2]⟩
def addS (found : List Str) (x : Str) : List Str := if x ∈ found then found else found ++ [x]
def locals (b : List St) : List Str := ((stmts b).flatMap lnames).foldl addS []
theorem addS_nodup {found : List Str} {x : Str} (h : found.Nodup) : (addS found x).Nodup := by
  unfold addS
  split
  · exact h
  · rename_i hx
    rw [List.nodup_append]
    refine ⟨h, by simp, fun a ha b hb => ?_⟩
    rw [List.mem_singleton] at hb
    subst hb
    exact fun e => hx (e ▸ ha)
theorem foldl_addS_nodup : ∀ {xs found : List Str}, found.Nodup → (xs.foldl addS found).Nodup
  | [], _, h => h
  | x :: xs, _, h => foldl_addS_nodup (xs := xs) (addS_nodup h)
theorem mem_addS {found : List Str} {x y : Str} : y ∈ addS found x ↔ y ∈ found ∨ y = x := by
  unfold addS
  split
  · rename_i h
    constructor
    · exact .inl
    · rintro (h' | rfl)
      · exact h'
      · exact h
  · simp
theorem mem_foldl_addS : ∀ {xs found : List Str} {y : Str}, y ∈ xs.foldl addS found ↔ y ∈ found ∨ y ∈ xs
  | [], _, _ => by simp
  | x :: xs, found, y => by rw [List.foldl_cons, mem_foldl_addS (xs := xs), mem_addS, List.mem_cons]; exact or_assoc
theorem mem_locals {b : List St} {x : Str} : x ∈ locals b ↔ ∃ s ∈ stmts b, x ∈ lnames s := by
  unfold locals
  rw [mem_foldl_addS]
  simp
theorem locals_nodup (b : List St) : (locals b).Nodup := foldl_addS_nodup List.nodup_nil
theorem addS_len (found : List Str) (x : Str) : (addS found x).length ≤ found.length + 1 := by
  unfold addS
  split <;> simp
theorem foldl_addS_len : ∀ (xs found : List Str), (xs.foldl addS found).length ≤ found.length + xs.length
  | [], _ => Nat.le_refl _
  | x :: xs, found => by
    have h1 := addS_len found x
    have h2 := foldl_addS_len xs (addS found x)
    rw [List.foldl_cons, List.length_cons]
    omega
theorem lnames_len (s : St) : (lnames s).length ≤ 3 := by cases s <;> simp [lnames]
/-- the dict known -/
def knD (found : List Str) : List (D × D) := found.map fun x => (.str x, .bool true)
@[simp] theorem dKeys_kn (found : List Str) : dKeys (knD found) = true := by
  induction found with
  | nil => rfl
  | cons x xs ih => show (isKey (.str x) && dKeys (knD xs)) = true; rw [ih]; rfl
@[simp] theorem dget_kn (found : List Str) (x : Str) : (dget (knD found) (.str x)).isSome = decide (x ∈ found) := by
  induction found with
  | nil => rfl
  | cons y ys ih =>
    show (dget ((.str y, .bool true) :: knD ys) (.str x)).isSome = _
    rw [dget_cons]
    by_cases h : y = x
    · simp [h]
    · simp [h, ih, Ne.symm h, eq_comm]
theorem dput_kn {found : List Str} {x : Str} (h : x ∉ found) : dput (knD found) (.str x) (.bool true) = knD (found ++ [x]) := by
  rw [dput_new (by rw [dget_kn]; simpa using h)]
  simp [knD]
def encJ (j : Str × Str × List St) : D := .tuple [.str j.1, .str j.2.1, .tuple (j.2.2.map encT)]
def encA (a : Str × Int) : D := .tuple [.str a.1, .int a.2]
structure Ho where
  acc : List (Str × Int)
  jobs : List (Str × Str × List St)
def encH (h : Ho) : D := .tuple [.tuple (h.acc.map encA), .tuple (h.jobs.map encJ)]
def numD (xs : List Str) : List (D × D) := (List.range xs.length).map fun i => (.str (xs.getD i ""), .int (i : Int))
theorem dKeys_map {α : Type} (l : List α) (f : α → D × D) (h : ∀ x ∈ l, isKey (f x).1 = true) : dKeys (l.map f) = true := by
  unfold dKeys
  rw [List.all_map, List.all_eq_true]
  exact h
@[simp] theorem dKeys_num (xs : List Str) : dKeys (numD xs) = true := dKeys_map _ _ fun _ _ => rfl
theorem getD_of {α : Type} {xs : List α} {i : Nat} (h : i < xs.length) (d : α) : xs.getD i d = xs[i] := by
  rw [List.getD_eq_getElem?_getD, List.getElem?_eq_getElem h]; rfl
theorem nodup_ix {α : Type} {xs : List α} (h : xs.Nodup) {i j : Nat} (hi : i < xs.length) (hj : j < xs.length) (e : xs[i] = xs[j]) : i = j := by
  have h' := List.pairwise_iff_getElem.mp h
  rcases Nat.lt_trichotomy i j with l | l | l
  · exact absurd e (h' i j hi hj l)
  · exact l
  · exact absurd e.symm (h' j i hj hi l)
theorem dget_num {xs : List Str} (h : xs.Nodup) {i : Nat} (hi : i < xs.length) : dget (numD xs) (.str xs[i]) = some (.int (i : Int)) := by
  refine dget_of ?_ ⟨(.str (xs.getD i ""), .int (i : Int)), List.mem_map_of_mem (List.mem_range.mpr hi), by rw [getD_of hi]; simp⟩
  intro p hp hk
  obtain ⟨j, hj, rfl⟩ := List.mem_map.mp hp
  have hj := List.mem_range.mp hj
  rw [getD_of hj] at hk
  simp at hk
  rw [nodup_ix h hj hi hk]
/-- a number, and the factors of the accounts -/
abbrev Sm := Int × List Int
def encI (ns : List Int) : D := .tuple (ns.map .int)
def encS (s : Sm) : D := .tuple [.int s.1, encI s.2]
def zero (w : Nat) : Sm := (0, List.replicate w 0)
def single (w a : Nat) : Sm := (0, List.replicate a 0 ++ [1] ++ List.replicate (w - a - 1) 0)
def plus (s t : Sm) (k : Int) : Sm := (s.1 + k * t.1, List.zipWith (fun x y => x + k * y) s.2 t.2)
theorem rep_one (x : D) (n : Nat) : (List.replicate n [x]).flatten = List.replicate n x := by
  induction n with
  | zero => rfl
  | succ n ih => rw [List.replicate_succ, List.flatten_cons, ih, List.replicate_succ]; rfl
theorem bin_rep1 (x : D) {n : Nat} (h : n ≤ 1000000) : binF .Mult (.tuple [x]) (.int (n : Int)) = some (.is (.tuple (List.replicate n x))) := by
  rw [bin_repT ⟨by omega, by omega, by simp [lim_eq]; omega⟩, Int.toNat_natCast, rep_one]
def okN (x : Str) : Prop := PyData.strOk x = true
theorem shaped_str {x : Str} (h : okN x) : SeqAt.shaped (.str x) = true := by
  unfold SeqAt.shaped
  rw [PyData.canLay0, h]
  rfl
theorem depth_strs : ∀ xs : List Str, PyData.depthAll (xs.map .str) ≤ 1
  | [] => by simp [PyData.depthAll]
  | x :: xs => by
    have := depth_strs xs
    simp only [List.map_cons, PyData.depthAll, PyData.depth]
    omega
theorem shaped_strs {xs : List Str} (h : ∀ x ∈ xs, okN x) : SeqAt.shaped (.list (xs.map .str)) = true := by
  have h1 : PyData.canLayAll0 (xs.map .str) = true := by
    induction xs with
    | nil => rfl
    | cons x xs ih =>
      rw [List.map_cons, PyData.canLayAll0, ih fun y hy => h y (List.mem_cons_of_mem _ hy), PyData.canLay0, h x List.mem_cons_self]
      rfl
  unfold SeqAt.shaped
  rw [PyData.canLay0, h1, decide_eq_true]
  · rfl
  · have := depth_strs xs
    simp only [PyData.depth]
    omega
theorem find_idxOf {xs : List Str} {x : Str} (h : x ∈ xs) : (xs.map PyData.str).findIdx? (fun z => PyData.eqv z (.str x)) = some (xs.idxOf x) := by
  rw [List.findIdx?_map]
  induction xs with
  | nil => cases h
  | cons y ys ih =>
    rw [List.findIdx?_cons, List.idxOf_cons]
    by_cases e : y = x
    · subst e; simp
    · rcases List.mem_cons.mp h with h | h
      · exact absurd h.symm e
      · have e' : (y == x) = false := by simpa using e
        have hf : ((fun z => PyData.eqv z (.str x)) ∘ PyData.str) y = false := by simpa using e
        rw [hf, e', ih h]
        rfl
theorem index_strs {xs : List Str} {x : Str} (h : ∀ y ∈ xs, okN y) (hx : x ∈ xs) : mthF .index [.list (xs.map .str), .str x] = some (.is (.int (xs.idxOf x : Nat))) :=
  mth_index (shaped_strs h) (shaped_str (h x hx)) (find_idxOf hx)
theorem getD_map {α β : Type} {f : α → β} {xs : List α} {i : Nat} (h : i < xs.length) : at? (xs.map f) (i : Int) = some (f xs[i]) := at_get (by rw [List.getElem?_map, List.getElem?_eq_getElem h]; rfl)
theorem zip_eq {xs ys : List Int} {k : Int} (h : xs.length = ys.length) : (List.range xs.length).map (fun i => PyData.int (xs.getD i 0 + k * ys.getD i 0)) = (List.zipWith (fun x y => x + k * y) xs ys).map .int := by
  refine List.ext_getElem (by simp [h]) fun i h1 h2 => ?_
  simp at h1 h2
  simp [List.getElem?_eq_getElem h1, List.getElem?_eq_getElem (h ▸ h1 : i < ys.length)]
/-- a linear statement over such names and accounts -/
def LinS (names accs : List Str) : St → Prop
  | .read v x => v ∈ names ∧ x ∈ accs
  | .write x v => v ∈ names ∧ x ∈ accs
  | .num v _ => v ∈ names
  | .copy v u => v ∈ names ∧ u ∈ names
  | .op k v a b => (k = .add ∨ k = .sub) ∧ v ∈ names ∧ a ∈ names ∧ b ∈ names
  | .say v => v ∈ names
  | .skip => True
  | .need _ => False
  | .ite _ _ _ => False
@[simp] theorem idx_encS0 (s : Sm) : idxF (encS s) (.int 0) = some (.is (.int s.1)) := by simp [encS]
@[simp] theorem idx_encS1 (s : Sm) : idxF (encS s) (.int 1) = some (.is (encI s.2)) := by simp [encS]
@[simp] theorem len_encI (s : List Int) : bltF .len [encI s] = some (.is (.int s.length)) := by simp [encI]
theorem fold_encS (k : Int) (fs : List Int) : PyData.tuple [.int k, encI fs] = encS (k, fs) := rfl
/-- the local names' sums and the accounts' behind a statement -/
def lin1 (names accs : List Str) (w : Nat) (st : List Sm × List Sm) : St → List Sm × List Sm
  | .read v x => (st.1.set (names.idxOf v) (st.2.getD (accs.idxOf x) (zero w)), st.2)
  | .write x v => (st.1, st.2.set (accs.idxOf x) (st.1.getD (names.idxOf v) (zero w)))
  | .num v n => (st.1.set (names.idxOf v) (n, List.replicate w 0), st.2)
  | .copy v u => (st.1.set (names.idxOf v) (st.1.getD (names.idxOf u) (zero w)), st.2)
  | .op .add v a b => (st.1.set (names.idxOf v) (plus (st.1.getD (names.idxOf a) (zero w)) (st.1.getD (names.idxOf b) (zero w)) 1), st.2)
  | .op .sub v a b => (st.1.set (names.idxOf v) (plus (st.1.getD (names.idxOf a) (zero w)) (st.1.getD (names.idxOf b) (zero w)) (-1)), st.2)
  | _ => st
structure LinOk (names accs : List Str) (w : Nat) (st : List Sm × List Sm) : Prop where
  l1 : st.1.length = names.length
  l2 : st.2.length = accs.length
  w1 : ∀ s ∈ st.1, s.2.length = w
  w2 : ∀ s ∈ st.2, s.2.length = w
theorem idx_lt {xs : List Str} {x : Str} (h : x ∈ xs) : xs.idxOf x < xs.length := List.idxOf_lt_length_iff.mpr h
theorem dget_idx {xs : List Str} (h : xs.Nodup) {x : Str} (hx : x ∈ xs) : dget (numD xs) (.str x) = some (.int (xs.idxOf x : Nat)) := by
  have := dget_num h (idx_lt hx)
  rwa [List.getElem_idxOf (idx_lt hx)] at this
theorem set_map {α β : Type} (f : α → β) (l : List α) (i : Nat) (x : α) : (l.map f).set i (f x) = (l.set i x).map f := (List.map_set ..).symm
theorem zero_w (w : Nat) : (zero w).2.length = w := by simp [zero]
theorem single_w {w a : Nat} (h : a < w) : (single w a).2.length = w := by simp [single]; omega
theorem plus_w {s t : Sm} {k : Int} {w : Nat} (h1 : s.2.length = w) (h2 : t.2.length = w) : (plus s t k).2.length = w := by simp [plus, h1, h2]
theorem getD_w {l : List Sm} {w : Nat} (h : ∀ s ∈ l, s.2.length = w) (i : Nat) : (l.getD i (zero w)).2.length = w := by
  by_cases hi : i < l.length
  · rw [getD_of hi]; exact h _ (List.getElem_mem hi)
  · rw [List.getD_eq_getElem?_getD, List.getElem?_eq_none (by omega)]; exact zero_w w
theorem set_w {l : List Sm} {P : Sm → Prop} (h : ∀ s ∈ l, P s) {v : Sm} (hv : P v) (i : Nat) : ∀ s ∈ l.set i v, P s := fun s hs => by
  rcases List.mem_or_eq_of_mem_set hs with h' | h'
  · exact h s h'
  · rw [h']; exact hv
theorem LinOk.step {names accs : List Str} {w : Nat} {st : List Sm × List Sm} (ok : LinOk names accs w st) (s : St) : LinOk names accs w (lin1 names accs w st s) := by
  obtain ⟨l1, l2, w1, w2⟩ := ok
  cases s with
  | read v x => exact ⟨by simp [lin1, l1], l2, set_w w1 (getD_w w2 _) _, w2⟩
  | write x v => exact ⟨l1, by simp [lin1, l2], w1, set_w w2 (getD_w w1 _) _⟩
  | num v k => exact ⟨by simp [lin1, l1], l2, set_w w1 (by simp) _, w2⟩
  | copy v u => exact ⟨by simp [lin1, l1], l2, set_w w1 (getD_w w1 _) _, w2⟩
  | op k v a b => cases k <;> first | exact ⟨by simp [lin1, l1], l2, set_w w1 (plus_w (getD_w w1 _) (getD_w w1 _)) _, w2⟩ | exact ⟨l1, l2, w1, w2⟩
  | say v => exact ⟨l1, l2, w1, w2⟩
  | skip => exact ⟨l1, l2, w1, w2⟩
  | need v => exact ⟨l1, l2, w1, w2⟩
  | ite v a b => exact ⟨l1, l2, w1, w2⟩
theorem LinOk.steps {names accs : List Str} {w : Nat} : ∀ (b : List St) {st : List Sm × List Sm}, LinOk names accs w st → LinOk names accs w (b.foldl (lin1 names accs w) st)
  | [], _, ok => ok
  | s :: b, _, ok => LinOk.steps b (ok.step s)
def begun (w : Nat) : List Sm := (List.range w).map (single w)
def names (h : Ho) : List Str := h.acc.map (·.1)
def body (h : Ho) (j : Nat) : List St := (h.jobs.getD j ("", "", [])).2.2
def jobSt (h : Ho) (j : Nat) (b : List St) : List Sm × List Sm := b.foldl (lin1 (locals (body h j)) (names h) h.acc.length) (List.replicate (locals (body h j)).length (zero h.acc.length), begun h.acc.length)
def jobForm (h : Ho) (j : Nat) : List Sm := (jobSt h j (body h j)).2
/-- a house of linear jobs -/
structure LinH (h : Ho) : Prop where
  nd : (names h).Nodup
  w : h.acc.length ≤ 1000
  lin : ∀ j < h.jobs.length, ∀ s ∈ body h j, LinS (locals (body h j)) (names h) s
  len : ∀ j < h.jobs.length, (body h j).length ≤ 60
  nm : ∀ j < h.jobs.length, ∀ x ∈ locals (body h j), okN x
theorem lin_flat : ∀ {b : List St} {ns accs : List Str}, (∀ s ∈ b, LinS ns accs s) → dpTs b = 0 ∧ szTs b = b.length
  | [], _, _, _ => ⟨rfl, rfl⟩
  | s :: b, ns, accs, h => by
    obtain ⟨h1, h2⟩ := lin_flat fun t ht => h t (List.mem_cons_of_mem _ ht)
    have hs := h s List.mem_cons_self
    have : dpT s = 0 ∧ szT s = 1 := by
      cases s <;> first | exact ⟨rfl, rfl⟩ | exact hs.elim
    rw [dpTs, szTs, this.1, this.2, h1, h2, List.length_cons]
    exact ⟨rfl, by omega⟩
theorem begun_ok (h : Ho) (j : Nat) : LinOk (locals (body h j)) (names h) h.acc.length (List.replicate (locals (body h j)).length (zero h.acc.length), begun h.acc.length) := by
  refine ⟨by simp, by simp [begun, names], fun s hs => ?_, fun s hs => ?_⟩
  · rw [List.eq_of_mem_replicate hs]; exact zero_w _
  · obtain ⟨a, ha, rfl⟩ := List.mem_map.mp hs
    exact single_w (List.mem_range.mp ha)
theorem jobSt_ok (h : Ho) (j : Nat) (b : List St) : LinOk (locals (body h j)) (names h) h.acc.length (jobSt h j b) := LinOk.steps b (begun_ok h j)
theorem jobForm_len (h : Ho) (j : Nat) : (jobForm h j).length = h.acc.length := by
  have := (jobSt_ok h j (body h j)).l2
  rw [names, List.length_map] at this
  exact this
theorem jobForm_w (h : Ho) (j : Nat) : ∀ s ∈ jobForm h j, s.2.length = h.acc.length := (jobSt_ok h j (body h j)).w2
theorem at_job {h : Ho} {j : Nat} (hj : j < h.jobs.length) : at? (h.jobs.map encJ) (j : Int) = some (encJ h.jobs[j]) := getD_map hj
@[simp] theorem idx_encJ0 (s) : idxF (encJ s) (.int 0) = some (.is (.str s.1)) := by simp [encJ]
@[simp] theorem idx_encJ1 (s) : idxF (encJ s) (.int 1) = some (.is (.str s.2.1)) := by simp [encJ]
@[simp] theorem idx_encJ2 (s) : idxF (encJ s) (.int 2) = some (.is (.tuple (s.2.2.map encT))) := by simp [encJ]
@[simp] theorem idx_encH0 (h : Ho) : idxF (encH h) (.int 0) = some (.is (.tuple (h.acc.map encA))) := by simp [encH]
@[simp] theorem idx_encH1 (h : Ho) : idxF (encH h) (.int 1) = some (.is (.tuple (h.jobs.map encJ))) := by simp [encH]
theorem body_eq {h : Ho} {j : Nat} (hj : j < h.jobs.length) : h.jobs[j].2.2 = body h j := by rw [body, getD_of hj]
def putIn (t : Sm) (form : List Sm) : Sm := (List.range form.length).foldl (fun f a => plus f (form.getD a (zero form.length)) (t.2.getD a 0)) (t.1, List.replicate form.length 0)
def behind (form following : List Sm) : List Sm := following.map fun t => putIn t form
def orderForm (h : Ho) (o : List Nat) : List Sm := o.foldl (fun form j => behind form (jobForm h j)) (begun h.acc.length)
/-- factors that may be multiplied -/
def Lo (s : Sm) : Prop := ∀ f ∈ s.2, f.natAbs ≤ 10000000000000000000
structure FormOk (w : Nat) (form : List Sm) : Prop where
  l : form.length = w
  w : ∀ s ∈ form, s.2.length = w
theorem fold_w {w : Nat} {form : List Sm} (hf : FormOk w form) (t : Sm) : ∀ (as : List Nat) (s : Sm), s.2.length = w → (as.foldl (fun f a => plus f (form.getD a (zero form.length)) (t.2.getD a 0)) s).2.length = w
  | [], s, hs => hs
  | a :: as, s, hs => fold_w hf t as _ (plus_w hs (by have := getD_w hf.w a; rw [hf.l]; exact this))
theorem putIn_w {w : Nat} {form : List Sm} (hf : FormOk w form) (t : Sm) : (putIn t form).2.length = w := fold_w hf t _ _ (by simp [hf.l])
theorem behind_form {w : Nat} {form following : List Sm} (hf : FormOk w form) (hl : following.length = w) : FormOk w (behind form following) :=
  ⟨by simp [behind, hl], fun s hs => by obtain ⟨t, _, rfl⟩ := List.mem_map.mp hs; exact putIn_w hf t⟩
theorem begun_form (w : Nat) : FormOk w (begun w) := ⟨by simp [begun], fun s hs => by
  obtain ⟨a, ha, rfl⟩ := List.mem_map.mp hs
  exact single_w (List.mem_range.mp ha)⟩
theorem orderForm_ok (h : Ho) : ∀ (o : List Nat) (form : List Sm), FormOk h.acc.length form → FormOk h.acc.length (o.foldl (fun form j => behind form (jobForm h j)) form)
  | [], _, hf => hf
  | j :: o, _, hf => orderForm_ok h o _ (behind_form hf (jobForm_len h j))
def Bs (B : Nat) (s : Sm) : Prop := ∀ f ∈ s.2, f.natAbs ≤ B
def Bn (B : Nat) (st : List Sm × List Sm) : Prop := (∀ s ∈ st.1, Bs B s) ∧ ∀ s ∈ st.2, Bs B s
theorem Bs.up {B C : Nat} {s : Sm} (h : Bs B s) (l : B ≤ C) : Bs C s := fun f hf => Nat.le_trans (h f hf) l
theorem Bs_zero (B w : Nat) : Bs B (zero w) := fun f hf => by
  rw [List.eq_of_mem_replicate hf]; simp
theorem Bs_single (w a : Nat) : Bs 1 (single w a) := fun f hf => by
  simp only [single, List.mem_append, List.mem_replicate, List.mem_singleton] at hf
  rcases hf with (⟨_, rfl⟩ | rfl) | ⟨_, rfl⟩ <;> simp
theorem Bs_plus {B : Nat} {s t : Sm} {k : Int} (h1 : Bs B s) (h2 : Bs B t) (hk : k.natAbs ≤ 1) : Bs (2 * B) (plus s t k) := fun f hf => by
  simp only [plus] at hf
  obtain ⟨i, hi, rfl⟩ := List.getElem_of_mem hf
  rw [List.getElem_zipWith]
  simp at hi
  have e1 := h1 _ (List.getElem_mem (show i < s.2.length by omega))
  have e2 := h2 _ (List.getElem_mem (show i < t.2.length by omega))
  have e3 := Int.natAbs_add_le (s.2[i]) (k * t.2[i])
  rw [Int.natAbs_mul] at e3
  have e4 : k.natAbs * t.2[i].natAbs ≤ 1 * t.2[i].natAbs := Nat.mul_le_mul_right _ hk
  omega
theorem Bs_getD {B : Nat} {l : List Sm} {w : Nat} (h : ∀ s ∈ l, Bs B s) (i : Nat) : Bs B (l.getD i (zero w)) := by
  by_cases hi : i < l.length
  · rw [getD_of hi]; exact h _ (List.getElem_mem hi)
  · rw [List.getD_eq_getElem?_getD, List.getElem?_eq_none (by omega)]; exact Bs_zero B w
theorem Bn_step {B : Nat} {names accs : List Str} {w : Nat} {st : List Sm × List Sm} (h : Bn B st) (s : St) : Bn (2 * B) (lin1 names accs w st s) := by
  obtain ⟨h1, h2⟩ := h
  have u1 : ∀ s ∈ st.1, Bs (2 * B) s := fun s hs => (h1 s hs).up (by omega)
  have u2 : ∀ s ∈ st.2, Bs (2 * B) s := fun s hs => (h2 s hs).up (by omega)
  cases s with
  | read v x => exact ⟨set_w u1 (Bs_getD u2 _) _, u2⟩
  | write x v => exact ⟨u1, set_w u2 (Bs_getD u1 _) _⟩
  | num v k => exact ⟨set_w u1 (fun f hf => by rw [List.eq_of_mem_replicate hf]; simp) _, u2⟩
  | copy v u => exact ⟨set_w u1 (Bs_getD u1 _) _, u2⟩
  | op k v a b => cases k <;> first | exact ⟨set_w u1 (Bs_plus (Bs_getD h1 _) (Bs_getD h1 _) (by decide)) _, u2⟩ | exact ⟨u1, u2⟩
  | say v => exact ⟨u1, u2⟩
  | skip => exact ⟨u1, u2⟩
  | need v => exact ⟨u1, u2⟩
  | ite v a b => exact ⟨u1, u2⟩
theorem Bn_steps {names accs : List Str} {w : Nat} : ∀ (b : List St) {B : Nat} {st : List Sm × List Sm}, Bn B st → Bn (2 ^ b.length * B) (b.foldl (lin1 names accs w) st)
  | [], B, st, h => by simpa using h
  | s :: b, B, st, h => by
    have := Bn_steps (names := names) (accs := accs) (w := w) b (Bn_step (names := names) (accs := accs) (w := w) h s)
    rw [List.length_cons, Nat.pow_succ, Nat.mul_assoc]
    exact this
theorem jobForm_lo {h : Ho} (lh : LinH h) {j : Nat} (hj : j < h.jobs.length) : ∀ t ∈ jobForm h j, Lo t := by
  have h0 : Bn 1 (List.replicate (locals (body h j)).length (zero h.acc.length), begun h.acc.length) := by
    refine ⟨fun s hs => ?_, fun s hs => ?_⟩
    · rw [List.eq_of_mem_replicate hs]; exact Bs_zero _ _
    · obtain ⟨a, _, rfl⟩ := List.mem_map.mp hs
      exact Bs_single _ _
  have h1 := Bn_steps (names := locals (body h j)) (accs := names h) (w := h.acc.length) (body h j) h0
  have h2 : 2 ^ (body h j).length ≤ 2 ^ 60 := Nat.pow_le_pow_right (by decide) (lh.len j hj)
  intro t ht f hf
  have := h1.2 t ht f hf
  rw [Nat.mul_one] at this
  exact Nat.le_trans this (Nat.le_trans h2 (by decide))
theorem eqvAll_map {α : Type} [DecidableEq α] {enc : α → D} (h : ∀ a b, PyData.eqv (enc a) (enc b) = decide (a = b)) : ∀ xs ys : List α, PyData.eqvAll (xs.map enc) (ys.map enc) = decide (xs = ys)
  | [], [] => by simp [PyData.eqvAll]
  | [], y :: ys => by simp [PyData.eqvAll]
  | x :: xs, [] => by simp [PyData.eqvAll]
  | x :: xs, y :: ys => by
    rw [List.map_cons, List.map_cons, PyData.eqvAll, h, eqvAll_map h xs ys]
    simp
theorem eqv_listMap {α : Type} [DecidableEq α] {enc : α → D} (h : ∀ a b, PyData.eqv (enc a) (enc b) = decide (a = b)) (xs ys : List α) : PyData.eqv (.list (xs.map enc)) (.list (ys.map enc)) = decide (xs = ys) := by
  rw [PyData.eqv, eqvAll_map h]
theorem eqv_tupMap {α : Type} [DecidableEq α] {enc : α → D} (h : ∀ a b, PyData.eqv (enc a) (enc b) = decide (a = b)) (xs ys : List α) : PyData.eqv (.tuple (xs.map enc)) (.tuple (ys.map enc)) = decide (xs = ys) := by
  rw [PyData.eqv, eqvAll_map h]
theorem eqv_encI (a b : List Int) : PyData.eqv (encI a) (encI b) = decide (a = b) := eqv_tupMap eqv_int a b
theorem eqv_encS (a b : Sm) : PyData.eqv (encS a) (encS b) = decide (a = b) := by
  rw [encS, encS, PyData.eqv, PyData.eqvAll, PyData.eqvAll, eqv_int, eqv_encI, PyData.eqvAll]
  simp [Prod.ext_iff]
theorem Pd_map {α : Type} {enc : α → D} {t : Nat} {xs : List α} (h : ∀ x ∈ xs, Pd t (enc x)) (l : xs.length ≤ 10000000) : Pd (t + 1) (.list (xs.map enc)) := by
  rw [Pd_list]
  refine ⟨by simpa using l, fun y hy => ?_⟩
  obtain ⟨x, hx, rfl⟩ := List.mem_map.mp hy
  exact h x hx
theorem Pd_tmap {α : Type} {enc : α → D} {t : Nat} {xs : List α} (h : ∀ x ∈ xs, Pd t (enc x)) (l : xs.length ≤ 10000000) : Pd (t + 1) (.tuple (xs.map enc)) := by
  rw [Pd_tup]
  refine ⟨by simpa using l, fun y hy => ?_⟩
  obtain ⟨x, hx, rfl⟩ := List.mem_map.mp hy
  exact h x hx
theorem Pd_encS {s : Sm} (h : s.2.length ≤ 1000) : Pd 2 (encS s) := by
  rw [encS, Pd_tup]
  refine ⟨by simp, fun x hx => ?_⟩
  rcases List.mem_cons.mp hx with rfl | hx
  · simp
  · rw [List.mem_singleton] at hx
    subst hx
    exact Pd_tmap (fun _ _ => by simp) (by omega)
theorem cmp_eq {x y : D} (h1 : shp x = true) (h2 : shp y = true) : cmpF .Eq x y = some (PyData.eqv x y) := by
  show (if shp x && shp y then some (PyData.eqv x y) else none) = _
  rw [h1, h2]; rfl
theorem cmp_ne {x y : D} (h1 : shp x = true) (h2 : shp y = true) : cmpF .NotEq x y = some (!PyData.eqv x y) := by
  show (if shp x && shp y then some (!PyData.eqv x y) else none) = _
  rw [h1, h2]; rfl
theorem shp_form {w : Nat} {f : List Sm} (hw : w ≤ 1000) (hf : FormOk w f) : shp (.list (f.map encS)) = true :=
  (Pd_map (t := 2) (fun s hs => Pd_encS (by rw [hf.w s hs]; exact hw)) (by rw [hf.l]; omega)).shp (by decide)
theorem eq_forms {w : Nat} {f g : List Sm} (hw : w ≤ 1000) (hf : FormOk w f) (hg : FormOk w g) : cmpF .Eq (.list (f.map encS)) (.list (g.map encS)) = some (decide (f = g)) := by
  rw [cmp_eq (shp_form hw hf) (shp_form hw hg), eqv_listMap eqv_encS]
/-- orders, as data -/
abbrev nI (j : Nat) : D := .int (j : Int)
abbrev encO (o : List Nat) : D := .list (o.map nI)
theorem oForm_ok (h : Ho) (o : List Nat) : FormOk h.acc.length (orderForm h o) := orderForm_ok h o _ (begun_form _)
theorem shaped_int (n : Int) : SeqAt.shaped (.int n) = true := by
  unfold SeqAt.shaped
  rw [PyData.canLay0]
  rfl
theorem canLay_nI (xs : List Nat) : PyData.canLayAll0 (xs.map nI) = true := by
  induction xs with
  | nil => rfl
  | cons x xs ih => rw [List.map_cons, PyData.canLayAll0, ih, PyData.canLay0]; rfl
theorem depth_nI (xs : List Nat) : PyData.depthAll (xs.map nI) ≤ 1 := by
  induction xs with
  | nil => simp [PyData.depthAll]
  | cons x xs ih =>
    simp only [List.map_cons, PyData.depthAll, PyData.depth]
    omega
theorem shaped_nI (xs : List Nat) : SeqAt.shaped (encO xs) = true := by
  have := depth_nI xs
  unfold SeqAt.shaped
  rw [PyData.canLay0, canLay_nI, decide_eq_true]
  · rfl
  · simp only [PyData.depth]
    omega
theorem eqv_nI (a b : Nat) : PyData.eqv (nI a) (nI b) = decide (a = b) := by
  rw [eqv_int]
  exact decide_eq_decide.mpr (by omega)
theorem index_nats {xs : List Nat} {x : Nat} (hx : x ∈ xs) : mthF .index [encO xs, nI x] = some (.is (nI (xs.idxOf x))) := by
  refine mth_index (shaped_nI xs) (shaped_int _) ?_
  rw [List.findIdx?_map]
  induction xs with
  | nil => cases hx
  | cons y ys ih =>
    rw [List.findIdx?_cons, List.idxOf_cons]
    by_cases e : y = x
    · subst e; simp [eqv_nI]
    · rcases List.mem_cons.mp hx with h | h
      · exact absurd h.symm e
      · have e' : (y == x) = false := by simpa using e
        have hf : ((fun z => PyData.eqv z (nI x)) ∘ nI) y = false := by
          show PyData.eqv (nI y) (nI x) = false
          rw [eqv_nI]; exact decide_eq_false e
        rw [hf, e', ih h]
        rfl
theorem at_o {o : List Nat} {i : Nat} (h : i < o.length) : at? (o.map nI) (i : Int) = some (nI (o.getD i 0)) := by rw [getD_of h]; exact getD_map h
theorem at_o1 {o : List Nat} {i : Nat} (h : i + 1 < o.length) : at? (o.map nI) ((i : Int) + 1) = some (nI (o.getD (i + 1) 0)) := by
  have := at_o h
  rwa [Int.natCast_add] at this
theorem cut_o1 (o : List Nat) (i : Nat) : cut (o.map nI) (some ((i : Int) + 1)) none = (o.drop (i + 1)).map nI := by
  rw [show ((i : Int) + 1) = ((i + 1 : Nat) : Int) by omega, cut_from, List.map_drop]
theorem cut_o2 (o : List Nat) (i : Nat) : cut (o.map nI) (some ((i : Int) + 2)) none = (o.drop (i + 2)).map nI := by
  rw [show ((i : Int) + 2) = ((i + 2 : Nat) : Int) by omega, cut_from, List.map_drop]
theorem cut_o0 (o : List Nat) (i : Nat) : cut (o.map nI) none (some (i : Int)) = (o.take i).map nI := by
  rw [cut_to, List.map_take]
theorem rngI {n : Int} (h : -1000000 ≤ n ∧ n ≤ 1000000000) : rngF [.int n] = some ((List.range n.toNat).map nI) := by
  simp only [rngF]
  rw [if_pos (by omega)]
theorem rng_o {o : List Nat} (h : o.length ≤ 1000000) : rngF [.int ((o.length : Int) - 1)] = some ((List.range (o.length - 1)).map nI) := by
  rw [rngI (by omega)]
  congr 3
  omega
def encP (q : Nat × Nat) : D := .tuple [nI q.1, nI q.2]
/-- sorted pairs -/
def leP (p q : Nat × Nat) : Bool := decide (p.1 < q.1 ∨ (p.1 = q.1 ∧ p.2 ≤ q.2))
theorem leP_trans (a b c : Nat × Nat) (h1 : leP a b = true) (h2 : leP b c = true) : leP a c = true := by
  simp only [leP, decide_eq_true_eq] at *; omega
theorem leP_total (a b : Nat × Nat) : (leP a b || leP b a) = true := by
  simp only [leP, Bool.or_eq_true, decide_eq_true_eq]; omega
theorem leP_anti {a b : Nat × Nat} (h1 : leP a b = true) (h2 : leP b a = true) : a = b := by
  simp only [leP, decide_eq_true_eq] at *
  exact Prod.ext (by omega) (by omega)
theorem sortD_P (l : List (Nat × Nat)) : sortD (l.map encP) = (l.mergeSort leP).map encP := by
  unfold sortD
  rw [List.map_mergeSort]
  intro a _ b _
  have := congrFun (congrFun (W.dataLe_ii (β := Nat × Nat) (fun q => (q.1 : Int)) (fun q => (q.2 : Int))) a) b
  have e : W.dataLe false id (encP a) (encP b) = W.dataLe false (fun b : Nat × Nat => .tuple [.int (b.1 : Int), .int (b.2 : Int)]) a b := rfl
  rw [e, this, leP]
  exact decide_eq_decide.mpr (by omega)
theorem Pd_encP (q : Nat × Nat) : Pd 1 (encP q) := by
  rw [encP, Pd_tup]
  refine ⟨by simp, fun x hx => ?_⟩
  rcases List.mem_cons.mp hx with rfl | hx
  · simp
  · rw [List.mem_singleton] at hx; subst hx; simp
theorem sortOk_P (l : List (Nat × Nat)) (h : l.length ≤ 10000000) : sortOk (l.map encP) = true := by
  unfold sortOk
  have h1 : ((l.map encP).all fun x => (l.map encP).all fun y => PySem.W.alike x y) = true := by
    rw [List.all_eq_true]
    intro x hx
    rw [List.all_eq_true]
    intro y hy
    obtain ⟨a, _, rfl⟩ := List.mem_map.mp hx
    obtain ⟨b, _, rfl⟩ := List.mem_map.mp hy
    simp [encP, W.alike, W.alikeAll]
  have h2 : (l.map encP).all tupNE = true := by
    rw [List.all_eq_true]
    intro x hx
    obtain ⟨a, _, rfl⟩ := List.mem_map.mp hx
    rfl
  have h3 : (l.map encP).all shp = true := by
    rw [List.all_eq_true]
    intro x hx
    obtain ⟨a, _, rfl⟩ := List.mem_map.mp hx
    exact (Pd_encP a).shp (by decide)
  rw [h1, h2, h3, decide_eq_true (by rw [List.length_map]; exact le_lim h)]
  rfl
theorem blt_sortP {l : List (Nat × Nat)} (h : l.length ≤ 10000000) : bltF .sorted [.list (l.map encP)] = some (.new (.lst ((l.mergeSort leP).map encP))) := by
  show (if sortOk (l.map encP) then some (PR.new (.lst (sortD (l.map encP)))) else none) = _
  rw [if_pos (sortOk_P l h), sortD_P]
theorem eqv_encO (a b : List Nat) : PyData.eqv (encO a) (encO b) = decide (a = b) := eqv_listMap eqv_nI a b
theorem Pd_encO {o : List Nat} (h : o.length ≤ 10000000) : Pd 1 (encO o) := Pd_map (fun _ _ => by simp) h
theorem shp_encO {o : List Nat} (h : o.length ≤ 10000000) : shp (encO o) = true := (Pd_encO h).shp (by decide)
theorem ne_encO {a b : List Nat} (ha : a.length ≤ 10000000) (hb : b.length ≤ 10000000) : cmpF .NotEq (encO a) (encO b) = some (!decide (a = b)) := by
  rw [cmp_ne (shp_encO ha) (shp_encO hb), eqv_encO]
theorem eq_encO {a b : List Nat} (ha : a.length ≤ 10000000) (hb : b.length ≤ 10000000) : cmpF .Eq (encO a) (encO b) = some (decide (a = b)) := by
  rw [cmp_eq (shp_encO ha) (shp_encO hb), eqv_encO]
@[simp] theorem isiT_eq (T : String) : isiT T = (T == "int" || T == "str" || T == "bool" || T == "list" || T == "tuple" || T == "dict") := rfl
@[simp] theorem isiB_eq (t T : String) : isiB t T = (t == T || (t == "bool" && T == "int")) := rfl
@[simp] theorem tyN_none : tyN .none = "NoneType" := rfl
@[simp] theorem tyN_bool (b : Bool) : tyN (.bool b) = "bool" := rfl
@[simp] theorem tyN_int (b : Int) : tyN (.int b) = "int" := rfl
@[simp] theorem tyN_str (b : Str) : tyN (.str b) = "str" := rfl
@[simp] theorem tyN_list (b : List D) : tyN (.list b) = "list" := rfl
@[simp] theorem tyN_tup (b : List D) : tyN (.tuple b) = "tuple" := rfl
@[simp] theorem tyN_dict (b : List (D × D)) : tyN (.dict b) = "dict" := rfl
@[simp] theorem isD_none : isD .none = false := rfl
@[simp] theorem isD_bool (b : Bool) : isD (.bool b) = false := rfl
@[simp] theorem isD_int (b : Int) : isD (.int b) = false := rfl
@[simp] theorem isD_str (b : Str) : isD (.str b) = false := rfl
@[simp] theorem isD_list (b : List D) : isD (.list b) = false := rfl
@[simp] theorem isD_tup (b : List D) : isD (.tuple b) = false := rfl
@[simp] def isNum : D → Bool
  | .int _ => true
  | _ => false
theorem isi_eq {x : D} (T : String) (h : isD x = false) (ht : isiT T = true) : isiF T x = some (.is (.bool (isiB (tyN x) T))) := by
  unfold isiF; rw [h, ht]; rfl
def toIx (jobs : Nat) : D → Option Nat
  | .int k => if 0 ≤ k ∧ k < jobs then some k.toNat else none
  | _ => none
theorem toIx_some {jobs : Nat} {x : D} {k : Nat} : toIx jobs x = some k ↔ x = nI k ∧ k < jobs := by
  constructor
  · intro h
    cases x <;> simp only [toIx] at h <;> try cases h
    rename_i z
    split at h
    · rename_i hz
      cases h
      refine ⟨?_, by omega⟩
      show PyData.int z = .int ((z.toNat : Nat) : Int)
      rw [Int.toNat_of_nonneg hz.1]
    · cases h
  · rintro ⟨rfl, h⟩
    simp only [nI, toIx]
    rw [if_pos (by omega)]
    simp
def tagS (t : Str) : D → Bool
  | .str s => decide (s = t)
  | _ => false
def tagB (t : Str) (L : Nat) : D → Bool
  | .tuple (x :: xs) => decide (xs.length + 1 = L) && tagS t x
  | _ => false
theorem dedup_len : ∀ (ns acc : List Int), (ns.foldl (fun acc x => if acc.any (· == x) then acc else acc ++ [x]) acc).length ≤ acc.length + ns.length ∧ ((ns.foldl (fun acc x => if acc.any (· == x) then acc else acc ++ [x]) acc).length = acc.length + ns.length ↔ ns.Nodup ∧ ∀ x ∈ ns, x ∉ acc)
  | [], acc => by simp
  | x :: ns, acc => by
    rw [List.foldl_cons]
    by_cases hx : x ∈ acc
    · have : (acc.any (· == x)) = true := by simpa using hx
      rw [this, if_pos rfl]
      have ih := dedup_len ns acc
      refine ⟨by rw [List.length_cons]; omega, ?_⟩
      constructor
      · intro h
        rw [List.length_cons] at h
        omega
      · intro h
        exact absurd hx (h.2 x List.mem_cons_self)
    · have : (acc.any (· == x)) = false := by
        simp only [List.any_eq_false, beq_iff_eq]
        rintro y hy rfl
        exact hx hy
      rw [this]
      simp only [Bool.false_eq_true, if_false]
      have ih := dedup_len ns (acc ++ [x])
      rw [List.length_append, List.length_singleton] at ih
      refine ⟨by rw [List.length_cons]; omega, ?_⟩
      rw [List.length_cons, show acc.length + (ns.length + 1) = acc.length + 1 + ns.length by omega, ih.2, List.nodup_cons]
      constructor
      · rintro ⟨h1, h2⟩
        refine ⟨⟨fun h => ?_, h1⟩, fun y hy => ?_⟩
        · exact h2 x h (by simp)
        · rcases List.mem_cons.mp hy with rfl | hy
          · exact hx
          · exact fun h => h2 y hy (by simp [h])
      · rintro ⟨⟨h1, h2⟩, h3⟩
        refine ⟨h2, fun y hy => ?_⟩
        rw [List.mem_append, List.mem_singleton]
        rintro (h | rfl)
        · exact h3 y (List.mem_cons_of_mem _ hy) h
        · exact h1 hy
theorem dedupI_len (ns : List Int) : (dedupI ns).length = ns.length ↔ ns.Nodup := by
  have := (dedup_len ns []).2
  simpa [dedupI] using this
def toIxs (jobs : Nat) : List D → Option (List Nat)
  | [] => some []
  | x :: xs => (toIx jobs x).bind fun k => (toIxs jobs xs).map (k :: ·)
def jobL (jobs : Nat) : D → Option (List Nat)
  | .list xs => (toIxs jobs xs).bind fun o => if o.Nodup then some o else none
  | _ => none
theorem toIxs_some {jobs : Nat} : ∀ {xs : List D} {o : List Nat}, toIxs jobs xs = some o ↔ xs = o.map nI ∧ ∀ j ∈ o, j < jobs
  | [], o => by
    cases o <;> simp [toIxs]
  | x :: xs, o => by
    rw [toIxs]
    constructor
    · intro h
      cases hx : toIx jobs x with
      | none => rw [hx] at h; cases h
      | some k =>
        rw [hx] at h
        cases ht : toIxs jobs xs with
        | none => rw [ht] at h; cases h
        | some r =>
          rw [ht] at h
          cases h
          obtain ⟨h1, h2⟩ := toIxs_some.mp ht
          obtain ⟨h3, h4⟩ := toIx_some.mp hx
          subst h1; subst h3
          refine ⟨rfl, fun j hj => ?_⟩
          rcases List.mem_cons.mp hj with rfl | hj
          · exact h4
          · exact h2 j hj
    · rintro ⟨h1, h2⟩
      cases o with
      | nil => cases h1
      | cons k r =>
        rw [List.map_cons, List.cons.injEq] at h1
        rw [toIx_some.mpr ⟨h1.1, h2 k List.mem_cons_self⟩, toIxs_some.mpr ⟨h1.2, fun j hj => h2 j (List.mem_cons_of_mem _ hj)⟩]
        rfl
theorem jobL_some {jobs : Nat} {x : D} {o : List Nat} : jobL jobs x = some o ↔ x = encO o ∧ o.Nodup ∧ ∀ j ∈ o, j < jobs := by
  constructor
  · intro h
    cases x with
    | list xs =>
      rw [jobL, Option.bind_eq_some_iff] at h
      obtain ⟨r, h1, h2⟩ := h
      obtain ⟨h3, h4⟩ := toIxs_some.mp h1
      split at h2
      · rename_i hn
        cases h2
        exact ⟨by rw [h3], hn, h4⟩
      · cases h2
    | _ => cases h
  · rintro ⟨rfl, h1, h2⟩
    rw [encO, jobL, toIxs_some.mpr ⟨rfl, h2⟩, Option.bind_some, if_pos h1]
theorem toIxs_app {jobs : Nat} {xs ys : List D} : toIxs jobs (xs ++ ys) = (toIxs jobs xs).bind fun a => (toIxs jobs ys).map (a ++ ·) := by
  induction xs with
  | nil => simp [toIxs]
  | cons x xs ih =>
    rw [List.cons_append, toIxs, ih, toIxs]
    cases toIx jobs x <;> simp
    cases toIxs jobs xs <;> simp
    cases toIxs jobs ys <;> simp
theorem intsOf_nI (o : List Nat) : intsOf (o.map nI) = some (o.map (fun j : Nat => (j : Int))) := by
  induction o with
  | nil => rfl
  | cons j o ih => rw [List.map_cons, intsOf, ih]; rfl
theorem nodup_ints {o : List Nat} : (o.map (fun j : Nat => (j : Int))).Nodup ↔ o.Nodup := by
  unfold List.Nodup
  rw [List.pairwise_map]
  constructor
  · exact fun h => h.imp fun {a b} h e => h (by rw [e])
  · exact fun h => List.Pairwise.imp (R := fun a b : Nat => a ≠ b) (fun {a b} h (e : (a : Int) = b) => h (by omega)) h
theorem idx_encH1' {h : Ho} : idxF (encH h) (.int 1) = some (.is (.tuple (h.jobs.map encJ))) := idx_encH1 h
/-- small data without dicts -/
def G : Nat → D → Prop
  | _, .none => True
  | _, .bool _ => True
  | _, .int _ => True
  | _, .str _ => True
  | t + 1, .list xs => xs.length ≤ 50 ∧ ∀ x ∈ xs, G t x
  | t + 1, .tuple xs => xs.length ≤ 50 ∧ ∀ x ∈ xs, G t x
  | _, _ => False
theorem G.isD {t : Nat} {x : D} (h : G t x) : isD x = false := by
  cases x <;> first | rfl | (unfold G at h; exact h.elim)
theorem G.list {t : Nat} {xs : List D} (h : G (t + 1) (.list xs)) : xs.length ≤ 50 ∧ ∀ x ∈ xs, G t x := by unfold G at h; exact h
theorem G.tup {t : Nat} {xs : List D} (h : G (t + 1) (.tuple xs)) : xs.length ≤ 50 ∧ ∀ x ∈ xs, G t x := by unfold G at h; exact h
theorem G.Pd : ∀ {t : Nat} {x : D}, G t x → Pd t x
  | _, .none, _ => by simp
  | _, .bool _, _ => by simp
  | _, .int _, _ => by simp
  | _, .str _, _ => by simp
  | t + 1, .list xs, h => by
    rw [Pd_list]
    exact ⟨by have := h.list.1; omega, fun x hx => (h.list.2 x hx).Pd⟩
  | t + 1, .tuple xs, h => by
    rw [Pd_tup]
    exact ⟨by have := h.tup.1; omega, fun x hx => (h.tup.2 x hx).Pd⟩
  | 0, .list _, h => by unfold G at h; exact h.elim
  | 0, .tuple _, h => by unfold G at h; exact h.elim
  | 0, .dict _, h => by unfold G at h; exact h.elim
  | _ + 1, .dict _, h => by unfold G at h; exact h.elim
theorem G.shp {t : Nat} {x : D} (h : G t x) (l : t ≤ 60) : shp x = true := h.Pd.shp l
theorem tag2 {t : Str} {x : D} (h : tagB t 2 x = true) : ∃ b, x = .tuple [.str t, b] := by
  cases x with
  | tuple xs =>
    match xs, h with
    | [], h => cases h
    | y :: ys, h =>
      rw [tagB, Bool.and_eq_true, decide_eq_true_eq] at h
      cases y with
      | str s =>
        rw [tagS, decide_eq_true_eq] at h
        match ys, h.1 with
        | [b], _ => exact ⟨b, by rw [h.2]⟩
      | _ => cases h.2
  | _ => cases h
theorem tag3 {t : Str} {x : D} (h : tagB t 3 x = true) : ∃ a b, x = .tuple [.str t, a, b] := by
  cases x with
  | tuple xs =>
    match xs, h with
    | [], h => cases h
    | y :: ys, h =>
      rw [tagB, Bool.and_eq_true, decide_eq_true_eq] at h
      cases y with
      | str s =>
        rw [tagS, decide_eq_true_eq] at h
        match ys, h.1 with
        | [a, b], _ => exact ⟨a, b, by rw [h.2]⟩
      | _ => cases h.2
  | _ => cases h
theorem tag_d {t : Nat} {x : D} (h : G (t + 1) x) : ∀ y ys, x = .tuple (y :: ys) → isD y = false := by
  rintro y ys rfl
  exact (h.tup.2 y List.mem_cons_self).isD
theorem rng_1n {n : Nat} (h : 1 ≤ n) (hl : n ≤ 1000000) : rngF [.int 1, .int (n : Int)] = some ((List.range (n - 1)).map fun k => .int ((k : Int) + 1)) := by
  rw [show (1 : Int) = ((1 : Nat) : Int) from rfl, rng2 (by omega) h]
  congr 2
  funext k
  rw [Nat.add_comm, Int.natCast_add]
theorem eqv_encP (a b : Nat × Nat) : PyData.eqv (encP a) (encP b) = decide (a = b) := by
  rw [encP, encP, PyData.eqv, PyData.eqvAll, PyData.eqvAll, eqv_nI, eqv_nI, PyData.eqvAll]
  simp [Prod.ext_iff]
theorem any_eqv {α : Type} [DecidableEq α] {enc : α → D} (h : ∀ a b, PyData.eqv (enc a) (enc b) = decide (a = b)) (x : α) (l : List α) : ((l.map enc).any fun y => PyData.eqv y (enc x)) = decide (x ∈ l) := by
  induction l with
  | nil => rfl
  | cons y l ih =>
    rw [List.map_cons, List.any_cons, ih, h]
    simp [eq_comm]
theorem shp_Ps {l : List (Nat × Nat)} (h : l.length ≤ 10000000) : shp (.list (l.map encP)) = true := (Pd_map (fun q _ => Pd_encP q) h).shp (by decide)
theorem in_P {q : Nat × Nat} {l : List (Nat × Nat)} (h : l.length ≤ 10000000) : cmpF .In (encP q) (.list (l.map encP)) = some (decide (q ∈ l)) := by
  rw [cmp_inList ((Pd_encP q).shp (by decide)) (shp_Ps h), any_eqv eqv_encP]
  congr
theorem notin_P {q : Nat × Nat} {l : List (Nat × Nat)} (h : l.length ≤ 10000000) : cmpF .NotIn (encP q) (.list (l.map encP)) = some (!decide (q ∈ l)) := by
  rw [cmp_notInList ((Pd_encP q).shp (by decide)) (shp_Ps h), any_eqv eqv_encP]
  congr
/-- a sum in one row -/
def encF (s : Sm) : D := encI (s.1 :: s.2)
theorem rng_s1 {n : Nat} (h : n ≤ 1000000) : rngF [.int ((n : Int) + 1)] = some ((List.range (n + 1)).map nI) := rng1 (n := n + 1) (by omega)
theorem single_row {w a : Nat} (ha : a < w) : (List.range (w + 1)).map (fun k : Nat => PyData.int (if (k : Int) = (a : Int) + 1 then 1 else 0)) = ((single w a).1 :: (single w a).2).map .int := by
  refine List.ext_getElem (by simp [single]; omega) fun i h1 h2 => ?_
  simp at h1
  rw [List.getElem_map, List.getElem_range, List.getElem_map]
  congr 1
  cases i with
  | zero => simp [single]; omega
  | succ i =>
    rw [List.getElem_cons_succ]
    simp only [single]
    rcases Nat.lt_trichotomy i a with l | l | l
    · rw [List.getElem_append_left (by simp; omega), List.getElem_append_left (by simpa using l), List.getElem_replicate, if_neg (by omega)]
    · subst l
      rw [List.getElem_append_left (by simp), List.getElem_append_right (by simp), if_pos (by omega)]
      simp
    · rw [List.getElem_append_right (by simp; omega), List.getElem_replicate, if_neg (by omega)]
theorem row_at {s : Sm} {i : Nat} (h : i < s.2.length + 1) : at? ((s.1 :: s.2).map PyData.int) (i : Int) = some (.int ((s.1 :: s.2).getD i 0)) := by
  rw [getD_of (by simpa using h)]; exact getD_map _
theorem plus_row {s t : Sm} {k : Int} (h : s.2.length = t.2.length) : (List.range (s.2.length + 1)).map (fun i => PyData.int ((s.1 :: s.2).getD i 0 + k * (t.1 :: t.2).getD i 0)) = ((plus s t k).1 :: (plus s t k).2).map .int := by
  have := zip_eq (xs := s.1 :: s.2) (ys := t.1 :: t.2) (k := k) (by simpa using h)
  rw [List.length_cons] at this
  rw [this]
  rfl
/-- the sum, by columns -/
def dot (fs : List Int) (form : List Sm) (g : Sm → Int) : Int := ((List.range form.length).map fun k => fs.getD k 0 * g (form.getD k (zero form.length))).sum
theorem sum_snoc (l : List Int) (x : Int) : (l ++ [x]).sum = l.sum + x := by simp
theorem fold_fst (t : Sm) (form : List Sm) : ∀ (m : Nat) (s : Sm), ((List.range m).foldl (fun f a => plus f (form.getD a (zero form.length)) (t.2.getD a 0)) s).1 = s.1 + ((List.range m).map fun k => t.2.getD k 0 * (form.getD k (zero form.length)).1).sum
  | 0, s => by simp
  | m + 1, s => by
    rw [List.range_succ, List.foldl_append, List.map_append, List.map_singleton, sum_snoc]
    simp only [List.foldl_cons, List.foldl_nil]
    rw [plus, fold_fst t form m s]
    omega
theorem fold_snd {w : Nat} (t : Sm) {form : List Sm} (hf : FormOk w form) (at' : Nat) (ha : at' < w) : ∀ (m : Nat) (s : Sm), m ≤ form.length → s.2.length = w → ((List.range m).foldl (fun f a => plus f (form.getD a (zero form.length)) (t.2.getD a 0)) s).2.getD at' 0 = s.2.getD at' 0 + ((List.range m).map fun k => t.2.getD k 0 * (form.getD k (zero form.length)).2.getD at' 0).sum
  | 0, s, _, _ => by simp
  | m + 1, s, hm, hs => by
    have ih := fold_snd t hf at' ha m s (by omega) hs
    have hw := fold_w hf t (List.range m) s hs
    rw [List.range_succ, List.foldl_append, List.map_append, List.map_singleton, sum_snoc]
    simp only [List.foldl_cons, List.foldl_nil]
    generalize (List.range m).foldl (fun f a => plus f (form.getD a (zero form.length)) (t.2.getD a 0)) s = F at *
    have hz : (form.getD m (zero form.length)).2.length = w := by rw [getD_of (by omega)]; exact hf.w _ (List.getElem_mem _)
    rw [plus, getD_of (by rw [List.length_zipWith]; omega), List.getElem_zipWith]
    rw [getD_of (by omega)] at ih
    rw [ih]
    rw [getD_of (xs := (form.getD m (zero form.length)).2) (by omega)]
    omega
theorem putIn_eq {w : Nat} (t : Sm) {form : List Sm} (hf : FormOk w form) : putIn t form = (t.1 + dot t.2 form (·.1), (List.range w).map fun at' => dot t.2 form (fun s => s.2.getD at' 0)) := by
  have hl := hf.l
  refine Prod.ext (fold_fst t form form.length _) ?_
  refine List.ext_getElem (by rw [putIn_w hf]; simp) fun i h1 h2 => ?_
  rw [putIn_w hf] at h1
  have := fold_snd t hf i h1 form.length (t.1, List.replicate form.length 0) (Nat.le_refl _) (by simp [hl])
  rw [List.getElem_map, List.getElem_range, dot]
  rw [getD_of (by rw [fold_w hf _ _ _ (by simp [hl])]; exact h1), getD_of (by simp [hl]; exact h1), List.getElem_replicate, Int.zero_add] at this
  exact this
theorem lo_get {t : Sm} (h : Lo t) (k : Nat) : (t.2.getD k 0).natAbs ≤ 10000000000000000000 := by
  by_cases hk : k < t.2.length
  · rw [getD_of hk]; exact h _ (List.getElem_mem _)
  · rw [List.getD_eq_getElem?_getD, List.getElem?_eq_none (by omega)]; simp
/-- the law's dict of values -/
def valD (m : List (Str × Sm)) : List (D × D) := m.map fun q => (.str q.1, encF q.2)
def vget (m : List (Str × Sm)) (x : Str) : Option Sm := (m.find? fun q => decide (q.1 = x)).map (·.2)
def vput (m : List (Str × Sm)) (x : Str) (s : Sm) : List (Str × Sm) := if m.any fun q => decide (q.1 = x) then m.map fun q => if q.1 = x then (q.1, s) else q else m ++ [(x, s)]
@[simp] theorem dKeys_val (m : List (Str × Sm)) : dKeys (valD m) = true := dKeys_map _ _ fun _ _ => rfl
theorem dget_val (m : List (Str × Sm)) (x : Str) : dget (valD m) (.str x) = (vget m x).map encF := by
  unfold dget vget valD
  rw [List.find?_map]
  have : ((fun p : D × D => keyEq p.1 (.str x)) ∘ fun q : Str × Sm => (PyData.str q.1, encF q.2)) = fun q => decide (q.1 = x) := by funext q; rfl
  rw [this]
  cases m.find? fun q => decide (q.1 = x) <;> rfl
theorem dput_val (m : List (Str × Sm)) (x : Str) (s : Sm) : dput (valD m) (.str x) (encF s) = valD (vput m x s) := by
  unfold dput vput valD
  rw [List.any_map]
  have : ((fun p : D × D => keyEq p.1 (.str x)) ∘ fun q : Str × Sm => (PyData.str q.1, encF q.2)) = fun q => decide (q.1 = x) := by funext q; rfl
  rw [this]
  split
  · rw [List.map_map, List.map_map]
    refine List.map_congr_left fun q _ => ?_
    show (if keyEq (.str q.1) (.str x) = true then _ else _) = _
    rw [keyEq_str]
    by_cases h : q.1 = x <;> simp [h]
  · simp
theorem vget_put (m : List (Str × Sm)) (x y : Str) (s : Sm) : vget (vput m x s) y = if x = y then some s else vget m y := by
  unfold vget vput
  split
  · rename_i ha
    rw [List.find?_map]
    have hf : ((fun q : Str × Sm => decide (q.1 = y)) ∘ fun q : Str × Sm => if q.1 = x then (q.1, s) else q) = fun q => decide (q.1 = y) := by
      funext q
      simp only [Function.comp]
      by_cases h : q.1 = x <;> simp [h]
    rw [hf]
    by_cases hxy : x = y
    · subst hxy
      rw [if_pos rfl]
      obtain ⟨q, hq, he⟩ := List.any_eq_true.mp ha
      cases hf2 : m.find? fun q => decide (q.1 = x) with
      | none => exact absurd he (by simpa using List.find?_eq_none.mp hf2 q hq)
      | some q2 =>
        have := List.find?_some hf2
        simp only [decide_eq_true_eq] at this
        simp [this]
    · rw [if_neg hxy]
      cases hf2 : m.find? fun q => decide (q.1 = y) with
      | none => rfl
      | some q2 =>
        have := List.find?_some hf2
        simp only [decide_eq_true_eq] at this
        have hne : ¬ q2.1 = x := fun e => hxy (by rw [← e, this])
        simp [hne]
  · rename_i ha
    rw [List.find?_append]
    by_cases hxy : x = y
    · subst hxy
      rw [if_pos rfl]
      have : m.find? (fun q => decide (q.1 = x)) = none := by
        rw [List.find?_eq_none]
        intro q hq he
        exact ha (List.any_eq_true.mpr ⟨q, hq, he⟩)
      rw [this]
      simp
    · rw [if_neg hxy]
      cases m.find? fun q => decide (q.1 = y) <;> simp [hxy]
theorem vput_len (m : List (Str × Sm)) (x : Str) (s : Sm) : (vput m x s).length ≤ m.length + 1 := by
  unfold vput
  split <;> simp
/-- the law's values are the program's -/
def Rel (ns : List Str) (w : Nat) (ls : List Sm) (m : List (Str × Sm)) : Prop := ∀ x ∈ ns, ls.getD (ns.idxOf x) (zero w) = (vget m x).getD (zero w)
theorem Rel.put {ns : List Str} {w : Nat} {ls : List Sm} {m : List (Str × Sm)} (h : Rel ns w ls m) (hl : ls.length = ns.length) {x : Str} (hx : x ∈ ns) (s : Sm) : Rel ns w (ls.set (ns.idxOf x) s) (vput m x s) := by
  intro y hy
  rw [vget_put]
  by_cases e : x = y
  · subst e
    rw [if_pos rfl, getD_of (by rw [List.length_set, hl]; exact idx_lt hx), List.getElem_set_self]
    rfl
  · rw [if_neg e, ← h y hy, List.getD_eq_getElem?_getD, List.getD_eq_getElem?_getD, List.getElem?_set_ne]
    intro e2
    have h1 := List.getElem_idxOf (idx_lt hx)
    have h2 := List.getElem_idxOf (idx_lt hy)
    exact e (by rw [← h1, ← h2]; simp only [e2])
theorem vget_w {ns : List Str} {w : Nat} {ls : List Sm} {m : List (Str × Sm)} (h : Rel ns w ls m) {x : Str} (hx : x ∈ ns) : mthF .get [.dict (valD m), .str x, encF (zero w)] = some (.is (encF (ls.getD (ns.idxOf x) (zero w)))) := by
  rw [mth_get rfl (dKeys_val m) rfl, dget_val, h x hx]
  cases vget m x <;> rfl
theorem sto_val {m : List (Str × Sm)} (hm : m.length ≤ 10000000) (x : Str) (s : Sm) : stoF (.dic (valD m)) (.str x) (encF s) = some (.dic (valD (vput m x s))) := by
  rw [sto_dic rfl (by unfold valD; rw [List.length_map]; exact lt_lim hm), dput_val]
theorem in_strL {y : Str} {zs : List Str} (h : zs.length ≤ 1000) : cmpF .In (.str y) (.list (zs.map .str)) = some (decide (y ∈ zs)) := by
  rw [cmp_inList rfl ((Pd_map (t := 0) (enc := PyData.str) (fun _ _ => by simp) (by omega)).shp (by decide)), any_eqv eqv_str]
/-- a house of linear jobs, of proper names -/
structure LawH (h : Ho) : Prop where
  lin : LinH h
  nm : ∀ x ∈ names h, okN x
def srt (o : List Nat) : List Nat := o.mergeSort fun a b => decide (a ≤ b)
theorem srt_perm (o : List Nat) : (srt o).Perm o := List.mergeSort_perm _ _
theorem sortD_N (l : List Nat) : sortD (l.map nI) = (srt l).map nI := by
  unfold sortD srt
  rw [List.map_mergeSort]
  intro a _ b _
  have := congrFun (congrFun (W.dataLe_int (β := Nat) (fun q => (q : Int))) a) b
  have e : W.dataLe false id (nI a) (nI b) = W.dataLe false (fun b : Nat => .int (b : Int)) a b := rfl
  rw [e, this]
  exact decide_eq_decide.mpr (by omega)
theorem blt_sortN {l : List Nat} (h : l.length ≤ 10000000) : bltF .sorted [.list (l.map nI)] = some (.new (.lst ((srt l).map nI))) := by
  show (if sortOk (l.map nI) then some (PR.new (.lst (sortD (l.map nI)))) else none) = _
  rw [if_pos, sortD_N]
  unfold sortOk
  have h1 : ((l.map nI).all fun x => (l.map nI).all fun y => PySem.W.alike x y) = true := by
    rw [List.all_eq_true]
    intro x hx
    rw [List.all_eq_true]
    intro y hy
    obtain ⟨a, _, rfl⟩ := List.mem_map.mp hx
    obtain ⟨b, _, rfl⟩ := List.mem_map.mp hy
    simp [W.alike]
  have h2 : (l.map nI).all notNT = true := by
    rw [List.all_eq_true]
    intro x hx
    obtain ⟨a, _, rfl⟩ := List.mem_map.mp hx
    rfl
  have h3 : (l.map nI).all shp = true := by
    rw [List.all_eq_true]
    intro x hx
    obtain ⟨a, _, rfl⟩ := List.mem_map.mp hx
    rfl
  rw [h1, h2, h3, decide_eq_true (by rw [List.length_map]; exact le_lim h)]
  simp
theorem srt_sorted (o : List Nat) (hn : o.Nodup) : (srt o).Pairwise (· < ·) := by
  have h1 : (srt o).Pairwise fun a b => decide (a ≤ b) = true := List.pairwise_mergeSort (fun a b c h1 h2 => by simp at *; omega) (fun a b => by simp; omega) o
  have h2 : (srt o).Nodup := (srt_perm o).nodup_iff.mpr hn
  exact List.Pairwise.imp₂ (fun a b h1 h2 => by simp at h1; omega) h1 h2
theorem shp_plain {x : D} (h : shp x = true) : x.plain = true ∧ x.depth ≤ 64 := by
  unfold shp at h
  simpa using h
theorem eqv_tag (x : D) (t : Str) : PyData.eqv x (.str t) = tagS t x := by
  cases x with
  | str s => rw [eqv_str, tagS]
  | _ => simp [PyData.eqv, tagS]
theorem small_el {k : Nat} (hk : k < 10) {x : D} (h : PyData.eqv x (nI k) = true) : x.plain = true ∧ x.showable = true ∧ x.depth = 0 ∧ 1 ≤ x.shown.length ∧ x.shown.length ≤ 5 ∧ (x.shown.length = 1 ↔ x = nI k) := by
  cases x with
  | int z =>
    rw [eqv_int, decide_eq_true_eq] at h
    subst h
    refine ⟨rfl, ?_, rfl, ?_⟩
    · match k, hk with
      | 0, _ | 1, _ | 2, _ | 3, _ | 4, _ | 5, _ | 6, _ | 7, _ | 8, _ | 9, _ => decide +kernel
    · have : (PyData.int (k : Int)).shown.length = 1 := by
        match k, hk with
        | 0, _ | 1, _ | 2, _ | 3, _ | 4, _ | 5, _ | 6, _ | 7, _ | 8, _ | 9, _ => decide +kernel
      rw [this]
      simp
  | bool b =>
    refine ⟨rfl, rfl, rfl, ?_⟩
    have : 4 ≤ (PyData.bool b).shown.length ∧ (PyData.bool b).shown.length ≤ 5 := by cases b <;> decide +kernel
    refine ⟨by omega, by omega, ⟨fun h => by omega, fun h => by cases h⟩⟩
  | _ => simp [PyData.eqv] at h
theorem small_els : ∀ {o : List Nat} {xs : List D}, (∀ k ∈ o, k < 10) → PyData.eqvAll xs (o.map nI) = true → xs.length = o.length ∧ PyData.plainAll xs = true ∧ PyData.showableAll xs = true ∧ PyData.depthAll xs ≤ 1 ∧ (PyData.shownAll xs).length = o.length ∧ piled (PyData.shownAll xs) ≤ 7 * o.length ∧ 3 * o.length ≤ piled (PyData.shownAll xs) ∧ (piled (PyData.shownAll xs) = 3 * o.length ↔ xs = o.map nI)
  | [], [], _, _ => by simp [PyData.plainAll, PyData.showableAll, PyData.depthAll, PyData.shownAll, piled]
  | [], x :: xs, _, h => by simp [PyData.eqvAll] at h
  | k :: o, [], _, h => by simp [PyData.eqvAll] at h
  | k :: o, x :: xs, hk, h => by
    rw [List.map_cons, PyData.eqvAll, Bool.and_eq_true] at h
    obtain ⟨h1, h2, h3, h4, h5, h6⟩ := small_el (hk k List.mem_cons_self) h.1
    obtain ⟨g1, g2, g3, g4, g5, g6, g7, g8⟩ := small_els (fun j hj => hk j (List.mem_cons_of_mem _ hj)) h.2
    have hp : piled (PyData.shownAll (x :: xs)) = x.shown.length + 2 + piled (PyData.shownAll xs) := by
      rw [PyData.shownAll, piled, List.map_cons, List.sum_cons]; rfl
    refine ⟨by simp [g1], by rw [PyData.plainAll, h1, g2]; rfl, by rw [PyData.showableAll, h2, g3]; rfl, ?_, by rw [PyData.shownAll]; simp [g5], ?_, ?_, ?_⟩
    · simp only [PyData.depthAll]; omega
    · rw [hp, List.length_cons]; omega
    · rw [hp, List.length_cons]; omega
    · rw [hp, List.length_cons, List.map_cons, List.cons.injEq, ← h6, ← g8]
      omega
theorem listText_len (ts : List Str) : (listText ts).length + (if ts = [] then 0 else 2) = piled ts + 2 := by
  rw [listText_eq_join, strLen_append, strLen_append]
  have e1 : ("[" : Str).length = 1 := by decide
  have e2 : ("]" : Str).length = 1 := by decide
  by_cases h : ts = []
  · subst h
    rw [if_pos rfl]
    decide +kernel
  · rw [if_neg h]
    have := join_length_add ts h
    omega
theorem show_list {o : List Nat} {x : D} (hk : ∀ k ∈ o, k < 10) (hl : o.length ≤ 1000) (h : PyData.eqv x (encO o) = true) : showOk x = true ∧ (x.shown = (encO o).shown ↔ x = encO o) := by
  cases x with
  | list xs =>
    rw [encO, PyData.eqv] at h
    obtain ⟨g1, g2, g3, g4, g5, g6, g7, g8⟩ := small_els hk h
    obtain ⟨k1, k2, k3, k4, k5, k6, k7, k8⟩ := small_els (xs := o.map nI) hk (by rw [eqvAll_map eqv_nI]; simp)
    have l1 := listText_len (PyData.shownAll xs)
    have l2 := listText_len (PyData.shownAll (o.map nI))
    constructor
    · unfold showOk
      have : (PyData.list xs).shown.length ≤ lim := by
        rw [PyData.shown]
        refine le_lim ?_
        omega
      rw [PyData.plain, PyData.showable, g2, g3, decide_eq_true this]
      have : (PyData.list xs).depth ≤ 64 := by simp only [PyData.depth]; omega
      rw [decide_eq_true this]
      rfl
    · constructor
      · intro e
        rw [PyData.shown, encO, PyData.shown] at e
        have e' := congrArg Str.length e
        have hnil : PyData.shownAll xs = [] ↔ PyData.shownAll (o.map nI) = [] := by
          rw [← List.length_eq_zero_iff, ← List.length_eq_zero_iff, g5, k5]
        have : piled (PyData.shownAll xs) = piled (PyData.shownAll (o.map nI)) := by
          by_cases hn : PyData.shownAll xs = []
          · rw [if_pos hn] at l1
            rw [if_pos (hnil.mp hn)] at l2
            omega
          · rw [if_neg hn] at l1
            rw [if_neg fun e => hn (hnil.mpr e)] at l2
            omega
        rw [k8.mpr rfl] at this
        rw [g8.mp this]
      · intro e; rw [e]
  | _ => simp [encO, PyData.eqv] at h
def natL (x : D) : Option (List Nat) := match x with
  | .list xs => toIxs 10 xs
  | _ => none
theorem natL_some {x : D} {o : List Nat} (hk : ∀ k ∈ o, k < 10) : natL x = some o ↔ x = encO o := by
  constructor
  · intro h
    cases x <;> simp only [natL] at h <;> first | cases h | skip
    rw [(toIxs_some.mp h).1]
  · rintro rfl
    exact toIxs_some.mpr ⟨rfl, hk⟩
/-- proper draws -/
structure Dr (ds : List Int) : Prop where
  pos : 0 < ds.length
  len : ds.length ≤ 1000
  rng : InR ds
abbrev encD (ds : List Int) : D := .list (ds.map .int)
def cellV (ds : List Int) (k : Nat) : Int := ds.getD (k % ds.length) 0 / (1 + ((k / ds.length % 7 : Nat) : Int))
theorem cell_r {ds : List Int} (hd : Dr ds) (k : Nat) : 0 ≤ cellV ds k ∧ cellV ds k < 1000003 := by
  have hm : k % ds.length < ds.length := Nat.mod_lt _ hd.pos
  obtain ⟨r1, r2⟩ := hd.rng _ (List.getElem_mem hm)
  rw [cellV, getD_of hm]
  exact ⟨Int.ediv_nonneg r1 (by omega), Int.lt_of_le_of_lt (Int.ediv_le_self _ r1) r2⟩
/-- a place in a written list -/
theorem at_lt {α : Type} {xs : List α} {i : Nat} (h : i < xs.length) : at? xs (i : Int) = some xs[i] := at_nat i h
def vN : List Str := ["va", "vb", "vc"]
def aN : List Str := ["xa", "xb", "xc", "xd", "xe"]
def jN : List Str := ["ja", "jb", "jc", "jd", "je"]
@[simp] theorem lim0 : 0 < lim := by decide
@[simp] theorem lim1 : 1 < lim := by decide
@[simp] theorem lim2 : 2 < lim := by decide
theorem at_ex {α : Type} {xs : List α} {z : Int} (h0 : 0 ≤ z) (h1 : z < xs.length) : ∃ x ∈ xs, at? xs z = some x := by
  obtain ⟨n, rfl⟩ := Int.eq_ofNat_of_zero_le h0
  have hn : n < xs.length := by omega
  exact ⟨xs[n], List.getElem_mem hn, at_nat n hn⟩
/-- .. of things -/
theorem at_exm {α : Type} (f : α → D) (xs : List α) {z : Int} (h0 : 0 ≤ z) (h1 : z < xs.length) : ∃ x ∈ xs, at? (xs.map f) z = some (f x) := by
  obtain ⟨n, rfl⟩ := Int.eq_ofNat_of_zero_le h0
  have hn : n < xs.length := by omega
  exact ⟨xs[n], List.getElem_mem hn, getD_map hn⟩
/-- a linear statement of the law's houses -/
def GS (accs : List Str) : St → Prop
  | .read v x => v ∈ vN ∧ x ∈ accs
  | .write x v => v ∈ vN ∧ x ∈ accs
  | .num v c => v ∈ vN ∧ c.natAbs ≤ 5
  | .copy v u => v ∈ vN ∧ u ∈ vN
  | .op k v a b => (k = .add ∨ k = .sub) ∧ v ∈ vN ∧ a ∈ vN ∧ b ∈ vN
  | .say v => v ∈ vN
  | .skip => True
  | .need _ => False
  | .ite _ _ _ => False
theorem at_acc {a : Nat} (ha : a ≤ 5) {z : Int} (h0 : 0 ≤ z) (h1 : z < a) : ∃ x ∈ aN.take a, at? ([.str "xa", .str "xb", .str "xc", .str "xd", .str "xe"] : List D) z = some (.str x) := by
  obtain ⟨n, rfl⟩ := Int.eq_ofNat_of_zero_le h0
  have hn : n < aN.length := by have : aN.length = 5 := rfl; omega
  refine ⟨aN[n], ?_, getD_map (f := PyData.str) (xs := aN) hn⟩
  rw [List.mem_take_iff_getElem]
  exact ⟨n, by omega, rfl⟩
/-- a menu: kinds of bodies -/
structure Mn (m : List Int) : Prop where
  pos : 0 < m.length
  len : m.length ≤ 10
  r : ∀ k ∈ m, 0 ≤ k ∧ k < 8
def Bd (accs : List Str) (b : List St) : Prop := (∀ s ∈ b, GS accs s) ∧ b.length ≤ 7
theorem GS_lin {accs : List Str} {s : St} (hs : GS accs s) {ns : List Str} (hn : ∀ x ∈ lnames s, x ∈ ns) : LinS ns accs s := by
  cases s with
  | read v x => exact ⟨hn v (by simp [lnames]), hs.2⟩
  | write x v => exact ⟨hn v (by simp [lnames]), hs.2⟩
  | num v k => exact hn v (by simp [lnames])
  | copy v u => exact ⟨hn v (by simp [lnames]), hn u (by simp [lnames])⟩
  | op k v a b => exact ⟨hs.1, hn v (by simp [lnames]), hn a (by simp [lnames]), hn b (by simp [lnames])⟩
  | say v => exact hn v (by simp [lnames])
  | skip => exact trivial
  | need v => exact hs.elim
  | ite v a b => exact hs.elim
theorem GS_names {accs : List Str} {s : St} (hs : GS accs s) : ∀ x ∈ lnames s, x ∈ vN := by
  intro x hx
  cases s <;> simp only [lnames, List.mem_cons, List.not_mem_nil, or_false] at hx <;> simp only [GS] at hs
  all_goals first
    | exact hs.elim
    | (rcases hx with rfl | rfl | rfl <;> simp [hs]; done)
    | (rcases hx with rfl | rfl <;> simp [hs]; done)
    | (subst hx; simp [hs]; done)
theorem GS_flat {accs : List Str} : ∀ {b : List St}, (∀ s ∈ b, GS accs s) → stmts b = b
  | [], _ => rfl
  | s :: b, h => by
    have hs := h s List.mem_cons_self
    rw [stmts, GS_flat fun t ht => h t (List.mem_cons_of_mem _ ht)]
    cases s <;> first | rfl | exact hs.elim
theorem vN_ok : ∀ x ∈ vN, okN x := by
  intro x hx
  simp only [vN, List.mem_cons, List.not_mem_nil, or_false] at hx
  rcases hx with rfl | rfl | rfl <;> (show PyData.strOk _ = true; decide +kernel)
theorem aN_ok : ∀ x ∈ aN, okN x := by
  intro x hx
  simp only [aN, List.mem_cons, List.not_mem_nil, or_false] at hx
  rcases hx with rfl | rfl | rfl | rfl | rfl <;> (show PyData.strOk _ = true; decide +kernel)
theorem aN_nodup : aN.Nodup := by decide +kernel
/-- the law's houses -/
structure HGen (h : Ho) (a j : Nat) : Prop where
  nm : names h = aN.take a
  jl : h.jobs.length = j
  bd : ∀ q ∈ h.jobs, Bd (aN.take a) q.2.2
theorem HGen.law {h : Ho} {a j : Nat} (g : HGen h a j) (ha : a ≤ 5) : LawH h := by
  have hbd : ∀ i < h.jobs.length, Bd (aN.take a) (body h i) := fun i hi => by
    rw [← body_eq hi]; exact g.bd _ (List.getElem_mem hi)
  have hacc : h.acc.length ≤ 5 := by
    have : (names h).length = h.acc.length := by simp [names]
    rw [← this, g.nm, List.length_take]; omega
  refine ⟨⟨by rw [g.nm]; exact aN_nodup.sublist (List.take_sublist _ _), by omega, fun i hi s hs => ?_, fun i hi => by have := (hbd i hi).2; omega, fun i hi x hx => ?_⟩, fun x hx => aN_ok x (List.mem_of_mem_take (g.nm ▸ hx))⟩
  · rw [g.nm]
    refine GS_lin ((hbd i hi).1 s hs) fun x hx => mem_locals.mpr ⟨s, ?_, hx⟩
    rw [GS_flat (hbd i hi).1]; exact hs
  · obtain ⟨s, hs, hx⟩ := mem_locals.mp hx
    rw [GS_flat (hbd i hi).1] at hs
    exact vN_ok x (GS_names ((hbd i hi).1 s hs) x hx)
theorem erase_map {α β : Type} (f : α → β) (l : List α) (i : Nat) : (l.map f).eraseIdx i = (l.eraseIdx i).map f := by
  rw [List.eraseIdx_eq_take_drop_succ, List.eraseIdx_eq_take_drop_succ, List.map_append, List.map_take, List.map_drop]
theorem erase_perm {l : List Nat} {i : Nat} (h : i < l.length) : (l[i] :: l.eraseIdx i).Perm l := by
  rw [List.eraseIdx_eq_take_drop_succ]
  have : l = l.take i ++ l[i] :: l.drop (i + 1) := by rw [← List.drop_eq_getElem_cons h, List.take_append_drop]
  conv => rhs; rw [this]
  exact List.perm_middle.symm
/-- popped at a place -/
theorem pop_ex (l : List Nat) {z : Int} (h0 : 0 ≤ z) (h1 : z < l.length) (hl : l.length ≤ 1000) : ∃ (x : Nat) (r : List Nat), (x :: r).Perm l ∧ mutF .popAt (.lst (l.map nI)) [.int z] = some (nI x, .lst (r.map nI)) := by
  obtain ⟨n, rfl⟩ := Int.eq_ofNat_of_zero_le h0
  have hn : n < l.length := by omega
  refine ⟨l[n], l.eraseIdx n, erase_perm hn, ?_⟩
  have := popL (xs := l.map nI) (i := n) (by simpa using hn) (by simp; omega)
  rw [List.getElem_map, erase_map] at this
  exact this
theorem rng1F_ok {n : Nat} (h : n ≤ 1000000) : rng1F [.int (n : Int)] = some ((List.range n).map nI) := by
  simp only [rng1F]
  rw [if_pos (by omega), Int.toNat_natCast]
/-- a draw -/
theorem draw_ex {ds : List Int} (hd : Dr ds) (i : Nat) (h : i < ds.length) : ∃ c : Int, 0 ≤ c ∧ c < 1000003 ∧ at? (ds.map PyData.int) (i : Int) = some (.int c) :=
  ⟨ds[i], (hd.rng _ (List.getElem_mem h)).1, (hd.rng _ (List.getElem_mem h)).2, getD_map h⟩
theorem mod_nat {c : Int} {m : Nat} (h : 0 < m) : ∃ k : Nat, c % (m : Int) = (k : Int) ∧ k < m := by
  have h1 := Int.emod_nonneg c (show (m : Int) ≠ 0 by omega)
  have h2 := Int.emod_lt_of_pos c (show (0 : Int) < m by omega)
  exact ⟨(c % (m : Int)).toNat, by omega, by omega⟩
theorem mod_nat1 {c : Int} {m : Nat} (h : 1 < m) : ∃ k : Nat, c % ((m : Int) - 1) = (k : Int) ∧ k + 1 < m := by
  have e : ((m : Int) - 1) = ((m - 1 : Nat) : Int) := by omega
  rw [e]
  obtain ⟨k, h1, h2⟩ := mod_nat (c := c) (m := m - 1) (by omega)
  exact ⟨k, h1, by omega⟩
theorem G_list (t : Nat) (xs : List D) : G (t + 1) (.list xs) ↔ xs.length ≤ 50 ∧ ∀ x ∈ xs, G t x := by constructor <;> (intro h; first | exact h.list | (unfold G; exact h))
theorem G_tup (t : Nat) (xs : List D) : G (t + 1) (.tuple xs) ↔ xs.length ≤ 50 ∧ ∀ x ∈ xs, G t x := by constructor <;> (intro h; first | exact h.tup | (unfold G; exact h))
@[simp] theorem G_none (t : Nat) : G t .none := by cases t <;> simp [G]
@[simp] theorem G_bool (t : Nat) (b : Bool) : G t (.bool b) := by cases t <;> simp [G]
@[simp] theorem G_int (t : Nat) (b : Int) : G t (.int b) := by cases t <;> simp [G]
@[simp] theorem G_str (t : Nat) (b : Str) : G t (.str b) := by cases t <;> simp [G]
theorem G.up : ∀ {t : Nat} {x : D}, G t x → G (t + 1) x
  | _, .none, _ => by simp
  | _, .bool _, _ => by simp
  | _, .int _, _ => by simp
  | _, .str _, _ => by simp
  | t + 1, .list xs, h => (G_list _ _).mpr ⟨h.list.1, fun x hx => (h.list.2 x hx).up⟩
  | t + 1, .tuple xs, h => (G_tup _ _).mpr ⟨h.tup.1, fun x hx => (h.tup.2 x hx).up⟩
  | 0, .list _, h => by unfold G at h; exact h.elim
  | 0, .tuple _, h => by unfold G at h; exact h.elim
  | 0, .dict _, h => by unfold G at h; exact h.elim
  | _ + 1, .dict _, h => by unfold G at h; exact h.elim
theorem G_encO {t : Nat} {o : List Nat} (h : o.length ≤ 50) : G (t + 1) (encO o) := (G_list _ _).mpr ⟨by simpa using h, fun x hx => by
  obtain ⟨j, _, rfl⟩ := List.mem_map.mp hx
  simp⟩
theorem cut_nI (o : List Nat) (lo hi : Option Int) : ∃ o' : List Nat, cut (o.map nI) lo hi = o'.map nI ∧ o'.length ≤ o.length := by
  refine ⟨(o.drop (HT.sIx o.length 0 lo)).take (HT.sIx o.length o.length hi - HT.sIx o.length 0 lo), ?_, by rw [List.length_take, List.length_drop]; omega⟩
  unfold PL.cut
  rw [List.length_map, ← List.map_drop, ← List.map_take]
/-- papers -/
def Pp (m : Nat) (xs : List D) : Prop := xs.length ≤ m ∧ ∀ x ∈ xs, G 3 x
theorem Pp.app {m k : Nat} {xs ys : List D} (h : Pp m xs) (g : Pp k ys) : Pp (m + k) (xs ++ ys) := ⟨by rw [List.length_append]; have := h.1; have := g.1; omega, fun x hx => by
  rcases List.mem_append.mp hx with hx | hx
  · exact h.2 x hx
  · exact g.2 x hx⟩
theorem Pp.nil (m : Nat) : Pp m [] := ⟨by simp, fun y hy => absurd hy List.not_mem_nil⟩
theorem Pp.cons {m : Nat} {x : D} {xs : List D} (h : G 3 x) (g : Pp m xs) : Pp (m + 1) (x :: xs) := ⟨by rw [List.length_cons]; have := g.1; omega, fun y hy => by
  rcases List.mem_cons.mp hy with rfl | hy
  · exact h
  · exact g.2 y hy⟩
theorem Pp.up {m k : Nat} {xs : List D} (h : Pp m xs) (l : m ≤ k) : Pp k xs := ⟨Nat.le_trans h.1 l, h.2⟩
theorem rng_ab {a b : Int} (h : -1000 ≤ a ∧ a ≤ 1000 ∧ -1000 ≤ b ∧ b ≤ 1000) : rngF [.int a, .int b] = some ((List.range (b - a).toNat).map fun k => .int (a + ((k : Nat) : Int))) := by
  simp only [rngF]
  rw [if_pos ⟨by omega, by omega, by omega, by omega⟩]
@[simp] theorem atom_encH (h : Ho) : atom (.d (encH h)) = false := rfl
theorem nodup_len : ∀ (n : Nat) {l : List Nat}, l.Nodup → (∀ x ∈ l, x < n) → l.length ≤ n
  | 0, l, _, h => by
    cases l with
    | nil => simp
    | cons x r => exact absurd (h x List.mem_cons_self) (by omega)
  | n + 1, l, hn, h => by
    by_cases hm : n ∈ l
    · have := nodup_len n (l := l.erase n) (hn.erase n) fun x hx => by
        have h1 := (hn.mem_erase_iff).mp hx
        have h2 := h x h1.2
        omega
      rw [List.length_erase_of_mem hm] at this
      omega
    · have := nodup_len n hn fun x hx => by
        have h2 := h x hx
        have : x ≠ n := fun e => hm (e ▸ hx)
        omega
      omega
end PL.K

/-! D1: how long data looks; bounds of sums. -/
namespace PL.K
open PySem PL.Y
local macro_rules | `(tactic| trivial) => `(tactic| first | omega | (simp -implicitDefEqProofs; done) | (simp -implicitDefEqProofs; omega))
/-- looks at most k letters long -/
def Wd (k : Nat) (x : D) : Prop := x.shown.length ≤ k ∧ x.showable = true
theorem Wd.up {k m : Nat} {x : D} (h : Wd k x) (l : k ≤ m) : Wd m x := ⟨Nat.le_trans h.1 l, h.2⟩
theorem Wd_none : Wd 5 .none := ⟨by decide +kernel, rfl⟩
theorem Wd_bool (b : Bool) : Wd 5 (.bool b) := ⟨by cases b <;> decide +kernel, rfl⟩
theorem int_len {k : Nat} (hk : 0 < k) {v : Int} (h : v.natAbs < 10 ^ k) : (Str.ofString (toString v)).length ≤ k + 1 := by
  cases v with
  | ofNat n =>
    have := PyProof.Rows.toString_length_le (v := Int.ofNat n) (Int.natCast_nonneg n) hk (by
      have h' : n < 10 ^ k := h
      show ((n : Nat) : Int) < 10 ^ k
      have : ((10 ^ k : Nat) : Int) = (10 : Int) ^ k := by simp
      rw [← this]; exact Int.ofNat_lt.mpr h')
    omega
  | negSucc n =>
    have e : toString (Int.negSucc n) = "-" ++ toString (Int.ofNat (n + 1)) := rfl
    have := PyProof.Rows.toString_length_le (v := Int.ofNat (n + 1)) (Int.natCast_nonneg (n + 1)) hk (by
      have h' : n + 1 < 10 ^ k := h
      show (((n + 1 : Nat)) : Int) < 10 ^ k
      have : ((10 ^ k : Nat) : Int) = (10 : Int) ^ k := by simp
      rw [← this]; exact Int.ofNat_lt.mpr h')
    rw [e]
    have e2 : Str.ofString ("-" ++ toString (Int.ofNat (n + 1))) = Str.ofString "-" ++ Str.ofString (toString (Int.ofNat (n + 1))) := by
      rw [Str.ofString_eq_toList, Str.ofString_eq_toList, Str.ofString_eq_toList, String.toList_append]
      show Str.mk _ = Str.mk (_ ++ _)
      simp
    rw [e2, strLen_append]
    have e3 : (Str.ofString "-").length = 1 := by decide
    omega
theorem Wd_int {k : Nat} (hk : 0 < k) (hk2 : k ≤ 480) {v : Int} (h : v.natAbs < 10 ^ k) : Wd (k + 1) (.int v) := by
  refine ⟨int_len hk h, ?_⟩
  show decide (v.natAbs.log2 < 1920) = true
  refine decide_eq_true ?_
  by_cases h0 : v.natAbs = 0
  · rw [h0]; decide
  · rw [Nat.log2_lt h0]
    refine Nat.lt_of_lt_of_le h ?_
    calc 10 ^ k ≤ 16 ^ k := Nat.pow_le_pow_left (by decide) k
      _ = 2 ^ (4 * k) := by rw [show (16 : Nat) = 2 ^ 4 from rfl, ← Nat.pow_mul]
      _ ≤ 2 ^ 1920 := Nat.pow_le_pow_right (by decide) (by omega)
theorem Wd_str {k : Nat} {s : Str} (h : (PyData.str s).shown.length ≤ k) : Wd k (.str s) := ⟨h, rfl⟩
theorem piled_le {k : Nat} : ∀ {xs : List D}, (∀ x ∈ xs, Wd k x) → piled (PyData.shownAll xs) ≤ xs.length * (k + 2) ∧ PyData.showableAll xs = true
  | [], _ => ⟨Nat.zero_le _, rfl⟩
  | x :: xs, h => by
    obtain ⟨h1, h2⟩ := piled_le fun y hy => h y (List.mem_cons_of_mem _ hy)
    obtain ⟨h3, h4⟩ := h x List.mem_cons_self
    refine ⟨?_, ?_⟩
    · rw [PyData.shownAll, piled_cons, List.length_cons, Nat.add_mul]
      omega
    · rw [PyData.showableAll, h4, h2]; rfl
theorem Wd_list {k m : Nat} {xs : List D} (h : ∀ x ∈ xs, Wd k x) (hl : xs.length * (k + 2) + 2 ≤ m) : Wd m (.list xs) := by
  obtain ⟨h1, h2⟩ := piled_le h
  refine ⟨?_, by rw [PyData.showable]; exact h2⟩
  rw [PyData.shown]
  have := listText_len (PyData.shownAll xs)
  omega
theorem tupleText_len (ts : List Str) : (tupleText ts).length ≤ piled ts + 4 := by
  unfold tupleText
  rw [strLen_append, strLen_append]
  have e1 : ("(" : Str).length = 1 := by decide
  have e2 : (Str.ofString (if ts.length == 1 then ",)" else ")")).length ≤ 2 := by split <;> decide
  by_cases h : ts = []
  · subst h
    have : (Str.join ", " []).length = 0 := by decide +kernel
    omega
  · have := join_length_add ts h
    omega
theorem Wd_tup {k m : Nat} {xs : List D} (h : ∀ x ∈ xs, Wd k x) (hl : xs.length * (k + 2) + 4 ≤ m) : Wd m (.tuple xs) := by
  obtain ⟨h1, h2⟩ := piled_le h
  refine ⟨?_, by rw [PyData.showable]; exact h2⟩
  rw [PyData.shown]
  have := tupleText_len (PyData.shownAll xs)
  omega
theorem showOk_of {t k : Nat} {x : D} (h : G t x) (ht : t ≤ 60) (w : Wd k x) (hk : k ≤ 10000000) : showOk x = true := by
  have s := h.shp ht
  unfold shp at s
  rw [Bool.and_eq_true] at s
  unfold showOk
  rw [s.1, w.2, s.2, decide_eq_true (le_lim (Nat.le_trans w.1 hk))]
  rfl
/-! ### bounds -/
/-- all numbers of a sum are at most B -/
def Bc (B : Nat) (s : Sm) : Prop := s.1.natAbs ≤ B ∧ Bs B s
theorem Bc.up {B C : Nat} {s : Sm} (h : Bc B s) (l : B ≤ C) : Bc C s := ⟨Nat.le_trans h.1 l, h.2.up l⟩
theorem Bc_zero (B w : Nat) : Bc B (zero w) := ⟨Nat.zero_le _, Bs_zero B w⟩
theorem Bc_single (w a : Nat) : Bc 1 (single w a) := ⟨by simp [single], Bs_single w a⟩
theorem Bc_plus {B : Nat} {s t : Sm} {k : Int} (h1 : Bc B s) (h2 : Bc B t) (hk : k.natAbs ≤ 1) : Bc (2 * B) (plus s t k) := by
  refine ⟨?_, Bs_plus h1.2 h2.2 hk⟩
  have h3 := h1.1
  have h4 := h2.1
  show (s.1 + k * t.1).natAbs ≤ 2 * B
  have h5 : (k * t.1).natAbs ≤ B := by
    rw [Int.natAbs_mul]
    calc k.natAbs * t.1.natAbs ≤ 1 * t.1.natAbs := Nat.mul_le_mul_right _ hk
      _ ≤ B := by omega
  omega
theorem Bc_getD {B : Nat} {l : List Sm} {w : Nat} (h : ∀ s ∈ l, Bc B s) (i : Nat) : Bc B (l.getD i (zero w)) := by
  by_cases hi : i < l.length
  · rw [getD_of hi]; exact h _ (List.getElem_mem hi)
  · rw [List.getD_eq_getElem?_getD, List.getElem?_eq_none (by omega)]; exact Bc_zero B w
theorem Bc_step {B : Nat} {names accs as : List Str} {w : Nat} {st : List Sm × List Sm} (h1 : ∀ s ∈ st.1, Bc B s) (h2 : ∀ s ∈ st.2, Bc B s) (hB : 5 ≤ B) {s : St} (hs : GS as s) : (∀ t ∈ (lin1 names accs w st s).1, Bc (2 * B) t) ∧ ∀ t ∈ (lin1 names accs w st s).2, Bc (2 * B) t := by
  have u1 : ∀ s ∈ st.1, Bc (2 * B) s := fun s hs => (h1 s hs).up (by omega)
  have u2 : ∀ s ∈ st.2, Bc (2 * B) s := fun s hs => (h2 s hs).up (by omega)
  cases s with
  | read v x => exact ⟨set_w u1 (Bc_getD u2 _) _, u2⟩
  | write x v => exact ⟨u1, set_w u2 (Bc_getD u1 _) _⟩
  | num v k => exact ⟨set_w u1 ⟨by have := hs.2; show k.natAbs ≤ 2 * B; omega, fun f hf => by rw [List.eq_of_mem_replicate hf]; simp⟩ _, u2⟩
  | copy v u => exact ⟨set_w u1 (Bc_getD u1 _) _, u2⟩
  | op k v a b => cases k <;> first | exact ⟨set_w u1 (Bc_plus (Bc_getD h1 _) (Bc_getD h1 _) (by decide)) _, u2⟩ | exact ⟨u1, u2⟩
  | say v => exact ⟨u1, u2⟩
  | skip => exact ⟨u1, u2⟩
  | need v => exact ⟨u1, u2⟩
  | ite v a b => exact ⟨u1, u2⟩
theorem Bc_steps {names accs as : List Str} {w : Nat} : ∀ (b : List St) {B : Nat} {st : List Sm × List Sm}, (∀ s ∈ b, GS as s) → 5 ≤ B → (∀ s ∈ st.1, Bc B s) → (∀ s ∈ st.2, Bc B s) → ∀ t ∈ (b.foldl (lin1 names accs w) st).2, Bc (2 ^ b.length * B) t
  | [], B, st, _, _, _, h => by simpa using h
  | s :: b, B, st, hb, hB, h1, h2 => by
    obtain ⟨z1, z2⟩ := Bc_step (names := names) (accs := accs) (w := w) h1 h2 hB (hb s List.mem_cons_self)
    have := Bc_steps (names := names) (accs := accs) (w := w) b (fun t ht => hb t (List.mem_cons_of_mem _ ht)) (by omega) z1 z2
    rw [List.length_cons, Nat.pow_succ, Nat.mul_assoc]
    exact this
/-- the law's houses: small forms -/
theorem HGen.bc {h : Ho} {a j : Nat} (g : HGen h a j) {i : Nat} (hi : i < h.jobs.length) : ∀ t ∈ jobForm h i, Bc 640 t := by
  have hbd : Bd (aN.take a) (body h i) := by rw [← body_eq hi]; exact g.bd _ (List.getElem_mem hi)
  have h1 := Bc_steps (names := locals (body h i)) (accs := names h) (w := h.acc.length) (body h i) (B := 5) (st := (List.replicate (locals (body h i)).length (zero h.acc.length), begun h.acc.length)) hbd.1 (Nat.le_refl _) (fun s hs => by rw [List.eq_of_mem_replicate hs]; exact Bc_zero _ _) (fun s hs => by
    obtain ⟨b, _, rfl⟩ := List.mem_map.mp hs
    exact (Bc_single _ _).up (by decide))
  intro t ht
  refine (h1 t ht).up ?_
  calc 2 ^ (body h i).length * 5 ≤ 2 ^ 7 * 5 := Nat.mul_le_mul_right _ (Nat.pow_le_pow_right (by decide) hbd.2)
    _ = 640 := rfl
theorem sum_le {α : Type} (f : α → Int) {M : Nat} : ∀ {l : List α}, (∀ x ∈ l, (f x).natAbs ≤ M) → ((l.map f).sum).natAbs ≤ l.length * M
  | [], _ => by simp
  | x :: l, h => by
    have h1 := sum_le f fun y hy => h y (List.mem_cons_of_mem _ hy)
    have h2 := h x List.mem_cons_self
    rw [List.map_cons, List.sum_cons, List.length_cons, Nat.add_mul]
    omega
theorem Bc_behind {w B B' : Nat} {form following : List Sm} (hf : FormOk w form) (hw : w ≤ 5) (h1 : ∀ t ∈ following, Bc B t) (h2 : ∀ s ∈ form, Bc B' s) (hB' : 1 ≤ B') : ∀ t ∈ behind form following, Bc (6 * B * B') t := by
  intro t ht
  obtain ⟨u, hu, rfl⟩ := List.mem_map.mp ht
  have hub := h1 u hu
  have hl := hf.l
  have dotb : ∀ g : Sm → Int, (∀ s : Sm, Bc B' s → (g s).natAbs ≤ B') → (dot u.2 form g).natAbs ≤ 5 * B * B' := fun g hg => by
    unfold dot
    have := sum_le (fun k => u.2.getD k 0 * g (form.getD k (zero form.length))) (M := B * B') (l := List.range form.length) fun k _ => by
      rw [Int.natAbs_mul]
      refine Nat.mul_le_mul ?_ (hg _ (Bc_getD h2 k))
      by_cases hk : k < u.2.length
      · rw [getD_of hk]; exact hub.2 _ (List.getElem_mem hk)
      · rw [List.getD_eq_getElem?_getD, List.getElem?_eq_none (by omega)]; exact Nat.zero_le _
    rw [List.length_range] at this
    refine Nat.le_trans this ?_
    rw [hl, Nat.mul_assoc]
    exact Nat.mul_le_mul_right _ hw
  have e : 6 * B * B' = 5 * B * B' + B * B' := by rw [Nat.mul_assoc, Nat.mul_assoc]; omega
  have hBB : B ≤ B * B' := Nat.le_mul_of_pos_right _ hB'
  rw [putIn_eq u hf]
  refine ⟨?_, fun f hf' => ?_⟩
  · have := dotb (·.1) fun s hs => hs.1
    have h3 := hub.1
    show (u.1 + dot u.2 form (·.1)).natAbs ≤ _
    omega
  · obtain ⟨k, _, rfl⟩ := List.mem_map.mp hf'
    have := dotb (fun s => s.2.getD k 0) fun s hs => by
      by_cases hk : k < s.2.length
      · rw [getD_of hk]; exact hs.2 _ (List.getElem_mem hk)
      · rw [List.getD_eq_getElem?_getD, List.getElem?_eq_none (by omega)]; exact Nat.zero_le _
    omega
theorem Bc_orders {h : Ho} {a j : Nat} (g : HGen h a j) (hw : h.acc.length ≤ 5) : ∀ (o : List Nat) (B : Nat) (form : List Sm), 1 ≤ B → FormOk h.acc.length form → (∀ i ∈ o, i < h.jobs.length) → (∀ s ∈ form, Bc B s) → ∀ t ∈ o.foldl (fun form j => behind form (jobForm h j)) form, Bc (3840 ^ o.length * B) t
  | [], B, form, _, _, _, h1 => by simpa using h1
  | i :: o, B, form, hB, hf, ho, h1 => by
    have h2 := Bc_behind hf hw (g.bc (ho i List.mem_cons_self)) h1 hB
    have := Bc_orders g hw o (3840 * B) _ (by omega) (behind_form hf (jobForm_len h i)) (fun k hk => ho k (List.mem_cons_of_mem _ hk)) h2
    rw [List.foldl_cons, List.length_cons, Nat.pow_succ, Nat.mul_assoc]
    exact this
theorem HGen.orders {h : Ho} {a j : Nat} (g : HGen h a j) (hw : h.acc.length ≤ 5) {o : List Nat} (ho : ∀ i ∈ o, i < h.jobs.length) (hl : o.length ≤ 5) : ∀ t ∈ orderForm h o, Bc 1000000000000000000 t := by
  intro t ht
  have := Bc_orders g hw o 1 _ (Nat.le_refl _) (begun_form _) ho (fun s hs => by
    obtain ⟨b, _, rfl⟩ := List.mem_map.mp hs
    exact Bc_single _ _) t ht
  refine this.up ?_
  calc 3840 ^ o.length * 1 ≤ 3840 ^ 5 * 1 := Nat.mul_le_mul_right _ (Nat.pow_le_pow_right (by decide) hl)
    _ ≤ 1000000000000000000 := by decide
end PL.K

namespace PL.K
open PySem
/-- is_number(value) -/
def b_is_number : Sms :=
  .cons (.ret (.and (.prm (.isi "int") (.cons (.var 0) .nil)) (.not (.prm (.isi "bool") (.cons (.var 0) .nil))))) <| 
  .nil
/-- is_index(value, size) -/
def b_is_index : Sms :=
  .cons (.ret (.and (.call "is_number" (.cons (.var 0) .nil)) (.cmp2 .LtE .Lt (.cst (.int 0)) (.var 0) (.var 1)))) <| 
  .nil
/-- is_numbers(value) -/
def b_is_numbers : Sms :=
  .cons (.ifs (.not (.prm (.isi "list") (.cons (.var 0) .nil))) (
    .cons (.ret (.cst (.bool false))) <| 
    .nil) .nil) <| 
  .cons (.fr (.nm 1) (.ex (.var 0)) (
    .cons (.ifs (.not (.call "is_number" (.cons (.var 1) .nil))) (
      .cons (.ret (.cst (.bool false))) <| 
      .nil) .nil) <| 
    .nil)) <| 
  .cons (.ret (.cst (.bool true))) <| 
  .nil
/-- is_number_list(value, count) -/
def b_is_number_list : Sms :=
  .cons (.ret (.and (.call "is_numbers" (.cons (.var 0) .nil)) (.prm (.cmp .Eq) (.cons (.prm (.blt .len) (.cons (.var 0) .nil)) (.cons (.var 1) .nil))))) <| 
  .nil
/-- is_tagged(paper, tag, length) -/
def b_is_tagged : Sms :=
  .cons (.ifs (.or (.not (.prm (.isi "tuple") (.cons (.var 0) .nil))) (.prm (.cmp .NotEq) (.cons (.prm (.blt .len) (.cons (.var 0) .nil)) (.cons (.var 2) .nil)))) (
    .cons (.ret (.cst (.bool false))) <| 
    .nil) .nil) <| 
  .cons (.ret (.and (.prm (.isi "str") (.cons (.prm .idx (.cons (.var 0) (.cons (.cst (.int 0)) .nil))) .nil)) (.prm (.cmp .Eq) (.cons (.prm .idx (.cons (.var 0) (.cons (.cst (.int 0)) .nil))) (.cons (.var 1) .nil))))) <| 
  .nil
/-- parts_of(statement) -/
def b_parts_of : Sms :=
  .cons (.ifs (.prm (.cmp .Eq) (.cons (.prm .idx (.cons (.var 0) (.cons (.cst (.int 0)) .nil))) (.cons (.cst (.str "if")) .nil))) (
    .cons (.ret (.lst (.cons (.prm .idx (.cons (.var 0) (.cons (.cst (.int 2)) .nil))) (.cons (.prm .idx (.cons (.var 0) (.cons (.cst (.int 3)) .nil))) .nil)))) <| 
    .nil) .nil) <| 
  .cons (.ret (.lst .nil)) <| 
  .nil
/-- local_names(statement) -/
def b_local_names : Sms :=
  .cons (.ifs (.prm (.cmp .In) (.cons (.prm .idx (.cons (.var 0) (.cons (.cst (.int 0)) .nil))) (.cons (.glb "SUMS") .nil))) (
    .cons (.ret (.lst (.cons (.prm .idx (.cons (.var 0) (.cons (.cst (.int 1)) .nil))) (.cons (.prm .idx (.cons (.var 0) (.cons (.cst (.int 2)) .nil))) (.cons (.prm .idx (.cons (.var 0) (.cons (.cst (.int 3)) .nil))) .nil))))) <| 
    .nil) .nil) <| 
  .cons (.ifs (.prm (.cmp .Eq) (.cons (.prm .idx (.cons (.var 0) (.cons (.cst (.int 0)) .nil))) (.cons (.cst (.str "copy")) .nil))) (
    .cons (.ret (.lst (.cons (.prm .idx (.cons (.var 0) (.cons (.cst (.int 1)) .nil))) (.cons (.prm .idx (.cons (.var 0) (.cons (.cst (.int 2)) .nil))) .nil)))) <| 
    .nil) .nil) <| 
  .cons (.ifs (.prm (.cmp .Eq) (.cons (.prm .idx (.cons (.var 0) (.cons (.cst (.int 0)) .nil))) (.cons (.cst (.str "write")) .nil))) (
    .cons (.ret (.lst (.cons (.prm .idx (.cons (.var 0) (.cons (.cst (.int 2)) .nil))) .nil))) <| 
    .nil) .nil) <| 
  .cons (.ifs (.prm (.cmp .Eq) (.cons (.prm .idx (.cons (.var 0) (.cons (.cst (.int 0)) .nil))) (.cons (.cst (.str "skip")) .nil))) (
    .cons (.ret (.lst .nil)) <| 
    .nil) .nil) <| 
  .cons (.ret (.lst (.cons (.prm .idx (.cons (.var 0) (.cons (.cst (.int 1)) .nil))) .nil))) <| 
  .nil
/-- statements_in(body) -/
def b_statements_in : Sms :=
  .cons (.set 1 (.lst .nil)) <| 
  .cons (.fr (.nm 2) (.ex (.var 0)) (
    .cons (.exp (.mut .append 1 (.cons (.var 2) .nil))) <| 
    .cons (.fr (.nm 3) (.ex (.call "parts_of" (.cons (.var 2) .nil))) (
      .cons (.exp (.mut .extend 1 (.cons (.call "statements_in" (.cons (.var 3) .nil)) .nil))) <| 
      .nil)) <| 
    .nil)) <| 
  .cons (.ret (.var 1)) <| 
  .nil
/-- locals_of(house, job) -/
def b_locals_of : Sms :=
  .cons (.set 2 (.lst .nil)) <| 
  .cons (.set 3 (.prm .dnew .nil)) <| 
  .cons (.fr (.nm 4) (.ex (.call "statements_in" (.cons (.prm .idx (.cons (.prm .idx (.cons (.prm .idx (.cons (.var 0) (.cons (.cst (.int 1)) .nil))) (.cons (.var 1) .nil))) (.cons (.cst (.int 2)) .nil))) .nil))) (
    .cons (.fr (.nm 5) (.ex (.call "local_names" (.cons (.var 4) .nil))) (
      .cons (.ifs (.prm (.cmp .NotIn) (.cons (.var 5) (.cons (.var 3) .nil))) (
        .cons (.sto 3 (.var 5) (.cst (.bool true))) <| 
        .cons (.exp (.mut .append 2 (.cons (.var 5) .nil))) <| 
        .nil) .nil) <| 
      .nil)) <| 
    .nil)) <| 
  .cons (.ret (.var 2)) <| 
  .nil
/-- account_numbers(house) -/
def b_account_numbers : Sms :=
  .cons (.ret (.dc (.nm 1) (.rng (.cons (.prm (.blt .len) (.cons (.prm .idx (.cons (.var 0) (.cons (.cst (.int 0)) .nil))) .nil)) .nil)) .nil (.prm .idx (.cons (.prm .idx (.cons (.prm .idx (.cons (.var 0) (.cons (.cst (.int 0)) .nil))) (.cons (.var 1) .nil))) (.cons (.cst (.int 0)) .nil))) (.var 1) [1])) <| 
  .nil
/-- zero_sum(width) -/
def b_zero_sum : Sms :=
  .cons (.ret (.tup (.cons (.cst (.int 0)) (.cons (.prm (.bin .Mult) (.cons (.tup (.cons (.cst (.int 0)) .nil)) (.cons (.var 0) .nil))) .nil)))) <| 
  .nil
/-- single_sum(width, account) -/
def b_single_sum : Sms :=
  .cons (.ret (.tup (.cons (.cst (.int 0)) (.cons (.prm (.bin .Add) (.cons (.prm (.bin .Add) (.cons (.prm (.bin .Mult) (.cons (.tup (.cons (.cst (.int 0)) .nil)) (.cons (.var 1) .nil))) (.cons (.tup (.cons (.cst (.int 1)) .nil)) .nil))) (.cons (.prm (.bin .Mult) (.cons (.tup (.cons (.cst (.int 0)) .nil)) (.cons (.prm (.bin .Sub) (.cons (.prm (.bin .Sub) (.cons (.var 0) (.cons (.var 1) .nil))) (.cons (.cst (.int 1)) .nil))) .nil))) .nil))) .nil)))) <| 
  .nil
/-- plus(one, other, times) -/
def b_plus : Sms :=
  .cons (.set 3 (.prm (.blt .tuple) (.cons (.lc (.nm 4) (.rng (.cons (.prm (.blt .len) (.cons (.prm .idx (.cons (.var 0) (.cons (.cst (.int 1)) .nil))) .nil)) .nil)) .nil (.prm (.bin .Add) (.cons (.prm .idx (.cons (.prm .idx (.cons (.var 0) (.cons (.cst (.int 1)) .nil))) (.cons (.var 4) .nil))) (.cons (.prm (.bin .Mult) (.cons (.var 2) (.cons (.prm .idx (.cons (.prm .idx (.cons (.var 1) (.cons (.cst (.int 1)) .nil))) (.cons (.var 4) .nil))) .nil))) .nil))) [4]) .nil))) <| 
  .cons (.ret (.tup (.cons (.prm (.bin .Add) (.cons (.prm .idx (.cons (.var 0) (.cons (.cst (.int 0)) .nil))) (.cons (.prm (.bin .Mult) (.cons (.var 2) (.cons (.prm .idx (.cons (.var 1) (.cons (.cst (.int 0)) .nil))) .nil))) .nil))) (.cons (.var 3) .nil)))) <| 
  .nil
/-- begun_form(width) -/
def b_begun_form : Sms :=
  .cons (.ret (.lc (.nm 1) (.rng (.cons (.var 0) .nil)) .nil (.call "single_sum" (.cons (.var 0) (.cons (.var 1) .nil))) [1])) <| 
  .nil
/-- after_linear(names, numbers, locals_now, form, statement) -/
def b_after_linear : Sms :=
  .cons (.ifs (.prm (.cmp .Eq) (.cons (.prm .idx (.cons (.var 4) (.cons (.cst (.int 0)) .nil))) (.cons (.cst (.str "read")) .nil))) (
    .cons (.sto 2 (.mth .index (.var 0) (.cons (.prm .idx (.cons (.var 4) (.cons (.cst (.int 1)) .nil))) .nil)) (.prm .idx (.cons (.var 3) (.cons (.prm .idx (.cons (.var 1) (.cons (.prm .idx (.cons (.var 4) (.cons (.cst (.int 2)) .nil))) .nil))) .nil)))) <| 
    .nil) (
    .cons (.ifs (.prm (.cmp .Eq) (.cons (.prm .idx (.cons (.var 4) (.cons (.cst (.int 0)) .nil))) (.cons (.cst (.str "write")) .nil))) (
      .cons (.sto 3 (.prm .idx (.cons (.var 1) (.cons (.prm .idx (.cons (.var 4) (.cons (.cst (.int 1)) .nil))) .nil))) (.prm .idx (.cons (.var 2) (.cons (.mth .index (.var 0) (.cons (.prm .idx (.cons (.var 4) (.cons (.cst (.int 2)) .nil))) .nil)) .nil)))) <| 
      .nil) (
      .cons (.ifs (.prm (.cmp .Eq) (.cons (.prm .idx (.cons (.var 4) (.cons (.cst (.int 0)) .nil))) (.cons (.cst (.str "num")) .nil))) (
        .cons (.sto 2 (.mth .index (.var 0) (.cons (.prm .idx (.cons (.var 4) (.cons (.cst (.int 1)) .nil))) .nil)) (.tup (.cons (.prm .idx (.cons (.var 4) (.cons (.cst (.int 2)) .nil))) (.cons (.prm .idx (.cons (.call "zero_sum" (.cons (.prm (.blt .len) (.cons (.var 3) .nil)) .nil)) (.cons (.cst (.int 1)) .nil))) .nil)))) <| 
        .nil) (
        .cons (.ifs (.prm (.cmp .Eq) (.cons (.prm .idx (.cons (.var 4) (.cons (.cst (.int 0)) .nil))) (.cons (.cst (.str "copy")) .nil))) (
          .cons (.sto 2 (.mth .index (.var 0) (.cons (.prm .idx (.cons (.var 4) (.cons (.cst (.int 1)) .nil))) .nil)) (.prm .idx (.cons (.var 2) (.cons (.mth .index (.var 0) (.cons (.prm .idx (.cons (.var 4) (.cons (.cst (.int 2)) .nil))) .nil)) .nil)))) <| 
          .nil) (
          .cons (.ifs (.prm (.cmp .In) (.cons (.prm .idx (.cons (.var 4) (.cons (.cst (.int 0)) .nil))) (.cons (.tup (.cons (.cst (.str "add")) (.cons (.cst (.str "sub")) .nil))) .nil))) (
            .cons (.set 5 (.cst (.int 1))) <| 
            .cons (.ifs (.prm (.cmp .Eq) (.cons (.prm .idx (.cons (.var 4) (.cons (.cst (.int 0)) .nil))) (.cons (.cst (.str "sub")) .nil))) (
              .cons (.set 5 (.prm .neg (.cons (.cst (.int 1)) .nil))) <| 
              .nil) .nil) <| 
            .cons (.par [6, 7] (.cons (.prm .idx (.cons (.var 2) (.cons (.mth .index (.var 0) (.cons (.prm .idx (.cons (.var 4) (.cons (.cst (.int 2)) .nil))) .nil)) .nil))) (.cons (.prm .idx (.cons (.var 2) (.cons (.mth .index (.var 0) (.cons (.prm .idx (.cons (.var 4) (.cons (.cst (.int 3)) .nil))) .nil)) .nil))) .nil))) <| 
            .cons (.sto 2 (.mth .index (.var 0) (.cons (.prm .idx (.cons (.var 4) (.cons (.cst (.int 1)) .nil))) .nil)) (.call "plus" (.cons (.var 6) (.cons (.var 7) (.cons (.var 5) .nil))))) <| 
            .nil) .nil) <| 
          .nil)) <| 
        .nil)) <| 
      .nil)) <| 
    .nil)) <| 
  .nil
/-- form_of(house, job) -/
def b_form_of : Sms :=
  .cons (.set 2 (.prm (.blt .len) (.cons (.prm .idx (.cons (.var 0) (.cons (.cst (.int 0)) .nil))) .nil))) <| 
  .cons (.set 3 (.call "locals_of" (.cons (.var 0) (.cons (.var 1) .nil)))) <| 
  .cons (.set 4 (.call "account_numbers" (.cons (.var 0) .nil))) <| 
  .cons (.set 5 (.lc (.nm 8) (.ex (.var 3)) .nil (.call "zero_sum" (.cons (.var 2) .nil)) [8])) <| 
  .cons (.set 6 (.call "begun_form" (.cons (.var 2) .nil))) <| 
  .cons (.fr (.nm 7) (.ex (.prm .idx (.cons (.prm .idx (.cons (.prm .idx (.cons (.var 0) (.cons (.cst (.int 1)) .nil))) (.cons (.var 1) .nil))) (.cons (.cst (.int 2)) .nil)))) (
    .cons (.exp (.call "after_linear" (.cons (.var 3) (.cons (.var 4) (.cons (.var 5) (.cons (.var 6) (.cons (.var 7) .nil))))))) <| 
    .nil)) <| 
  .cons (.ret (.var 6)) <| 
  .nil
/-- put_in(total, form) -/
def b_put_in : Sms :=
  .cons (.set 2 (.tup (.cons (.prm .idx (.cons (.var 0) (.cons (.cst (.int 0)) .nil))) (.cons (.prm .idx (.cons (.call "zero_sum" (.cons (.prm (.blt .len) (.cons (.var 1) .nil)) .nil)) (.cons (.cst (.int 1)) .nil))) .nil)))) <| 
  .cons (.fr (.nm 3) (.rng (.cons (.prm (.blt .len) (.cons (.var 1) .nil)) .nil)) (
    .cons (.set 2 (.call "plus" (.cons (.var 2) (.cons (.prm .idx (.cons (.var 1) (.cons (.var 3) .nil))) (.cons (.prm .idx (.cons (.prm .idx (.cons (.var 0) (.cons (.cst (.int 1)) .nil))) (.cons (.var 3) .nil))) .nil))))) <| 
    .nil)) <| 
  .cons (.ret (.var 2)) <| 
  .nil
/-- behind_form(form, following) -/
def b_behind_form : Sms :=
  .cons (.ret (.lc (.nm 2) (.ex (.var 1)) .nil (.call "put_in" (.cons (.var 2) (.cons (.var 0) .nil))) [2])) <| 
  .nil
/-- order_form(house, order) -/
def b_order_form : Sms :=
  .cons (.set 2 (.call "begun_form" (.cons (.prm (.blt .len) (.cons (.prm .idx (.cons (.var 0) (.cons (.cst (.int 0)) .nil))) .nil)) .nil))) <| 
  .cons (.fr (.nm 3) (.ex (.var 1)) (
    .cons (.set 2 (.call "behind_form" (.cons (.var 2) (.cons (.call "form_of" (.cons (.var 0) (.cons (.var 3) .nil))) .nil)))) <| 
    .nil)) <| 
  .cons (.ret (.var 2)) <| 
  .nil
/-- number_by(total, numbers) -/
def b_number_by : Sms :=
  .cons (.ret (.prm (.bin .Add) (.cons (.prm .idx (.cons (.var 0) (.cons (.cst (.int 0)) .nil))) (.cons (.prm (.blt .sum) (.cons (.lc (.nm 2) (.rng (.cons (.prm (.blt .len) (.cons (.var 1) .nil)) .nil)) .nil (.prm (.bin .Mult) (.cons (.prm .idx (.cons (.prm .idx (.cons (.var 0) (.cons (.cst (.int 1)) .nil))) (.cons (.var 2) .nil))) (.cons (.prm .idx (.cons (.var 1) (.cons (.var 2) .nil))) .nil))) [2]) .nil)) .nil)))) <| 
  .nil
/-- unit_numbers(width, account) -/
def b_unit_numbers : Sms :=
  .cons (.ret (.lc (.nm 2) (.rng (.cons (.var 0) .nil)) .nil (.prm (.blt .int) (.cons (.prm (.cmp .Eq) (.cons (.var 2) (.cons (.var 1) .nil))) .nil)) [2])) <| 
  .nil
/-- numbers_apart(one, other) -/
def b_numbers_apart : Sms :=
  .cons (.set 2 (.prm (.blt .len) (.cons (.prm .idx (.cons (.var 0) (.cons (.cst (.int 1)) .nil))) .nil))) <| 
  .cons (.ifs (.prm (.cmp .NotEq) (.cons (.prm .idx (.cons (.var 0) (.cons (.cst (.int 0)) .nil))) (.cons (.prm .idx (.cons (.var 1) (.cons (.cst (.int 0)) .nil))) .nil))) (
    .cons (.ret (.prm (.bin .Mult) (.cons (.lst (.cons (.cst (.int 0)) .nil)) (.cons (.var 2) .nil)))) <| 
    .nil) .nil) <| 
  .cons (.fr (.nm 3) (.rng (.cons (.var 2) .nil)) (
    .cons (.ifs (.prm (.cmp .NotEq) (.cons (.prm .idx (.cons (.prm .idx (.cons (.var 0) (.cons (.cst (.int 1)) .nil))) (.cons (.var 3) .nil))) (.cons (.prm .idx (.cons (.prm .idx (.cons (.var 1) (.cons (.cst (.int 1)) .nil))) (.cons (.var 3) .nil))) .nil))) (
      .cons (.ret (.call "unit_numbers" (.cons (.var 2) (.cons (.var 3) .nil)))) <| 
      .nil) .nil) <| 
    .nil)) <| 
  .cons (.ret (.prm (.bin .Mult) (.cons (.lst (.cons (.cst (.int 0)) .nil)) (.cons (.var 2) .nil)))) <| 
  .nil
/-- orders_alike(house, order, other) -/
def b_orders_alike : Sms :=
  .cons (.par [4, 5] (.cons (.call "order_form" (.cons (.var 0) (.cons (.var 1) .nil))) (.cons (.call "order_form" (.cons (.var 0) (.cons (.var 2) .nil))) .nil))) <| 
  .cons (.fr (.nm 3) (.rng (.cons (.prm (.blt .len) (.cons (.var 4) .nil)) .nil)) (
    .cons (.ifs (.prm (.cmp .NotEq) (.cons (.prm .idx (.cons (.var 4) (.cons (.var 3) .nil))) (.cons (.prm .idx (.cons (.var 5) (.cons (.var 3) .nil))) .nil))) (
      .cons (.ret (.tupN (.cons (.cst (.str "unlike")) (.cons (.call "numbers_apart" (.cons (.prm .idx (.cons (.var 4) (.cons (.var 3) .nil))) (.cons (.prm .idx (.cons (.var 5) (.cons (.var 3) .nil))) .nil))) (.cons (.var 3) .nil))))) <| 
      .nil) .nil) <| 
    .nil)) <| 
  .cons (.ret (.tupN (.cons (.cst (.str "alike")) (.cons (.var 4) .nil)))) <| 
  .nil
/-- shows_unlike(house, order, other, paper) -/
def b_shows_unlike : Sms :=
  .cons (.set 4 (.prm (.blt .len) (.cons (.prm .idx (.cons (.var 0) (.cons (.cst (.int 0)) .nil))) .nil))) <| 
  .cons (.ifs (.or (.not (.call "is_tagged" (.cons (.var 3) (.cons (.cst (.str "unlike")) (.cons (.cst (.int 3)) .nil))))) (.or (.not (.call "is_number_list" (.cons (.prm .idx (.cons (.var 3) (.cons (.cst (.int 1)) .nil))) (.cons (.var 4) .nil)))) (.not (.call "is_index" (.cons (.prm .idx (.cons (.var 3) (.cons (.cst (.int 2)) .nil))) (.cons (.var 4) .nil)))))) (
    .cons (.ret (.cst (.bool false))) <| 
    .nil) .nil) <| 
  .cons (.par [5, 6] (.cons (.call "order_form" (.cons (.var 0) (.cons (.var 1) .nil))) (.cons (.call "order_form" (.cons (.var 0) (.cons (.var 2) .nil))) .nil))) <| 
  .cons (.ret (.prm (.cmp .NotEq) (.cons (.call "number_by" (.cons (.prm .idx (.cons (.var 5) (.cons (.prm .idx (.cons (.var 3) (.cons (.cst (.int 2)) .nil))) .nil))) (.cons (.prm .idx (.cons (.var 3) (.cons (.cst (.int 1)) .nil))) .nil))) (.cons (.call "number_by" (.cons (.prm .idx (.cons (.var 6) (.cons (.prm .idx (.cons (.var 3) (.cons (.cst (.int 2)) .nil))) .nil))) (.cons (.prm .idx (.cons (.var 3) (.cons (.cst (.int 1)) .nil))) .nil))) .nil)))) <| 
  .nil
/-- _law_draws(script, many) -/
def b__law_draws : Sms :=
  .cons (.set 2 (.lst .nil)) <| 
  .cons (.fr (.nm 3) (.ex (.prm (.slc false true) (.cons (.var 0) (.cons (.cst (.int 63)) .nil)))) (
    .cons (.set 5 (.prm (.blt .abs) (.cons (.prm (.blt .int) (.cons (.var 3) .nil)) .nil))) <| 
    .cons (.ifs (.prm (.cmp .GtE) (.cons (.var 5) (.cons (.prm (.bin .Pow) (.cons (.cst (.int 10)) (.cons (.cst (.int 18)) .nil))) .nil))) (
      .cons (.fr (.nm 4) (.rng (.cons (.cst (.int 60)) .nil)) (
        .cons (.ifs (.prm (.cmp .Gt) (.cons (.var 5) (.cons (.cst (.int 0)) .nil))) (
          .cons (.exp (.mut .append 2 (.cons (.prm (.bin .Mod) (.cons (.var 5) (.cons (.cst (.int 1000003)) .nil))) .nil))) <| 
          .cons (.set 5 (.prm (.bin .FloorDiv) (.cons (.var 5) (.cons (.cst (.int 1000003)) .nil)))) <| 
          .nil) .nil) <| 
        .nil)) <| 
      .nil) (
      .cons (.set 6 (.prm (.bin .Mod) (.cons (.prm (.bin .Add) (.cons (.prm (.bin .Add) (.cons (.prm (.bin .Mult) (.cons (.var 5) (.cons (.cst (.int 48271)) .nil))) (.cons (.prm (.bin .Mult) (.cons (.cst (.int 7)) (.cons (.prm (.blt .len) (.cons (.var 2) .nil)) .nil))) .nil))) (.cons (.cst (.int 11)) .nil))) (.cons (.cst (.int 2147483647)) .nil)))) <| 
      .cons (.fr (.nm 4) (.rng (.cons (.cst (.int 4)) .nil)) (
        .cons (.set 6 (.prm (.bin .Mod) (.cons (.prm (.bin .Add) (.cons (.prm (.bin .Add) (.cons (.prm (.bin .Add) (.cons (.prm (.bin .Mult) (.cons (.var 6) (.cons (.cst (.int 69621)) .nil))) (.cons (.prm (.bin .FloorDiv) (.cons (.var 6) (.cons (.cst (.int 65536)) .nil))) .nil))) (.cons (.prm (.bin .Mult) (.cons (.cst (.int 13)) (.cons (.var 4) .nil))) .nil))) (.cons (.cst (.int 5)) .nil))) (.cons (.cst (.int 2147483629)) .nil)))) <| 
        .cons (.exp (.mut .append 2 (.cons (.prm (.bin .Mod) (.cons (.prm (.bin .FloorDiv) (.cons (.var 6) (.cons (.cst (.int 8)) .nil))) (.cons (.cst (.int 1000003)) .nil))) .nil))) <| 
        .nil)) <| 
      .nil)) <| 
    .nil)) <| 
  .cons (.fr (.nm 4) (.rng (.cons (.var 1) .nil)) (
    .cons (.ifs (.prm (.cmp .Lt) (.cons (.prm (.blt .len) (.cons (.var 2) .nil)) (.cons (.var 1) .nil))) (
      .cons (.set 7 (.cst (.int 0))) <| 
      .cons (.ifs (.prm (.cmp .Gt) (.cons (.prm (.blt .len) (.cons (.var 2) .nil)) (.cons (.cst (.int 0)) .nil))) (
        .cons (.set 7 (.prm .idx (.cons (.var 2) (.cons (.prm (.bin .Mod) (.cons (.var 4) (.cons (.prm (.blt .len) (.cons (.var 2) .nil)) .nil))) .nil)))) <| 
        .nil) .nil) <| 
      .cons (.exp (.mut .append 2 (.cons (.prm (.bin .Mod) (.cons (.prm (.bin .Add) (.cons (.prm (.bin .Add) (.cons (.prm (.bin .Mult) (.cons (.var 7) (.cons (.cst (.int 16807)) .nil))) (.cons (.prm (.bin .Mult) (.cons (.cst (.int 31)) (.cons (.prm (.blt .len) (.cons (.var 2) .nil)) .nil))) .nil))) (.cons (.cst (.int 17)) .nil))) (.cons (.cst (.int 1000003)) .nil))) .nil))) <| 
      .nil) .nil) <| 
    .nil)) <| 
  .cons (.ret (.prm (.slc false true) (.cons (.var 2) (.cons (.var 1) .nil)))) <| 
  .nil
/-- _law_cell(draws, k) -/
def b__law_cell : Sms :=
  .cons (.ret (.prm (.bin .FloorDiv) (.cons (.prm .idx (.cons (.var 0) (.cons (.prm (.bin .Mod) (.cons (.var 1) (.cons (.prm (.blt .len) (.cons (.var 0) .nil)) .nil))) .nil))) (.cons (.prm (.bin .Add) (.cons (.cst (.int 1)) (.cons (.prm (.bin .Mod) (.cons (.prm (.bin .FloorDiv) (.cons (.var 1) (.cons (.prm (.blt .len) (.cons (.var 0) .nil)) .nil))) (.cons (.cst (.int 7)) .nil))) .nil))) .nil)))) <| 
  .nil
/-- _law_rule(draws, at) -/
def b__law_rule : Sms :=
  .cons (.ret (.prm .idx (.cons (.lst (.cons (.cst (.str "latest")) (.cons (.cst (.str "picture")) (.cons (.cst (.str "alone")) (.cons (.cst (.str "latest")) (.cons (.cst (.str "picture")) .nil)))))) (.cons (.prm (.bin .Mod) (.cons (.prm (.bin .FloorDiv) (.cons (.call "_law_cell" (.cons (.var 0) (.cons (.var 1) .nil))) (.cons (.cst (.int 3)) .nil))) (.cons (.cst (.int 5)) .nil))) .nil)))) <| 
  .nil
/-- _law_is_number(value) -/
def b__law_is_number : Sms :=
  .cons (.ret (.and (.prm (.isi "int") (.cons (.var 0) .nil)) (.not (.prm (.isi "bool") (.cons (.var 0) .nil))))) <| 
  .nil
/-- _law_same(told, due) -/
def b__law_same : Sms :=
  .cons (.ret (.and (.prm (.cmp .Eq) (.cons (.var 0) (.cons (.var 1) .nil))) (.prm (.cmp .Eq) (.cons (.prm (.blt .repr) (.cons (.var 0) .nil)) (.cons (.prm (.blt .repr) (.cons (.var 1) .nil)) .nil))))) <| 
  .nil
/-- _law_account(house, name) -/
def b__law_account : Sms :=
  .cons (.ret (.mth .index (.lc (.tp [2, 3]) (.ex (.prm .idx (.cons (.var 0) (.cons (.cst (.int 0)) .nil)))) .nil (.var 2) [2, 3]) (.cons (.var 1) .nil))) <| 
  .nil
/-- _law_sum(numbers, factors) -/
def b__law_sum : Sms :=
  .cons (.ret (.prm (.blt .sum) (.cons (.lc (.nm 2) (.rng (.cons (.prm (.blt .len) (.cons (.var 1) .nil)) .nil)) .nil (.prm (.bin .Mult) (.cons (.prm .idx (.cons (.var 0) (.cons (.var 2) .nil))) (.cons (.prm .idx (.cons (.var 1) (.cons (.var 2) .nil))) .nil))) [2]) .nil))) <| 
  .nil
/-- _law_number(draws, at) -/
def b__law_number : Sms :=
  .cons (.set 2 (.call "_law_cell" (.cons (.var 0) (.cons (.var 1) .nil)))) <| 
  .cons (.ifs (.prm (.cmp .Eq) (.cons (.prm (.bin .Mod) (.cons (.var 2) (.cons (.cst (.int 7)) .nil))) (.cons (.cst (.int 3)) .nil))) (
    .cons (.ret (.prm (.bin .Add) (.cons (.prm (.bin .Mult) (.cons (.prm (.bin .Sub) (.cons (.prm (.bin .FloorDiv) (.cons (.var 2) (.cons (.cst (.int 7)) .nil))) (.cons (.cst (.int 70000)) .nil))) (.cons (.prm (.bin .Pow) (.cons (.cst (.int 10)) (.cons (.cst (.int 30)) .nil))) .nil))) (.cons (.var 2) .nil)))) <| 
    .nil) .nil) <| 
  .cons (.ret (.prm (.bin .Sub) (.cons (.prm (.bin .Mod) (.cons (.prm (.bin .FloorDiv) (.cons (.var 2) (.cons (.cst (.int 7)) .nil))) (.cons (.cst (.int 23)) .nil))) (.cons (.cst (.int 11)) .nil)))) <| 
  .nil
/-- _law_linear_one(draws, at, accounts) -/
def b__law_linear_one : Sms :=
  .cons (.set 3 (.call "_law_cell" (.cons (.var 0) (.cons (.var 1) .nil)))) <| 
  .cons (.setT [6, 7, 8] (.lc (.nm 9) (.rng (.cons (.cst (.int 3)) .nil)) .nil (.prm .idx (.cons (.lst (.cons (.cst (.str "va")) (.cons (.cst (.str "vb")) (.cons (.cst (.str "vc")) .nil)))) (.cons (.prm (.bin .Mod) (.cons (.prm (.bin .FloorDiv) (.cons (.var 3) (.cons (.prm .idx (.cons (.lst (.cons (.cst (.int 7)) (.cons (.cst (.int 21)) (.cons (.cst (.int 63)) .nil)))) (.cons (.var 9) .nil))) .nil))) (.cons (.cst (.int 3)) .nil))) .nil))) [9])) <| 
  .cons (.set 4 (.prm .idx (.cons (.lst (.cons (.cst (.str "xa")) (.cons (.cst (.str "xb")) (.cons (.cst (.str "xc")) (.cons (.cst (.str "xd")) (.cons (.cst (.str "xe")) .nil)))))) (.cons (.prm (.bin .Mod) (.cons (.prm (.bin .FloorDiv) (.cons (.var 3) (.cons (.cst (.int 11)) .nil))) (.cons (.var 2) .nil))) .nil)))) <| 
  .cons (.set 5 (.prm (.bin .Mod) (.cons (.var 3) (.cons (.cst (.int 11)) .nil)))) <| 
  .cons (.ifs (.prm (.cmp .Lt) (.cons (.var 5) (.cons (.cst (.int 3)) .nil))) (
    .cons (.ret (.tup (.cons (.cst (.str "read")) (.cons (.var 6) (.cons (.var 4) .nil))))) <| 
    .nil) .nil) <| 
  .cons (.ifs (.prm (.cmp .Lt) (.cons (.var 5) (.cons (.cst (.int 6)) .nil))) (
    .cons (.ret (.tup (.cons (.cst (.str "write")) (.cons (.var 4) (.cons (.var 6) .nil))))) <| 
    .nil) .nil) <| 
  .cons (.ifs (.prm (.cmp .Lt) (.cons (.var 5) (.cons (.cst (.int 8)) .nil))) (
    .cons (.ret (.tup (.cons (.prm .idx (.cons (.lst (.cons (.cst (.str "add")) (.cons (.cst (.str "sub")) .nil))) (.cons (.prm (.bin .Sub) (.cons (.var 5) (.cons (.cst (.int 6)) .nil))) .nil))) (.cons (.var 6) (.cons (.var 7) (.cons (.var 8) .nil)))))) <| 
    .nil) .nil) <| 
  .cons (.ret (.prm .idx (.cons (.lst (.cons (.tup (.cons (.cst (.str "num")) (.cons (.var 6) (.cons (.prm (.bin .Sub) (.cons (.prm (.bin .Mod) (.cons (.prm (.bin .FloorDiv) (.cons (.var 3) (.cons (.cst (.int 13)) .nil))) (.cons (.cst (.int 9)) .nil))) (.cons (.cst (.int 3)) .nil))) .nil)))) (.cons (.tup (.cons (.cst (.str "copy")) (.cons (.var 6) (.cons (.var 7) .nil)))) (.cons (.prm .idx (.cons (.lst (.cons (.tup (.cons (.cst (.str "say")) (.cons (.var 6) .nil))) (.cons (.tup (.cons (.cst (.str "skip")) .nil)) .nil))) (.cons (.prm (.bin .Mod) (.cons (.prm (.bin .FloorDiv) (.cons (.var 3) (.cons (.cst (.int 5)) .nil))) (.cons (.cst (.int 2)) .nil))) .nil))) .nil)))) (.cons (.prm (.bin .Sub) (.cons (.var 5) (.cons (.cst (.int 8)) .nil))) .nil)))) <| 
  .nil
/-- _law_linear_body(draws, at, accounts, most, menu) -/
def b__law_linear_body : Sms :=
  .cons (.set 5 (.call "_law_cell" (.cons (.var 0) (.cons (.var 1) .nil)))) <| 
  .cons (.set 6 (.prm (.bin .Mod) (.cons (.prm (.bin .FloorDiv) (.cons (.var 5) (.cons (.cst (.int 8)) .nil))) (.cons (.var 2) .nil)))) <| 
  .cons (.set 7 (.prm (.bin .Mod) (.cons (.prm (.bin .Add) (.cons (.prm (.bin .Add) (.cons (.var 6) (.cons (.cst (.int 1)) .nil))) (.cons (.prm (.bin .Mod) (.cons (.prm (.bin .FloorDiv) (.cons (.var 5) (.cons (.cst (.int 40)) .nil))) (.cons (.prm (.blt .max2) (.cons (.cst (.int 1)) (.cons (.prm (.bin .Sub) (.cons (.var 2) (.cons (.cst (.int 1)) .nil))) .nil))) .nil))) .nil))) (.cons (.var 2) .nil)))) <| 
  .cons (.par [12, 13] (.cons (.prm .idx (.cons (.lst (.cons (.cst (.str "xa")) (.cons (.cst (.str "xb")) (.cons (.cst (.str "xc")) (.cons (.cst (.str "xd")) (.cons (.cst (.str "xe")) .nil)))))) (.cons (.var 6) .nil))) (.cons (.prm .idx (.cons (.lst (.cons (.cst (.str "xa")) (.cons (.cst (.str "xb")) (.cons (.cst (.str "xc")) (.cons (.cst (.str "xd")) (.cons (.cst (.str "xe")) .nil)))))) (.cons (.var 7) .nil))) .nil))) <| 
  .cons (.set 8 (.tup (.cons (.cst (.str "num")) (.cons (.cst (.str "vc")) (.cons (.prm (.bin .Sub) (.cons (.prm (.bin .Mod) (.cons (.prm (.bin .FloorDiv) (.cons (.var 5) (.cons (.cst (.int 200)) .nil))) (.cons (.cst (.int 7)) .nil))) (.cons (.cst (.int 3)) .nil))) .nil))))) <| 
  .cons (.set 9 (.tup (.cons (.tup (.cons (.cst (.str "read")) (.cons (.cst (.str "va")) (.cons (.var 12) .nil)))) (.cons (.tup (.cons (.cst (.str "read")) (.cons (.cst (.str "vb")) (.cons (.var 13) .nil)))) .nil)))) <| 
  .cons (.set 10 (.prm .idx (.cons (.var 4) (.cons (.prm (.bin .Mod) (.cons (.var 5) (.cons (.prm (.blt .len) (.cons (.var 4) .nil)) .nil))) .nil)))) <| 
  .cons (.ifs (.and (.prm (.cmp .Eq) (.cons (.var 2) (.cons (.cst (.int 1)) .nil))) (.prm (.cmp .In) (.cons (.var 10) (.cons (.lst (.cons (.cst (.int 1)) (.cons (.cst (.int 2)) (.cons (.cst (.int 3)) (.cons (.cst (.int 5)) .nil))))) .nil)))) (
    .cons (.set 10 (.cst (.int 0))) <| 
    .nil) .nil) <| 
  .cons (.set 11 (.lst (.cons (.tup (.cons (.tup (.cons (.cst (.str "read")) (.cons (.cst (.str "va")) (.cons (.var 12) .nil)))) (.cons (.var 8) (.cons (.tup (.cons (.cst (.str "add")) (.cons (.cst (.str "va")) (.cons (.cst (.str "va")) (.cons (.cst (.str "vc")) .nil))))) (.cons (.tup (.cons (.cst (.str "write")) (.cons (.var 12) (.cons (.cst (.str "va")) .nil)))) .nil))))) .nil))) <| 
  .cons (.exp (.mut .append 11 (.cons (.prm (.bin .Add) (.cons (.prm (.bin .Add) (.cons (.tup (.cons (.var 8) .nil)) (.cons (.var 9) .nil))) (.cons (.tup (.cons (.tup (.cons (.cst (.str "sub")) (.cons (.cst (.str "va")) (.cons (.cst (.str "va")) (.cons (.cst (.str "vc")) .nil))))) (.cons (.tup (.cons (.cst (.str "add")) (.cons (.cst (.str "vb")) (.cons (.cst (.str "vb")) (.cons (.cst (.str "vc")) .nil))))) (.cons (.tup (.cons (.cst (.str "write")) (.cons (.var 12) (.cons (.cst (.str "va")) .nil)))) (.cons (.tup (.cons (.cst (.str "write")) (.cons (.var 13) (.cons (.cst (.str "vb")) .nil)))) .nil))))) .nil))) .nil))) <| 
  .cons (.exp (.mut .append 11 (.cons (.prm (.bin .Add) (.cons (.var 9) (.cons (.tup (.cons (.tup (.cons (.cst (.str "add")) (.cons (.cst (.str "va")) (.cons (.cst (.str "va")) (.cons (.cst (.str "vb")) .nil))))) (.cons (.tup (.cons (.cst (.str "write")) (.cons (.var 12) (.cons (.cst (.str "va")) .nil)))) .nil))) .nil))) .nil))) <| 
  .cons (.exp (.mut .append 11 (.cons (.prm (.bin .Add) (.cons (.var 9) (.cons (.tup (.cons (.tup (.cons (.cst (.str "write")) (.cons (.var 12) (.cons (.cst (.str "vb")) .nil)))) (.cons (.tup (.cons (.cst (.str "write")) (.cons (.var 13) (.cons (.cst (.str "va")) .nil)))) .nil))) .nil))) .nil))) <| 
  .cons (.exp (.mut .append 11 (.cons (.tup (.cons (.tup (.cons (.cst (.str "read")) (.cons (.cst (.str "va")) (.cons (.var 12) .nil)))) (.cons (.tup (.cons (.cst (.str "add")) (.cons (.cst (.str "vb")) (.cons (.cst (.str "va")) (.cons (.cst (.str "va")) .nil))))) (.cons (.tup (.cons (.cst (.str "write")) (.cons (.var 12) (.cons (.cst (.str "vb")) .nil)))) .nil)))) .nil))) <| 
  .cons (.exp (.mut .append 11 (.cons (.tup (.cons (.tup (.cons (.cst (.str "read")) (.cons (.cst (.str "va")) (.cons (.var 12) .nil)))) (.cons (.tup (.cons (.cst (.str "write")) (.cons (.var 13) (.cons (.cst (.str "va")) .nil)))) (.cons (.tup (.cons (.cst (.str "say")) (.cons (.cst (.str "va")) .nil))) .nil)))) .nil))) <| 
  .cons (.exp (.mut .append 11 (.cons (.tup (.cons (.var 8) (.cons (.tup (.cons (.cst (.str "write")) (.cons (.var 12) (.cons (.cst (.str "vc")) .nil)))) (.cons (.tup (.cons (.cst (.str "skip")) .nil)) .nil)))) .nil))) <| 
  .cons (.exp (.mut .append 11 (.cons (.prm (.blt .tuple) (.cons (.lc (.nm 14) (.rng (.cons (.prm (.bin .Mod) (.cons (.prm (.bin .FloorDiv) (.cons (.var 5) (.cons (.cst (.int 9)) .nil))) (.cons (.prm (.bin .Add) (.cons (.var 3) (.cons (.cst (.int 1)) .nil))) .nil))) .nil)) .nil (.call "_law_linear_one" (.cons (.var 0) (.cons (.prm (.bin .Add) (.cons (.prm (.bin .Add) (.cons (.var 1) (.cons (.cst (.int 3)) .nil))) (.cons (.prm (.bin .Mult) (.cons (.cst (.int 5)) (.cons (.var 14) .nil))) .nil))) (.cons (.var 2) .nil)))) [14]) .nil)) .nil))) <| 
  .cons (.ret (.prm .idx (.cons (.var 11) (.cons (.var 10) .nil)))) <| 
  .nil
/-- _law_linear_house(draws, at, accounts, jobs, most, menu) -/
def b__law_linear_house : Sms :=
  .cons (.set 6 (.prm (.blt .tuple) (.cons (.lc (.nm 8) (.rng (.cons (.var 2) .nil)) .nil (.tup (.cons (.prm .idx (.cons (.lst (.cons (.cst (.str "xa")) (.cons (.cst (.str "xb")) (.cons (.cst (.str "xc")) (.cons (.cst (.str "xd")) (.cons (.cst (.str "xe")) .nil)))))) (.cons (.var 8) .nil))) (.cons (.call "_law_number" (.cons (.var 0) (.cons (.prm (.bin .Add) (.cons (.var 1) (.cons (.var 8) .nil))) .nil))) .nil))) [8]) .nil))) <| 
  .cons (.set 7 (.lst .nil)) <| 
  .cons (.fr (.nm 8) (.rng (.cons (.var 3) .nil)) (
    .cons (.set 9 (.call "_law_linear_body" (.cons (.var 0) (.cons (.prm (.bin .Add) (.cons (.prm (.bin .Add) (.cons (.var 1) (.cons (.cst (.int 7)) .nil))) (.cons (.prm (.bin .Mult) (.cons (.cst (.int 13)) (.cons (.var 8) .nil))) .nil))) (.cons (.var 2) (.cons (.var 4) (.cons (.var 5) .nil))))))) <| 
    .cons (.exp (.mut .append 7 (.cons (.tup (.cons (.prm .idx (.cons (.lst (.cons (.cst (.str "ja")) (.cons (.cst (.str "jb")) (.cons (.cst (.str "jc")) (.cons (.cst (.str "jd")) (.cons (.cst (.str "je")) .nil)))))) (.cons (.var 8) .nil))) (.cons (.call "_law_rule" (.cons (.var 0) (.cons (.prm (.bin .Add) (.cons (.prm (.bin .Add) (.cons (.var 1) (.cons (.cst (.int 60)) .nil))) (.cons (.var 8) .nil))) .nil))) (.cons (.var 9) .nil)))) .nil))) <| 
    .nil)) <| 
  .cons (.ret (.tup (.cons (.var 6) (.cons (.prm (.blt .tuple) (.cons (.var 7) .nil)) .nil)))) <| 
  .nil
/-- _law_menu(cell) -/
def b__law_menu : Sms :=
  .cons (.ret (.prm .idx (.cons (.lst (.cons (.lst (.cons (.cst (.int 0)) (.cons (.cst (.int 1)) (.cons (.cst (.int 2)) (.cons (.cst (.int 3)) (.cons (.cst (.int 4)) (.cons (.cst (.int 5)) (.cons (.cst (.int 6)) (.cons (.cst (.int 7)) .nil))))))))) (.cons (.lst (.cons (.cst (.int 0)) (.cons (.cst (.int 1)) .nil))) (.cons (.lst (.cons (.cst (.int 1)) (.cons (.cst (.int 3)) .nil))) (.cons (.lst (.cons (.cst (.int 0)) (.cons (.cst (.int 1)) (.cons (.cst (.int 2)) (.cons (.cst (.int 3)) .nil))))) (.cons (.lst (.cons (.cst (.int 0)) (.cons (.cst (.int 1)) (.cons (.cst (.int 7)) (.cons (.cst (.int 7)) .nil))))) (.cons (.lst (.cons (.cst (.int 1)) (.cons (.cst (.int 3)) (.cons (.cst (.int 5)) (.cons (.cst (.int 7)) .nil))))) .nil))))))) (.cons (.prm (.bin .Mod) (.cons (.var 0) (.cons (.cst (.int 6)) .nil))) .nil)))) <| 
  .nil
/-- _law_unit(many, at) -/
def b__law_unit : Sms :=
  .cons (.ret (.prm (.blt .tuple) (.cons (.lc (.nm 2) (.rng (.cons (.prm (.bin .Add) (.cons (.var 0) (.cons (.cst (.int 1)) .nil))) .nil)) .nil (.prm (.blt .int) (.cons (.prm (.cmp .Eq) (.cons (.var 2) (.cons (.prm (.bin .Add) (.cons (.var 1) (.cons (.cst (.int 1)) .nil))) .nil))) .nil)) [2]) .nil))) <| 
  .nil
/-- _law_combined(first, second, sign) -/
def b__law_combined : Sms :=
  .cons (.ret (.prm (.blt .tuple) (.cons (.lc (.nm 3) (.rng (.cons (.prm (.blt .len) (.cons (.var 0) .nil)) .nil)) .nil (.prm (.bin .Add) (.cons (.prm .idx (.cons (.var 0) (.cons (.var 3) .nil))) (.cons (.prm (.bin .Mult) (.cons (.var 2) (.cons (.prm .idx (.cons (.var 1) (.cons (.var 3) .nil))) .nil))) .nil))) [3]) .nil))) <| 
  .nil
/-- _law_form(house, job) -/
def b__law_form : Sms :=
  .cons (.set 2 (.prm (.blt .len) (.cons (.prm .idx (.cons (.var 0) (.cons (.cst (.int 0)) .nil))) .nil))) <| 
  .cons (.set 3 (.prm (.bin .Mult) (.cons (.tup (.cons (.cst (.int 0)) .nil)) (.cons (.prm (.bin .Add) (.cons (.var 2) (.cons (.cst (.int 1)) .nil))) .nil)))) <| 
  .cons (.set 4 (.lc (.nm 8) (.rng (.cons (.var 2) .nil)) .nil (.call "_law_unit" (.cons (.var 2) (.cons (.var 8) .nil))) [8])) <| 
  .cons (.set 5 (.prm .dnew .nil)) <| 
  .cons (.fr (.nm 6) (.ex (.prm .idx (.cons (.prm .idx (.cons (.prm .idx (.cons (.var 0) (.cons (.cst (.int 1)) .nil))) (.cons (.var 1) .nil))) (.cons (.cst (.int 2)) .nil)))) (
    .cons (.set 7 (.prm .idx (.cons (.var 6) (.cons (.cst (.int 0)) .nil)))) <| 
    .cons (.ifs (.prm (.cmp .Eq) (.cons (.var 7) (.cons (.cst (.str "read")) .nil))) (
      .cons (.sto 5 (.prm .idx (.cons (.var 6) (.cons (.cst (.int 1)) .nil))) (.prm .idx (.cons (.var 4) (.cons (.call "_law_account" (.cons (.var 0) (.cons (.prm .idx (.cons (.var 6) (.cons (.cst (.int 2)) .nil))) .nil))) .nil)))) <| 
      .nil) (
      .cons (.ifs (.prm (.cmp .Eq) (.cons (.var 7) (.cons (.cst (.str "write")) .nil))) (
        .cons (.sto 4 (.call "_law_account" (.cons (.var 0) (.cons (.prm .idx (.cons (.var 6) (.cons (.cst (.int 1)) .nil))) .nil))) (.mth .get (.var 5) (.cons (.prm .idx (.cons (.var 6) (.cons (.cst (.int 2)) .nil))) (.cons (.var 3) .nil)))) <| 
        .nil) (
        .cons (.ifs (.prm (.cmp .Eq) (.cons (.var 7) (.cons (.cst (.str "num")) .nil))) (
          .cons (.sto 5 (.prm .idx (.cons (.var 6) (.cons (.cst (.int 1)) .nil))) (.prm (.bin .Add) (.cons (.tup (.cons (.prm .idx (.cons (.var 6) (.cons (.cst (.int 2)) .nil))) .nil)) (.cons (.prm (.bin .Mult) (.cons (.tup (.cons (.cst (.int 0)) .nil)) (.cons (.var 2) .nil))) .nil)))) <| 
          .nil) (
          .cons (.ifs (.prm (.cmp .Eq) (.cons (.var 7) (.cons (.cst (.str "copy")) .nil))) (
            .cons (.sto 5 (.prm .idx (.cons (.var 6) (.cons (.cst (.int 1)) .nil))) (.mth .get (.var 5) (.cons (.prm .idx (.cons (.var 6) (.cons (.cst (.int 2)) .nil))) (.cons (.var 3) .nil)))) <| 
            .nil) (
            .cons (.ifs (.prm (.cmp .In) (.cons (.var 7) (.cons (.lst (.cons (.cst (.str "add")) (.cons (.cst (.str "sub")) .nil))) .nil))) (
              .cons (.sto 5 (.prm .idx (.cons (.var 6) (.cons (.cst (.int 1)) .nil))) (.call "_law_combined" (.cons (.mth .get (.var 5) (.cons (.prm .idx (.cons (.var 6) (.cons (.cst (.int 2)) .nil))) (.cons (.var 3) .nil))) (.cons (.mth .get (.var 5) (.cons (.prm .idx (.cons (.var 6) (.cons (.cst (.int 3)) .nil))) (.cons (.var 3) .nil))) (.cons (.prm .idx (.cons (.lst (.cons (.cst (.int 1)) (.cons (.prm .neg (.cons (.cst (.int 1)) .nil)) .nil))) (.cons (.prm (.blt .int) (.cons (.prm (.cmp .Eq) (.cons (.var 7) (.cons (.cst (.str "sub")) .nil))) .nil)) .nil))) .nil))))) <| 
              .nil) .nil) <| 
            .nil)) <| 
          .nil)) <| 
        .nil)) <| 
      .nil)) <| 
    .nil)) <| 
  .cons (.ret (.lc (.nm 9) (.ex (.var 4)) .nil (.tup (.cons (.prm .idx (.cons (.var 9) (.cons (.cst (.int 0)) .nil))) (.cons (.prm (.slc true false) (.cons (.var 9) (.cons (.cst (.int 1)) .nil))) .nil))) [9])) <| 
  .nil
/-- _law_factor_then(form, factors, at) -/
def b__law_factor_then : Sms :=
  .cons (.ret (.prm (.blt .sum) (.cons (.lc (.nm 3) (.rng (.cons (.prm (.blt .len) (.cons (.var 0) .nil)) .nil)) .nil (.prm (.bin .Mult) (.cons (.prm .idx (.cons (.var 1) (.cons (.var 3) .nil))) (.cons (.prm .idx (.cons (.prm .idx (.cons (.prm .idx (.cons (.var 0) (.cons (.var 3) .nil))) (.cons (.cst (.int 1)) .nil))) (.cons (.var 2) .nil))) .nil))) [3]) .nil))) <| 
  .nil
/-- _law_then(form, other) -/
def b__law_then : Sms :=
  .cons (.set 2 (.lst .nil)) <| 
  .cons (.fr (.tp [3, 4]) (.ex (.var 1)) (
    .cons (.set 5 (.prm (.bin .Add) (.cons (.var 3) (.cons (.prm (.blt .sum) (.cons (.lc (.nm 6) (.rng (.cons (.prm (.blt .len) (.cons (.var 0) .nil)) .nil)) .nil (.prm (.bin .Mult) (.cons (.prm .idx (.cons (.var 4) (.cons (.var 6) .nil))) (.cons (.prm .idx (.cons (.prm .idx (.cons (.var 0) (.cons (.var 6) .nil))) (.cons (.cst (.int 0)) .nil))) .nil))) [6]) .nil)) .nil)))) <| 
    .cons (.exp (.mut .append 2 (.cons (.tup (.cons (.var 5) (.cons (.prm (.blt .tuple) (.cons (.lc (.nm 7) (.rng (.cons (.prm (.blt .len) (.cons (.var 0) .nil)) .nil)) .nil (.call "_law_factor_then" (.cons (.var 0) (.cons (.var 4) (.cons (.var 7) .nil)))) [7]) .nil)) .nil))) .nil))) <| 
    .nil)) <| 
  .cons (.ret (.var 2)) <| 
  .nil
/-- _law_order_form(house, order) -/
def b__law_order_form : Sms :=
  .cons (.set 2 (.prm (.blt .len) (.cons (.prm .idx (.cons (.var 0) (.cons (.cst (.int 0)) .nil))) .nil))) <| 
  .cons (.set 3 (.lc (.nm 5) (.rng (.cons (.var 2) .nil)) .nil (.tup (.cons (.cst (.int 0)) (.cons (.prm (.slc true false) (.cons (.call "_law_unit" (.cons (.var 2) (.cons (.var 5) .nil))) (.cons (.cst (.int 1)) .nil))) .nil))) [5])) <| 
  .cons (.fr (.nm 4) (.ex (.var 1)) (
    .cons (.set 3 (.call "_law_then" (.cons (.var 3) (.cons (.call "_law_form" (.cons (.var 0) (.cons (.var 4) .nil))) .nil)))) <| 
    .nil)) <| 
  .cons (.ret (.var 3)) <| 
  .nil
/-- _law_by(form, numbers) -/
def b__law_by : Sms :=
  .cons (.ret (.lc (.tp [2, 3]) (.ex (.var 0)) .nil (.prm (.bin .Add) (.cons (.var 2) (.cons (.call "_law_sum" (.cons (.var 1) (.cons (.var 3) .nil))) .nil))) [2, 3])) <| 
  .nil
/-- _law_some_order(draws, at, jobs) -/
def b__law_some_order : Sms :=
  .cons (.set 3 (.prm .lrng (.cons (.var 2) .nil))) <| 
  .cons (.set 4 (.lst .nil)) <| 
  .cons (.set 5 (.var 2)) <| 
  .cons (.ifs (.prm (.cmp .Eq) (.cons (.prm (.bin .Mod) (.cons (.call "_law_cell" (.cons (.var 0) (.cons (.var 1) .nil))) (.cons (.cst (.int 2)) .nil))) (.cons (.cst (.int 0)) .nil))) (
    .cons (.set 5 (.prm (.bin .Mod) (.cons (.prm (.bin .FloorDiv) (.cons (.call "_law_cell" (.cons (.var 0) (.cons (.var 1) .nil))) (.cons (.cst (.int 2)) .nil))) (.cons (.prm (.bin .Add) (.cons (.var 2) (.cons (.cst (.int 1)) .nil))) .nil)))) <| 
    .nil) .nil) <| 
  .cons (.fr (.nm 6) (.rng (.cons (.var 5) .nil)) (
    .cons (.exp (.mut .append 4 (.cons (.mut .popAt 3 (.cons (.prm (.bin .Mod) (.cons (.prm (.bin .FloorDiv) (.cons (.call "_law_cell" (.cons (.var 0) (.cons (.prm (.bin .Add) (.cons (.prm (.bin .Add) (.cons (.var 1) (.cons (.cst (.int 1)) .nil))) (.cons (.var 6) .nil))) .nil))) (.cons (.cst (.int 3)) .nil))) (.cons (.prm (.blt .len) (.cons (.var 3) .nil)) .nil))) .nil)) .nil))) <| 
    .nil)) <| 
  .cons (.ret (.var 4)) <| 
  .nil
/-- _law_alike_due(first, second) -/
def b__law_alike_due : Sms :=
  .cons (.fr (.nm 2) (.rng (.cons (.prm (.blt .len) (.cons (.var 0) .nil)) .nil)) (
    .cons (.ifs (.prm (.cmp .NotEq) (.cons (.prm .idx (.cons (.var 0) (.cons (.var 2) .nil))) (.cons (.prm .idx (.cons (.var 1) (.cons (.var 2) .nil))) .nil))) (
      .cons (.set 3 (.prm (.bin .Mult) (.cons (.lst (.cons (.cst (.int 0)) .nil)) (.cons (.prm (.blt .len) (.cons (.var 0) .nil)) .nil)))) <| 
      .cons (.ifs (.prm (.cmp .Eq) (.cons (.prm .idx (.cons (.prm .idx (.cons (.var 0) (.cons (.var 2) .nil))) (.cons (.cst (.int 0)) .nil))) (.cons (.prm .idx (.cons (.prm .idx (.cons (.var 1) (.cons (.var 2) .nil))) (.cons (.cst (.int 0)) .nil))) .nil))) (
        .cons (.sto 3 (.prm .idx (.cons (.lc (.nm 4) (.rng (.cons (.prm (.blt .len) (.cons (.var 0) .nil)) .nil)) (.cons (.prm (.cmp .NotEq) (.cons (.prm .idx (.cons (.prm .idx (.cons (.prm .idx (.cons (.var 0) (.cons (.var 2) .nil))) (.cons (.cst (.int 1)) .nil))) (.cons (.var 4) .nil))) (.cons (.prm .idx (.cons (.prm .idx (.cons (.prm .idx (.cons (.var 1) (.cons (.var 2) .nil))) (.cons (.cst (.int 1)) .nil))) (.cons (.var 4) .nil))) .nil))) .nil) (.var 4) [4]) (.cons (.cst (.int 0)) .nil))) (.cst (.int 1))) <| 
        .nil) .nil) <| 
      .cons (.ret (.tup (.cons (.cst (.str "unlike")) (.cons (.var 3) (.cons (.var 2) .nil))))) <| 
      .nil) .nil) <| 
    .nil)) <| 
  .cons (.ret (.tup (.cons (.cst (.str "alike")) (.cons (.var 0) .nil)))) <| 
  .nil
/-- _law_other_order(draws, order, jobs) -/
def b__law_other_order : Sms :=
  .cons (.set 3 (.prm (.bin .Mod) (.cons (.prm .idx (.cons (.var 0) (.cons (.cst (.int 95)) .nil))) (.cons (.cst (.int 4)) .nil)))) <| 
  .cons (.ifs (.and (.prm (.cmp .Eq) (.cons (.var 3) (.cons (.cst (.int 0)) .nil))) (.prm (.cmp .Gt) (.cons (.prm (.blt .len) (.cons (.var 1) .nil)) (.cons (.cst (.int 1)) .nil)))) (
    .cons (.set 4 (.prm (.bin .Mod) (.cons (.prm .idx (.cons (.var 0) (.cons (.cst (.int 96)) .nil))) (.cons (.prm (.bin .Sub) (.cons (.prm (.blt .len) (.cons (.var 1) .nil)) (.cons (.cst (.int 1)) .nil))) .nil)))) <| 
    .cons (.ret (.prm (.bin .Add) (.cons (.prm (.bin .Add) (.cons (.prm (.slc false true) (.cons (.var 1) (.cons (.var 4) .nil))) (.cons (.lst (.cons (.prm .idx (.cons (.var 1) (.cons (.prm (.bin .Add) (.cons (.var 4) (.cons (.cst (.int 1)) .nil))) .nil))) (.cons (.prm .idx (.cons (.var 1) (.cons (.var 4) .nil))) .nil))) .nil))) (.cons (.prm (.slc true false) (.cons (.var 1) (.cons (.prm (.bin .Add) (.cons (.var 4) (.cons (.cst (.int 2)) .nil))) .nil))) .nil)))) <| 
    .nil) .nil) <| 
  .cons (.ifs (.prm (.cmp .Eq) (.cons (.var 3) (.cons (.cst (.int 1)) .nil))) (
    .cons (.ret (.prm .rev (.cons (.var 1) .nil))) <| 
    .nil) .nil) <| 
  .cons (.ifs (.prm (.cmp .Eq) (.cons (.var 3) (.cons (.cst (.int 2)) .nil))) (
    .cons (.ret (.prm (.blt .sorted) (.cons (.var 1) .nil))) <| 
    .nil) .nil) <| 
  .cons (.ret (.call "_law_some_order" (.cons (.var 0) (.cons (.cst (.int 97)) (.cons (.var 2) .nil))))) <| 
  .nil
/-- _law_is_unlike(forms, paper) -/
def b__law_is_unlike : Sms :=
  .cons (.ifs (.or (.not (.prm (.isi "tuple") (.cons (.var 1) .nil))) (.or (.prm (.cmp .NotEq) (.cons (.prm (.blt .len) (.cons (.var 1) .nil)) (.cons (.cst (.int 3)) .nil))) (.not (.call "_law_same" (.cons (.prm .idx (.cons (.var 1) (.cons (.cst (.int 0)) .nil))) (.cons (.cst (.str "unlike")) .nil)))))) (
    .cons (.ret (.cst (.bool false))) <| 
    .nil) .nil) <| 
  .cons (.ifs (.or (.not (.prm (.isi "list") (.cons (.prm .idx (.cons (.var 1) (.cons (.cst (.int 1)) .nil))) .nil))) (.or (.prm (.cmp .NotEq) (.cons (.prm (.blt .len) (.cons (.prm .idx (.cons (.var 1) (.cons (.cst (.int 1)) .nil))) .nil)) (.cons (.prm (.blt .len) (.cons (.prm .idx (.cons (.var 0) (.cons (.cst (.int 0)) .nil))) .nil)) .nil))) (.not (.call "_law_is_number" (.cons (.prm .idx (.cons (.var 1) (.cons (.cst (.int 2)) .nil))) .nil))))) (
    .cons (.ret (.cst (.bool false))) <| 
    .nil) .nil) <| 
  .cons (.ifs (.or (.prm (.cmp .NotEq) (.cons (.lc (.nm 2) (.ex (.prm .idx (.cons (.var 1) (.cons (.cst (.int 1)) .nil)))) (.cons (.not (.call "_law_is_number" (.cons (.var 2) .nil))) .nil) (.var 2) [2]) (.cons (.lst .nil) .nil))) (.not (.cmp2 .LtE .Lt (.cst (.int 0)) (.prm .idx (.cons (.var 1) (.cons (.cst (.int 2)) .nil))) (.prm (.blt .len) (.cons (.prm .idx (.cons (.var 0) (.cons (.cst (.int 0)) .nil))) .nil))))) (
    .cons (.ret (.cst (.bool false))) <| 
    .nil) .nil) <| 
  .cons (.ret (.prm (.cmp .NotEq) (.cons (.prm .idx (.cons (.call "_law_by" (.cons (.prm .idx (.cons (.var 0) (.cons (.cst (.int 0)) .nil))) (.cons (.prm .idx (.cons (.var 1) (.cons (.cst (.int 1)) .nil))) .nil))) (.cons (.prm .idx (.cons (.var 1) (.cons (.cst (.int 2)) .nil))) .nil))) (.cons (.prm .idx (.cons (.call "_law_by" (.cons (.prm .idx (.cons (.var 0) (.cons (.cst (.int 1)) .nil))) (.cons (.prm .idx (.cons (.var 1) (.cons (.cst (.int 1)) .nil))) .nil))) (.cons (.prm .idx (.cons (.var 1) (.cons (.cst (.int 2)) .nil))) .nil))) .nil)))) <| 
  .nil
/-- _law_papers(draws, many, told) -/
def b__law_papers : Sms :=
  .cons (.set 3 (.lst .nil)) <| 
  .cons (.fr (.nm 4) (.rng (.cons (.cst (.int 3)) .nil)) (
    .cons (.set 5 (.lc (.nm 8) (.rng (.cons (.var 1) .nil)) .nil (.prm (.bin .Sub) (.cons (.prm (.bin .Mod) (.cons (.prm .idx (.cons (.var 0) (.cons (.prm (.bin .Mod) (.cons (.prm (.bin .Add) (.cons (.prm (.bin .Add) (.cons (.cst (.int 100)) (.cons (.prm (.bin .Mult) (.cons (.cst (.int 3)) (.cons (.var 4) .nil))) .nil))) (.cons (.var 8) .nil))) (.cons (.cst (.int 120)) .nil))) .nil))) (.cons (.cst (.int 5)) .nil))) (.cons (.cst (.int 2)) .nil))) [8])) <| 
    .cons (.ifs (.prm (.cmp .Eq) (.cons (.var 4) (.cons (.cst (.int 2)) .nil))) (
      .cons (.set 5 (.lc (.nm 8) (.rng (.cons (.var 1) .nil)) .nil (.call "_law_number" (.cons (.var 0) (.cons (.prm (.bin .Add) (.cons (.cst (.int 50)) (.cons (.var 8) .nil))) .nil))) [8])) <| 
      .nil) .nil) <| 
    .cons (.set 3 (.prm (.bin .Add) (.cons (.var 3) (.cons (.lc (.nm 7) (.rng (.cons (.var 1) .nil)) .nil (.tup (.cons (.cst (.str "unlike")) (.cons (.var 5) (.cons (.var 7) .nil)))) [7]) .nil)))) <| 
    .nil)) <| 
  .cons (.ifs (.prm (.cmp .Eq) (.cons (.prm .idx (.cons (.var 2) (.cons (.cst (.int 0)) .nil))) (.cons (.cst (.str "unlike")) .nil))) (
    .cons (.exp (.mut .append 3 (.cons (.var 2) .nil))) <| 
    .nil) .nil) <| 
  .cons (.setT [6, 5, 7] (.prm .idx (.cons (.var 3) (.cons (.prm .neg (.cons (.cst (.int 1)) .nil)) .nil)))) <| 
  .cons (.set 3 (.prm (.bin .Add) (.cons (.var 3) (.cons (.lst (.cons (.cst .none) (.cons (.cst (.bool true)) (.cons (.cst (.str "unlike")) (.cons (.tup .nil) (.cons (.lst .nil) (.cons (.prm (.blt .list) (.cons (.prm .idx (.cons (.var 3) (.cons (.prm .neg (.cons (.cst (.int 1)) .nil)) .nil))) .nil)) (.cons (.tup (.cons (.var 6) .nil)) (.cons (.tup (.cons (.var 6) (.cons (.var 5) .nil))) (.cons (.tup (.cons (.var 6) (.cons (.var 5) (.cons (.var 7) (.cons (.var 7) .nil))))) (.cons (.tup (.cons (.cst (.str "alike")) (.cons (.var 5) (.cons (.var 7) .nil)))) (.cons (.tup (.cons (.var 7) (.cons (.var 5) (.cons (.var 6) .nil)))) .nil)))))))))))) .nil)))) <| 
  .cons (.set 3 (.prm (.bin .Add) (.cons (.var 3) (.cons (.lst (.cons (.tup (.cons (.var 6) (.cons (.prm (.blt .tuple) (.cons (.var 5) .nil)) (.cons (.var 7) .nil)))) (.cons (.tup (.cons (.var 6) (.cons (.prm (.slc false true) (.cons (.var 5) (.cons (.prm .neg (.cons (.cst (.int 1)) .nil)) .nil))) (.cons (.var 7) .nil)))) (.cons (.tup (.cons (.var 6) (.cons (.prm (.bin .Add) (.cons (.var 5) (.cons (.lst (.cons (.cst (.int 0)) .nil)) .nil))) (.cons (.var 7) .nil)))) (.cons (.tup (.cons (.var 6) (.cons (.var 5) (.cons (.prm .neg (.cons (.cst (.int 1)) .nil)) .nil)))) (.cons (.tup (.cons (.var 6) (.cons (.var 5) (.cons (.var 1) .nil)))) (.cons (.tup (.cons (.var 6) (.cons (.var 5) (.cons (.cst .none) .nil)))) .nil))))))) .nil)))) <| 
  .cons (.set 3 (.prm (.bin .Add) (.cons (.var 3) (.cons (.lst (.cons (.tup (.cons (.var 6) (.cons (.prm (.bin .Add) (.cons (.lst (.cons (.cst (.bool true)) .nil)) (.cons (.prm (.slc true false) (.cons (.var 5) (.cons (.cst (.int 1)) .nil))) .nil))) (.cons (.var 7) .nil)))) (.cons (.tup (.cons (.var 6) (.cons (.prm (.bin .Mult) (.cons (.lst (.cons (.cst .none) .nil)) (.cons (.var 1) .nil))) (.cons (.var 7) .nil)))) (.cons (.tup (.cons (.var 6) (.cons (.var 5) (.cons (.lst (.cons (.var 7) .nil)) .nil)))) (.cons (.tup (.cons (.var 6) (.cons (.var 7) (.cons (.var 5) .nil)))) (.cons (.tup (.cons (.var 6) (.cons (.var 5) (.cons (.cst (.bool false)) .nil)))) (.cons (.tup (.cons (.var 6) (.cons (.lst .nil) (.cons (.var 7) .nil)))) .nil))))))) .nil)))) <| 
  .cons (.ret (.prm (.bin .Add) (.cons (.var 3) (.cons (.lst (.cons (.tup (.cons (.var 6) (.cons (.prm (.bin .Mult) (.cons (.lst (.cons (.cst (.str "0")) .nil)) (.cons (.var 1) .nil))) (.cons (.var 7) .nil)))) (.cons (.tup (.cons (.var 6) (.cons (.prm (.bin .Mult) (.cons (.lst (.cons (.lst (.cons (.cst (.int 0)) .nil)) .nil)) (.cons (.var 1) .nil))) (.cons (.var 7) .nil)))) (.cons (.tup (.cons (.lst (.cons (.var 6) .nil)) (.cons (.var 5) (.cons (.var 7) .nil)))) (.cons (.tup (.cons (.cst (.str "unlikely")) (.cons (.var 5) (.cons (.var 7) .nil)))) .nil))))) .nil)))) <| 
  .nil
/-- law(script) -/
def b_law : Sms :=
  .cons (.set 1 (.call "_law_draws" (.cons (.var 0) (.cons (.cst (.int 120)) .nil)))) <| 
  .cons (.par [6, 7] (.cons (.prm (.bin .Add) (.cons (.cst (.int 1)) (.cons (.prm (.bin .Mod) (.cons (.prm .idx (.cons (.var 1) (.cons (.cst (.int 0)) .nil))) (.cons (.cst (.int 3)) .nil))) .nil))) (.cons (.prm (.bin .Add) (.cons (.cst (.int 1)) (.cons (.prm (.bin .Mod) (.cons (.prm .idx (.cons (.var 1) (.cons (.cst (.int 1)) .nil))) (.cons (.cst (.int 4)) .nil))) .nil))) .nil))) <| 
  .cons (.ifs (.prm (.cmp .Eq) (.cons (.prm (.bin .Mod) (.cons (.prm .idx (.cons (.var 1) (.cons (.cst (.int 2)) .nil))) (.cons (.cst (.int 8)) .nil))) (.cons (.cst (.int 5)) .nil))) (
    .cons (.par [6, 7] (.cons (.prm (.bin .Add) (.cons (.cst (.int 4)) (.cons (.prm (.bin .Mod) (.cons (.prm .idx (.cons (.var 1) (.cons (.cst (.int 0)) .nil))) (.cons (.cst (.int 2)) .nil))) .nil))) (.cons (.cst (.int 5)) .nil))) <| 
    .nil) .nil) <| 
  .cons (.set 2 (.call "_law_linear_house" (.cons (.var 1) (.cons (.cst (.int 3)) (.cons (.var 6) (.cons (.var 7) (.cons (.cst (.int 6)) (.cons (.call "_law_menu" (.cons (.prm .idx (.cons (.var 1) (.cons (.cst (.int 93)) .nil))) .nil)) .nil)))))))) <| 
  .cons (.set 3 (.call "_law_some_order" (.cons (.var 1) (.cons (.cst (.int 70)) (.cons (.var 7) .nil))))) <| 
  .cons (.set 4 (.lst (.cons (.call "_law_other_order" (.cons (.var 1) (.cons (.var 3) (.cons (.var 7) .nil)))) (.cons (.prm (.blt .list) (.cons (.var 3) .nil)) (.cons (.prm (.slc true false) (.cons (.var 3) (.cons (.cst (.int 1)) .nil))) .nil))))) <| 
  .cons (.fr (.nm 5) (.rng (.cons (.cst (.int 3)) .nil)) (
    .cons (.set 8 (.prm .idx (.cons (.var 4) (.cons (.var 5) .nil)))) <| 
    .cons (.set 9 (.tup (.cons (.call "_law_order_form" (.cons (.var 2) (.cons (.var 3) .nil))) (.cons (.call "_law_order_form" (.cons (.var 2) (.cons (.var 8) .nil))) .nil)))) <| 
    .cons (.set 10 (.call "_law_alike_due" (.cons (.prm .idx (.cons (.var 9) (.cons (.cst (.int 0)) .nil))) (.cons (.prm .idx (.cons (.var 9) (.cons (.cst (.int 1)) .nil))) .nil)))) <| 
    .cons (.set 11 (.tup (.cons (.prm (.blt .list) (.cons (.var 3) .nil)) (.cons (.prm (.blt .list) (.cons (.var 8) .nil)) .nil)))) <| 
    .cons (.set 12 (.call "orders_alike" (.cons (.var 2) (.cons (.prm .idx (.cons (.var 11) (.cons (.cst (.int 0)) .nil))) (.cons (.prm .idx (.cons (.var 11) (.cons (.cst (.int 1)) .nil))) .nil))))) <| 
    .cons (.ifs (.or (.not (.call "_law_same" (.cons (.var 12) (.cons (.var 10) .nil)))) (.prm (.cmp .NotEq) (.cons (.var 11) (.cons (.tup (.cons (.var 3) (.cons (.var 8) .nil))) .nil)))) (
      .cons (.ret (.cst (.bool false))) <| 
      .nil) .nil) <| 
    .cons (.exp (.mutC .append 12 (.at 1) (.cons (.cst (.int 7)) .nil))) <| 
    .cons (.ifs (.not (.call "_law_same" (.cons (.call "orders_alike" (.cons (.var 2) (.cons (.prm .idx (.cons (.var 11) (.cons (.cst (.int 0)) .nil))) (.cons (.prm .idx (.cons (.var 11) (.cons (.cst (.int 1)) .nil))) .nil)))) (.cons (.var 10) .nil)))) (
      .cons (.ret (.cst (.bool false))) <| 
      .nil) .nil) <| 
    .cons (.fr (.nm 13) (.ex (.prm .stp (.cons (.call "_law_papers" (.cons (.var 1) (.cons (.var 6) (.cons (.var 10) .nil)))) (.cons (.prm .idx (.cons (.lst (.cons (.cst (.int 1)) (.cons (.cst (.int 5)) (.cons (.cst (.int 5)) .nil)))) (.cons (.var 5) .nil))) .nil)))) (
      .cons (.set 14 (.prm (.blt .repr) (.cons (.var 13) .nil))) <| 
      .cons (.ifs (.or (.not (.call "_law_same" (.cons (.call "shows_unlike" (.cons (.var 2) (.cons (.prm .idx (.cons (.var 11) (.cons (.cst (.int 0)) .nil))) (.cons (.prm .idx (.cons (.var 11) (.cons (.cst (.int 1)) .nil))) (.cons (.var 13) .nil))))) (.cons (.call "_law_is_unlike" (.cons (.var 9) (.cons (.var 13) .nil))) .nil)))) (.prm (.cmp .NotEq) (.cons (.prm (.blt .repr) (.cons (.var 13) .nil)) (.cons (.var 14) .nil)))) (
        .cons (.ret (.cst (.bool false))) <| 
        .nil) .nil) <| 
      .nil)) <| 
    .nil)) <| 
  .cons (.ret (.cst (.bool true))) <| 
  .nil
def P : Pg := ⟨[
  ⟨"is_number", [false], ["value"], b_is_number⟩,
  ⟨"is_index", [false, false], ["value", "size"], b_is_index⟩,
  ⟨"is_numbers", [false], ["value", "item"], b_is_numbers⟩,
  ⟨"is_number_list", [false, false], ["value", "count"], b_is_number_list⟩,
  ⟨"is_tagged", [false, false, false], ["paper", "tag", "length"], b_is_tagged⟩,
  ⟨"parts_of", [false], ["statement"], b_parts_of⟩,
  ⟨"local_names", [false], ["statement"], b_local_names⟩,
  ⟨"statements_in", [false], ["body", "found", "statement", "part"], b_statements_in⟩,
  ⟨"locals_of", [false, false], ["house", "job", "found", "known", "statement", "name"], b_locals_of⟩,
  ⟨"account_numbers", [false], ["house", "at"], b_account_numbers⟩,
  ⟨"zero_sum", [false], ["width"], b_zero_sum⟩,
  ⟨"single_sum", [false, false], ["width", "account"], b_single_sum⟩,
  ⟨"plus", [false, false, false], ["one", "other", "times", "factors", "at"], b_plus⟩,
  ⟨"begun_form", [false], ["width", "account"], b_begun_form⟩,
  ⟨"after_linear", [false, false, true, true, false], ["names", "numbers", "locals_now", "form", "statement", "times", "one", "other"], b_after_linear⟩,
  ⟨"form_of", [false, false], ["house", "job", "width", "names", "numbers", "locals_now", "form", "statement", "name"], b_form_of⟩,
  ⟨"put_in", [false, false], ["total", "form", "found", "account"], b_put_in⟩,
  ⟨"behind_form", [false, false], ["form", "following", "total"], b_behind_form⟩,
  ⟨"order_form", [false, false], ["house", "order", "form", "job"], b_order_form⟩,
  ⟨"number_by", [false, false], ["total", "numbers", "at"], b_number_by⟩,
  ⟨"unit_numbers", [false, false], ["width", "account", "at"], b_unit_numbers⟩,
  ⟨"numbers_apart", [false, false], ["one", "other", "width", "account"], b_numbers_apart⟩,
  ⟨"orders_alike", [false, false, false], ["house", "order", "other", "account", "first", "second"], b_orders_alike⟩,
  ⟨"shows_unlike", [false, false, false, false], ["house", "order", "other", "paper", "width", "first", "second"], b_shows_unlike⟩,
  ⟨"_law_draws", [false, false], ["script", "many", "found", "cell", "k", "number", "mixed", "base"], b__law_draws⟩,
  ⟨"_law_cell", [false, false], ["draws", "k"], b__law_cell⟩,
  ⟨"_law_rule", [false, false], ["draws", "at"], b__law_rule⟩,
  ⟨"_law_is_number", [false], ["value"], b__law_is_number⟩,
  ⟨"_law_same", [false, false], ["told", "due"], b__law_same⟩,
  ⟨"_law_account", [false, false], ["house", "name", "book", "number"], b__law_account⟩,
  ⟨"_law_sum", [false, false], ["numbers", "factors", "k"], b__law_sum⟩,
  ⟨"_law_number", [false, false], ["draws", "at", "cell"], b__law_number⟩,
  ⟨"_law_linear_one", [false, false, false], ["draws", "at", "accounts", "cell", "book", "kind", "one", "two", "three", "k"], b__law_linear_one⟩,
  ⟨"_law_linear_body", [false, false, false, false, false], ["draws", "at", "accounts", "most", "menu", "cell", "first", "second", "number", "reads", "kind", "kinds", "x", "y", "k"], b__law_linear_body⟩,
  ⟨"_law_linear_house", [false, false, false, false, false, false], ["draws", "at", "accounts", "jobs", "most", "menu", "books", "found", "k", "body"], b__law_linear_house⟩,
  ⟨"_law_menu", [false], ["cell"], b__law_menu⟩,
  ⟨"_law_unit", [false, false], ["many", "at", "k"], b__law_unit⟩,
  ⟨"_law_combined", [false, false, false], ["first", "second", "sign", "k"], b__law_combined⟩,
  ⟨"_law_form", [false, false], ["house", "job", "many", "none", "now", "values", "statement", "word", "k", "row"], b__law_form⟩,
  ⟨"_law_factor_then", [false, false, false], ["form", "factors", "at", "k"], b__law_factor_then⟩,
  ⟨"_law_then", [false, false], ["form", "other", "found", "number", "factors", "total", "k", "at"], b__law_then⟩,
  ⟨"_law_order_form", [false, false], ["house", "order", "many", "form", "job", "k"], b__law_order_form⟩,
  ⟨"_law_by", [false, false], ["form", "numbers", "number", "factors"], b__law_by⟩,
  ⟨"_law_some_order", [false, false, false], ["draws", "at", "jobs", "left", "found", "many", "k"], b__law_some_order⟩,
  ⟨"_law_alike_due", [false, false], ["first", "second", "at", "numbers", "k"], b__law_alike_due⟩,
  ⟨"_law_other_order", [false, false, false], ["draws", "order", "jobs", "kind", "at"], b__law_other_order⟩,
  ⟨"_law_is_unlike", [false, false], ["forms", "paper", "number"], b__law_is_unlike⟩,
  ⟨"_law_papers", [false, false, false], ["draws", "many", "told", "found", "turn", "numbers", "word", "at", "k"], b__law_papers⟩,
  ⟨"law", [false], ["script", "draws", "house", "order", "others", "kind", "accounts", "jobs", "other", "forms", "due", "given", "told", "paper", "text"], b_law⟩
  ], [("SUMS", .tuple [.str "add", .str "sub", .str "less", .str "same"])]⟩
theorem fn_is_number : P.fn? "is_number" = some ⟨"is_number", [false], ["value"], b_is_number⟩ := by kernel_rfl
@[simp] theorem io_is_number : P.io "is_number" = [false] := by kernel_rfl
theorem fn_is_index : P.fn? "is_index" = some ⟨"is_index", [false, false], ["value", "size"], b_is_index⟩ := by kernel_rfl
@[simp] theorem io_is_index : P.io "is_index" = [false, false] := by kernel_rfl
theorem fn_is_numbers : P.fn? "is_numbers" = some ⟨"is_numbers", [false], ["value", "item"], b_is_numbers⟩ := by kernel_rfl
@[simp] theorem io_is_numbers : P.io "is_numbers" = [false] := by kernel_rfl
theorem fn_is_number_list : P.fn? "is_number_list" = some ⟨"is_number_list", [false, false], ["value", "count"], b_is_number_list⟩ := by kernel_rfl
@[simp] theorem io_is_number_list : P.io "is_number_list" = [false, false] := by kernel_rfl
theorem fn_is_tagged : P.fn? "is_tagged" = some ⟨"is_tagged", [false, false, false], ["paper", "tag", "length"], b_is_tagged⟩ := by kernel_rfl
@[simp] theorem io_is_tagged : P.io "is_tagged" = [false, false, false] := by kernel_rfl
theorem fn_parts_of : P.fn? "parts_of" = some ⟨"parts_of", [false], ["statement"], b_parts_of⟩ := by kernel_rfl
@[simp] theorem io_parts_of : P.io "parts_of" = [false] := by kernel_rfl
theorem fn_local_names : P.fn? "local_names" = some ⟨"local_names", [false], ["statement"], b_local_names⟩ := by kernel_rfl
@[simp] theorem io_local_names : P.io "local_names" = [false] := by kernel_rfl
theorem fn_statements_in : P.fn? "statements_in" = some ⟨"statements_in", [false], ["body", "found", "statement", "part"], b_statements_in⟩ := by kernel_rfl
@[simp] theorem io_statements_in : P.io "statements_in" = [false] := by kernel_rfl
theorem fn_locals_of : P.fn? "locals_of" = some ⟨"locals_of", [false, false], ["house", "job", "found", "known", "statement", "name"], b_locals_of⟩ := by kernel_rfl
@[simp] theorem io_locals_of : P.io "locals_of" = [false, false] := by kernel_rfl
theorem fn_account_numbers : P.fn? "account_numbers" = some ⟨"account_numbers", [false], ["house", "at"], b_account_numbers⟩ := by kernel_rfl
@[simp] theorem io_account_numbers : P.io "account_numbers" = [false] := by kernel_rfl
theorem fn_zero_sum : P.fn? "zero_sum" = some ⟨"zero_sum", [false], ["width"], b_zero_sum⟩ := by kernel_rfl
@[simp] theorem io_zero_sum : P.io "zero_sum" = [false] := by kernel_rfl
theorem fn_single_sum : P.fn? "single_sum" = some ⟨"single_sum", [false, false], ["width", "account"], b_single_sum⟩ := by kernel_rfl
@[simp] theorem io_single_sum : P.io "single_sum" = [false, false] := by kernel_rfl
theorem fn_plus : P.fn? "plus" = some ⟨"plus", [false, false, false], ["one", "other", "times", "factors", "at"], b_plus⟩ := by kernel_rfl
@[simp] theorem io_plus : P.io "plus" = [false, false, false] := by kernel_rfl
theorem fn_begun_form : P.fn? "begun_form" = some ⟨"begun_form", [false], ["width", "account"], b_begun_form⟩ := by kernel_rfl
@[simp] theorem io_begun_form : P.io "begun_form" = [false] := by kernel_rfl
theorem fn_after_linear : P.fn? "after_linear" = some ⟨"after_linear", [false, false, true, true, false], ["names", "numbers", "locals_now", "form", "statement", "times", "one", "other"], b_after_linear⟩ := by kernel_rfl
@[simp] theorem io_after_linear : P.io "after_linear" = [false, false, true, true, false] := by kernel_rfl
theorem fn_form_of : P.fn? "form_of" = some ⟨"form_of", [false, false], ["house", "job", "width", "names", "numbers", "locals_now", "form", "statement", "name"], b_form_of⟩ := by kernel_rfl
@[simp] theorem io_form_of : P.io "form_of" = [false, false] := by kernel_rfl
theorem fn_put_in : P.fn? "put_in" = some ⟨"put_in", [false, false], ["total", "form", "found", "account"], b_put_in⟩ := by kernel_rfl
@[simp] theorem io_put_in : P.io "put_in" = [false, false] := by kernel_rfl
theorem fn_behind_form : P.fn? "behind_form" = some ⟨"behind_form", [false, false], ["form", "following", "total"], b_behind_form⟩ := by kernel_rfl
@[simp] theorem io_behind_form : P.io "behind_form" = [false, false] := by kernel_rfl
theorem fn_order_form : P.fn? "order_form" = some ⟨"order_form", [false, false], ["house", "order", "form", "job"], b_order_form⟩ := by kernel_rfl
@[simp] theorem io_order_form : P.io "order_form" = [false, false] := by kernel_rfl
theorem fn_number_by : P.fn? "number_by" = some ⟨"number_by", [false, false], ["total", "numbers", "at"], b_number_by⟩ := by kernel_rfl
@[simp] theorem io_number_by : P.io "number_by" = [false, false] := by kernel_rfl
theorem fn_unit_numbers : P.fn? "unit_numbers" = some ⟨"unit_numbers", [false, false], ["width", "account", "at"], b_unit_numbers⟩ := by kernel_rfl
@[simp] theorem io_unit_numbers : P.io "unit_numbers" = [false, false] := by kernel_rfl
theorem fn_numbers_apart : P.fn? "numbers_apart" = some ⟨"numbers_apart", [false, false], ["one", "other", "width", "account"], b_numbers_apart⟩ := by kernel_rfl
@[simp] theorem io_numbers_apart : P.io "numbers_apart" = [false, false] := by kernel_rfl
theorem fn_orders_alike : P.fn? "orders_alike" = some ⟨"orders_alike", [false, false, false], ["house", "order", "other", "account", "first", "second"], b_orders_alike⟩ := by kernel_rfl
@[simp] theorem io_orders_alike : P.io "orders_alike" = [false, false, false] := by kernel_rfl
theorem fn_shows_unlike : P.fn? "shows_unlike" = some ⟨"shows_unlike", [false, false, false, false], ["house", "order", "other", "paper", "width", "first", "second"], b_shows_unlike⟩ := by kernel_rfl
@[simp] theorem io_shows_unlike : P.io "shows_unlike" = [false, false, false, false] := by kernel_rfl
theorem fn__law_draws : P.fn? "_law_draws" = some ⟨"_law_draws", [false, false], ["script", "many", "found", "cell", "k", "number", "mixed", "base"], b__law_draws⟩ := by kernel_rfl
@[simp] theorem io__law_draws : P.io "_law_draws" = [false, false] := by kernel_rfl
theorem fn__law_cell : P.fn? "_law_cell" = some ⟨"_law_cell", [false, false], ["draws", "k"], b__law_cell⟩ := by kernel_rfl
@[simp] theorem io__law_cell : P.io "_law_cell" = [false, false] := by kernel_rfl
theorem fn__law_rule : P.fn? "_law_rule" = some ⟨"_law_rule", [false, false], ["draws", "at"], b__law_rule⟩ := by kernel_rfl
@[simp] theorem io__law_rule : P.io "_law_rule" = [false, false] := by kernel_rfl
theorem fn__law_is_number : P.fn? "_law_is_number" = some ⟨"_law_is_number", [false], ["value"], b__law_is_number⟩ := by kernel_rfl
@[simp] theorem io__law_is_number : P.io "_law_is_number" = [false] := by kernel_rfl
theorem fn__law_same : P.fn? "_law_same" = some ⟨"_law_same", [false, false], ["told", "due"], b__law_same⟩ := by kernel_rfl
@[simp] theorem io__law_same : P.io "_law_same" = [false, false] := by kernel_rfl
theorem fn__law_account : P.fn? "_law_account" = some ⟨"_law_account", [false, false], ["house", "name", "book", "number"], b__law_account⟩ := by kernel_rfl
@[simp] theorem io__law_account : P.io "_law_account" = [false, false] := by kernel_rfl
theorem fn__law_sum : P.fn? "_law_sum" = some ⟨"_law_sum", [false, false], ["numbers", "factors", "k"], b__law_sum⟩ := by kernel_rfl
@[simp] theorem io__law_sum : P.io "_law_sum" = [false, false] := by kernel_rfl
theorem fn__law_number : P.fn? "_law_number" = some ⟨"_law_number", [false, false], ["draws", "at", "cell"], b__law_number⟩ := by kernel_rfl
@[simp] theorem io__law_number : P.io "_law_number" = [false, false] := by kernel_rfl
theorem fn__law_linear_one : P.fn? "_law_linear_one" = some ⟨"_law_linear_one", [false, false, false], ["draws", "at", "accounts", "cell", "book", "kind", "one", "two", "three", "k"], b__law_linear_one⟩ := by kernel_rfl
@[simp] theorem io__law_linear_one : P.io "_law_linear_one" = [false, false, false] := by kernel_rfl
theorem fn__law_linear_body : P.fn? "_law_linear_body" = some ⟨"_law_linear_body", [false, false, false, false, false], ["draws", "at", "accounts", "most", "menu", "cell", "first", "second", "number", "reads", "kind", "kinds", "x", "y", "k"], b__law_linear_body⟩ := by kernel_rfl
@[simp] theorem io__law_linear_body : P.io "_law_linear_body" = [false, false, false, false, false] := by kernel_rfl
theorem fn__law_linear_house : P.fn? "_law_linear_house" = some ⟨"_law_linear_house", [false, false, false, false, false, false], ["draws", "at", "accounts", "jobs", "most", "menu", "books", "found", "k", "body"], b__law_linear_house⟩ := by kernel_rfl
@[simp] theorem io__law_linear_house : P.io "_law_linear_house" = [false, false, false, false, false, false] := by kernel_rfl
theorem fn__law_menu : P.fn? "_law_menu" = some ⟨"_law_menu", [false], ["cell"], b__law_menu⟩ := by kernel_rfl
@[simp] theorem io__law_menu : P.io "_law_menu" = [false] := by kernel_rfl
theorem fn__law_unit : P.fn? "_law_unit" = some ⟨"_law_unit", [false, false], ["many", "at", "k"], b__law_unit⟩ := by kernel_rfl
@[simp] theorem io__law_unit : P.io "_law_unit" = [false, false] := by kernel_rfl
theorem fn__law_combined : P.fn? "_law_combined" = some ⟨"_law_combined", [false, false, false], ["first", "second", "sign", "k"], b__law_combined⟩ := by kernel_rfl
@[simp] theorem io__law_combined : P.io "_law_combined" = [false, false, false] := by kernel_rfl
theorem fn__law_form : P.fn? "_law_form" = some ⟨"_law_form", [false, false], ["house", "job", "many", "none", "now", "values", "statement", "word", "k", "row"], b__law_form⟩ := by kernel_rfl
@[simp] theorem io__law_form : P.io "_law_form" = [false, false] := by kernel_rfl
theorem fn__law_factor_then : P.fn? "_law_factor_then" = some ⟨"_law_factor_then", [false, false, false], ["form", "factors", "at", "k"], b__law_factor_then⟩ := by kernel_rfl
@[simp] theorem io__law_factor_then : P.io "_law_factor_then" = [false, false, false] := by kernel_rfl
theorem fn__law_then : P.fn? "_law_then" = some ⟨"_law_then", [false, false], ["form", "other", "found", "number", "factors", "total", "k", "at"], b__law_then⟩ := by kernel_rfl
@[simp] theorem io__law_then : P.io "_law_then" = [false, false] := by kernel_rfl
theorem fn__law_order_form : P.fn? "_law_order_form" = some ⟨"_law_order_form", [false, false], ["house", "order", "many", "form", "job", "k"], b__law_order_form⟩ := by kernel_rfl
@[simp] theorem io__law_order_form : P.io "_law_order_form" = [false, false] := by kernel_rfl
theorem fn__law_by : P.fn? "_law_by" = some ⟨"_law_by", [false, false], ["form", "numbers", "number", "factors"], b__law_by⟩ := by kernel_rfl
@[simp] theorem io__law_by : P.io "_law_by" = [false, false] := by kernel_rfl
theorem fn__law_some_order : P.fn? "_law_some_order" = some ⟨"_law_some_order", [false, false, false], ["draws", "at", "jobs", "left", "found", "many", "k"], b__law_some_order⟩ := by kernel_rfl
@[simp] theorem io__law_some_order : P.io "_law_some_order" = [false, false, false] := by kernel_rfl
theorem fn__law_alike_due : P.fn? "_law_alike_due" = some ⟨"_law_alike_due", [false, false], ["first", "second", "at", "numbers", "k"], b__law_alike_due⟩ := by kernel_rfl
@[simp] theorem io__law_alike_due : P.io "_law_alike_due" = [false, false] := by kernel_rfl
theorem fn__law_other_order : P.fn? "_law_other_order" = some ⟨"_law_other_order", [false, false, false], ["draws", "order", "jobs", "kind", "at"], b__law_other_order⟩ := by kernel_rfl
@[simp] theorem io__law_other_order : P.io "_law_other_order" = [false, false, false] := by kernel_rfl
theorem fn__law_is_unlike : P.fn? "_law_is_unlike" = some ⟨"_law_is_unlike", [false, false], ["forms", "paper", "number"], b__law_is_unlike⟩ := by kernel_rfl
@[simp] theorem io__law_is_unlike : P.io "_law_is_unlike" = [false, false] := by kernel_rfl
theorem fn__law_papers : P.fn? "_law_papers" = some ⟨"_law_papers", [false, false, false], ["draws", "many", "told", "found", "turn", "numbers", "word", "at", "k"], b__law_papers⟩ := by kernel_rfl
@[simp] theorem io__law_papers : P.io "_law_papers" = [false, false, false] := by kernel_rfl
theorem fn_law : P.fn? "law" = some ⟨"law", [false], ["script", "draws", "house", "order", "others", "kind", "accounts", "jobs", "other", "forms", "due", "given", "told", "paper", "text"], b_law⟩ := by kernel_rfl
@[simp] theorem io_law : P.io "law" = [false] := by kernel_rfl
@[simp] theorem glb_SUMS : P.glb "SUMS" = some (.tuple [.str "add", .str "sub", .str "less", .str "same"]) := by kernel_rfl
/-- the text's defs -/
def sts : List Stmt := PySem.Challenge.pw_ledgerhouse_k34_orders_alike_and_their_j.main.body.filter PL.isDef
theorem chk : chkAll P P.fns sts = true := by decide +kernel
end PL.K

namespace PL.K
open PySem PL.Y
local macro_rules | `(tactic| trivial) => `(tactic| first | omega | (simp -implicitDefEqProofs; done) | (simp -implicitDefEqProofs; omega))
theorem parts_of_ok (n : Nat) (s : St) : run P (n + 1) "parts_of" [.d (encT s)] = some (.new (.lst ((parts s).map fun b => .tuple (b.map encT))), [some (.d (encT s))]) := by
  refine of_wp ?_
  rw [run_at fn_parts_of rfl]
  cases s with
  | op k v a b => cases k <;> simp -implicitDefEqProofs (disch := first | omega | (simp -implicitDefEqProofs; done) | (simp -implicitDefEqProofs; omega)) [b_parts_of, encT, parts, Op.nm, if_le_lim]
  | _ => simp -implicitDefEqProofs (disch := first | omega | (simp -implicitDefEqProofs; done) | (simp -implicitDefEqProofs; omega)) [b_parts_of, encT, parts, if_le_lim]
theorem local_names_ok (n : Nat) (s : St) : run P (n + 1) "local_names" [.d (encT s)] = some (.new (.lst ((lnames s).map .str)), [some (.d (encT s))]) := by
  have e : ∀ y : Str, cmpF .In (.str y) (.tuple [.str "add", .str "sub", .str "less", .str "same"]) = some (decide (y ∈ [("add" : Str), "sub", "less", "same"])) := fun y => in_strs (zs := ["add", "sub", "less", "same"]) (by decide)
  refine of_wp ?_
  rw [run_at fn_local_names rfl]
  cases s with
  | op k v a b => cases k <;> simp -implicitDefEqProofs (disch := first | omega | (simp -implicitDefEqProofs; done) | (simp -implicitDefEqProofs; omega)) [b_local_names, encT, Op.nm, lnames, if_le_lim, e]
  | _ => simp -implicitDefEqProofs (disch := first | omega | (simp -implicitDefEqProofs; done) | (simp -implicitDefEqProofs; omega)) [b_local_names, encT, lnames, if_le_lim, e]
theorem statements_step (k n : Nat) (b : List St) (ih : ∀ c : List St, dpTs c + 1 ≤ k → szTs c ≤ 1000000 → run P (n + k + 1) "statements_in" [.d (.tuple (c.map encT))] = some (.new (.lst ((stmts c).map encT)), [some (.d (.tuple (c.map encT)))]))
    (hd : dpTs b ≤ k) (hs : szTs b ≤ 1000000) : run P (n + k + 2) "statements_in" [.d (.tuple (b.map encT))] = some (.new (.lst ((stmts b).map encT)), [some (.d (.tuple (b.map encT)))]) := by
  refine of_wp ?_
  rw [show n + k + 2 = (n + k + 1) + 1 from rfl, run_at fn_statements_in rfl]
  simp -implicitDefEqProofs (disch := first | omega | (simp -implicitDefEqProofs; done) | (simp -implicitDefEqProofs; omega)) [b_statements_in, if_le_lim]
  refine wp_forI (fun i e => ∃ j1 j2, e = [some (.d (.tuple (b.map encT))), some (.own false (.lst ((stmts (b.take i)).map encT))), jk j1, jk j2]) ⟨none, none, by simp [stmts]⟩ (fun J hJ => ?_) ?_
  · rintro i x e hx ⟨j1, j2, rfl⟩
    obtain ⟨hi, rfl⟩ := get_map hx
    have hm : b[i] ∈ b := List.getElem_mem hi
    have h1 := szTs_take b (i + 1)
    have h2 := szT_le hm
    have h3 := dpT_le hm
    have e1 : stmts (b.take (i + 1)) = stmts (b.take i) ++ stmt1 b[i] := by rw [take_snoc hi, stmts_app, stmts, stmts, List.append_nil]
    have l1 : (stmts (b.take (i + 1))).length ≤ 1000000 := by rw [stmts_len]; omega
    rw [e1, List.length_append] at l1
    generalize hg : b[i] = s at *
    simp -implicitDefEqProofs (disch := first | omega | (simp -implicitDefEqProofs; done) | (simp -implicitDefEqProofs; omega)) [appL, parts_of_ok]
    cases s with
    | ite v a c =>
      rw [stmt1] at l1
      simp at l1
      rw [szT] at h2
      rw [dpT] at h3
      simp -implicitDefEqProofs (disch := first | omega | (simp -implicitDefEqProofs; done) | (simp -implicitDefEqProofs; omega)) [parts, wp_forCons, wp_forNil, ih, extL]
      exact hJ _ _ ⟨some _, some _, by rw [e1, stmt1]; simp; exact ⟨rfl, rfl⟩⟩
    | _ =>
      simp -implicitDefEqProofs (disch := first | omega | (simp -implicitDefEqProofs; done) | (simp -implicitDefEqProofs; omega)) [parts, wp_forNil]
      exact hJ _ _ ⟨some _, j2, by rw [e1, List.map_append]; rfl⟩
  · rintro e ⟨j1, j2, rfl⟩
    simp -implicitDefEqProofs
theorem statements_in_ok : ∀ (k n : Nat) (b : List St), dpTs b ≤ k → szTs b ≤ 1000000 → run P (n + k + 2) "statements_in" [.d (.tuple (b.map encT))] = some (.new (.lst ((stmts b).map encT)), [some (.d (.tuple (b.map encT)))]) := by
  intro k
  induction k with
  | zero => exact fun n b hd hs => statements_step 0 n b (fun c hc => by omega) hd hs
  | succ k ih => exact fun n b hd hs => statements_step (k + 1) n b (fun c hc hz => ih n c (by omega) hz) hd hs
theorem locals_of_ok (k n : Nat) (h : Ho) (j : Nat) (hj : j < h.jobs.length) (hd : dpTs h.jobs[j].2.2 ≤ k) (hs : szTs h.jobs[j].2.2 ≤ 1000000) :
    run P (n + k + 3) "locals_of" [.d (encH h), .d (.int j)] = some (.new (.lst ((locals h.jobs[j].2.2).map .str)), [some (.d (encH h)), some (.d (.int j))]) := by
  refine of_wp ?_
  rw [show n + k + 3 = (n + k + 2) + 1 from rfl, run_at fn_locals_of rfl]
  have ha : at? (h.jobs.map encJ) (j : Int) = some (encJ h.jobs[j]) := at_get (by rw [List.getElem?_map, List.getElem?_eq_getElem hj]; rfl)
  have st := statements_in_ok k n h.jobs[j].2.2 hd hs
  generalize hb : h.jobs[j].2.2 = b at *
  have ej : encJ h.jobs[j] = .tuple [.str h.jobs[j].1, .str h.jobs[j].2.1, .tuple (b.map encT)] := by rw [encJ, hb]
  have sl : (stmts b).length ≤ 1000000 := by rw [stmts_len]; exact hs
  simp -implicitDefEqProofs (disch := first | omega | (simp -implicitDefEqProofs; done) | (simp -implicitDefEqProofs; omega)) [b_locals_of, encH, if_le_lim, ha, ej, st]
  refine wp_forI (fun i e => ∃ j1 j2, e = [some (.d (encH h)), some (.d (.int j)), some (.own false (.lst ((((stmts b).take i).flatMap lnames).foldl addS [] |>.map .str))), some (.own false (.dic (knD ((((stmts b).take i).flatMap lnames).foldl addS [])))), jk j1, jk j2] ∧ ((((stmts b).take i).flatMap lnames).foldl addS []).length ≤ 3 * i) ⟨none, none, by simp [encH, knD]⟩ (fun J hJ => ?_) ?_
  · rintro i x e hx ⟨j1, j2, rfl, hL⟩
    obtain ⟨hi, rfl⟩ := get_map hx
    have e1 : (((stmts b).take (i + 1)).flatMap lnames) = ((stmts b).take i).flatMap lnames ++ lnames (stmts b)[i] := by rw [take_snoc hi, List.flatMap_append, List.flatMap_cons, List.flatMap_nil, List.append_nil]
    have l3 := lnames_len (stmts b)[i]
    generalize (stmts b)[i] = s at *
    generalize hF : (((stmts b).take i).flatMap lnames).foldl addS [] = F at *
    simp -implicitDefEqProofs (disch := first | omega | (simp -implicitDefEqProofs; done) | (simp -implicitDefEqProofs; omega)) [local_names_ok]
    refine wp_forI (fun m e => ∃ j2, e = [some (.d (encH h)), some (.d (.int j)), some (.own false (.lst (((lnames s).take m).foldl addS F |>.map .str))), some (.own false (.dic (knD (((lnames s).take m).foldl addS F)))), some (.d (encT s)), jk j2]) ⟨j2, by simp⟩ (fun J2 hJ2 => ?_) ?_
    · rintro m x e hx ⟨j2, rfl⟩
      obtain ⟨hm, rfl⟩ := get_map hx
      have e2 : ((lnames s).take (m + 1)).foldl addS F = addS (((lnames s).take m).foldl addS F) (lnames s)[m] := by rw [take_snoc hm, List.foldl_append]; rfl
      have l4 : (((lnames s).take m).foldl addS F).length ≤ 3000003 := by
        have := foldl_addS_len ((lnames s).take m) F
        rw [List.length_take] at this
        omega
      generalize (lnames s)[m] = x at *
      generalize ((lnames s).take m).foldl addS F = F2 at *
      simp -implicitDefEqProofs (disch := first | omega | (simp -implicitDefEqProofs; done) | (simp -implicitDefEqProofs; omega)) [wp_br, cmp_notInDict, dKeys_kn, dget_kn, appL]
      refine ⟨fun hx => ?_, fun hx => ?_⟩
      · rw [sto_dic rfl (by unfold knD; rw [List.length_map]; exact lt_lim (by omega)), dput_kn hx]
        simp -implicitDefEqProofs (disch := first | omega | (simp -implicitDefEqProofs; done) | (simp -implicitDefEqProofs; omega)) [appL]
        exact hJ2 _ _ ⟨some (.str x), by rw [e2, addS, if_neg hx, List.map_append]; rfl⟩
      · exact hJ2 _ _ ⟨some (.str x), by rw [e2, addS, if_pos hx]; rfl⟩
    · rintro e ⟨j2, rfl⟩
      simp -implicitDefEqProofs
      refine hJ _ _ ⟨some (encT s), j2, by rw [e1, List.foldl_append, hF]; rfl, ?_⟩
      rw [e1, List.foldl_append, hF]
      have := foldl_addS_len (lnames s) F
      omega
  · rintro e ⟨j1, j2, rfl, hL⟩
    simp -implicitDefEqProofs
    exact ⟨rfl, rfl⟩
theorem account_numbers_ok (n : Nat) (h : Ho) (hn : (h.acc.map (·.1)).Nodup) (hl : h.acc.length ≤ 1000000) : run P (n + 1) "account_numbers" [.d (encH h)] = some (.new (.dic (numD (h.acc.map (·.1)))), [some (.d (encH h))]) := by
  refine of_wp ?_
  rw [run_at fn_account_numbers rfl]
  simp -implicitDefEqProofs (disch := first | omega | (simp -implicitDefEqProofs; done) | (simp -implicitDefEqProofs; omega)) [b_account_numbers, encH, rng1]
  rw [dcL_map (fun i : Nat => (.str ((h.acc.map (·.1)).getD i ""), .int (i : Int)))]
  · simp -implicitDefEqProofs [numD]
  · intro i hi
    have hi := List.mem_range.mp hi
    have ha : at? (h.acc.map encA) (i : Int) = some (encA h.acc[i]) := at_get (by rw [List.getElem?_map, List.getElem?_eq_getElem hi]; rfl)
    refine of_wp ?_
    rw [getD_of (by simpa using hi)]
    simp -implicitDefEqProofs [dcT_eq, ha, encA]
  · exact fun _ _ => rfl
  · simpa using by omega
  · exact fun _ _ => rfl
  · rw [List.pairwise_map]
    refine List.Pairwise.imp_of_mem ?_ (List.nodup_range : (List.range h.acc.length).Nodup)
    intro i j hi hj hij
    have hi := List.mem_range.mp hi
    have hj := List.mem_range.mp hj
    rw [getD_of (by simpa using hi), getD_of (by simpa using hj)]
    simp only [keyEq_str]
    exact decide_eq_false fun e => hij (nodup_ix hn (by simpa using hi) (by simpa using hj) e)
end PL.K

namespace PL.K
open PySem PL.Y
local macro_rules | `(tactic| trivial) => `(tactic| first | omega | (simp -implicitDefEqProofs; done) | (simp -implicitDefEqProofs; omega))
theorem zero_sum_ok (n w : Nat) (hw : w ≤ 1000) : run P (n + 1) "zero_sum" [.d (.int w)] = some (.d (encS (zero w)), [some (.d (.int w))]) := by
  refine of_wp ?_
  rw [run_at fn_zero_sum rfl]
  simp -implicitDefEqProofs (disch := first | omega | (simp -implicitDefEqProofs; done) | (simp -implicitDefEqProofs; omega)) [b_zero_sum, bin_rep1, if_le_lim, encS, encI, zero]
theorem single_sum_ok (n w a : Nat) (hw : w ≤ 1000) (ha : a < w) : run P (n + 1) "single_sum" [.d (.int w), .d (.int a)] = some (.d (encS (single w a)), [some (.d (.int w)), some (.d (.int a))]) := by
  have e : ((w : Int) - a - 1) = ((w - a - 1 : Nat) : Int) := by omega
  refine of_wp ?_
  rw [run_at fn_single_sum rfl]
  simp -implicitDefEqProofs (disch := first | omega | (simp -implicitDefEqProofs; done) | (simp -implicitDefEqProofs; omega)) [b_single_sum, bin_rep1, e, if_le_lim, encS, encI, single, catT]
theorem begun_form_ok (n w : Nat) (hw : w ≤ 1000) : run P (n + 2) "begun_form" [.d (.int w)] = some (.new (.lst ((List.range w).map fun a => encS (single w a))), [some (.d (.int w))]) := by
  refine of_wp ?_
  rw [run_at fn_begun_form rfl]
  simp -implicitDefEqProofs (disch := first | omega | (simp -implicitDefEqProofs; done) | (simp -implicitDefEqProofs; omega)) [b_begun_form, rng1]
  rw [lcL_rng fun a => encS (single w a)]
  · simp
  · intro k hk
    refine of_wp ?_
    simp -implicitDefEqProofs (disch := first | omega | (simp -implicitDefEqProofs; done) | (simp -implicitDefEqProofs; omega)) [lcT_eq, single_sum_ok]
  · omega
theorem plus_ok (n : Nat) (s t : Sm) (k : Int) (h : s.2.length = t.2.length) (hl : s.2.length ≤ 1000) (hk : k.natAbs ≤ 10000000000000000000) :
    run P (n + 1) "plus" [.d (encS s), .d (encS t), .d (.int k)] = some (.d (encS (plus s t k)), [some (.d (encS s)), some (.d (encS t)), some (.d (.int k))]) := by
  refine of_wp ?_
  rw [run_at fn_plus rfl]
  simp -implicitDefEqProofs (disch := first | omega | (simp -implicitDefEqProofs; done) | (simp -implicitDefEqProofs; omega)) [b_plus, encS, encI, rng1]
  rw [lcL_rng fun i => .int (s.2.getD i 0 + k * t.2.getD i 0)]
  · have hz := zip_eq (k := k) h
    simp -implicitDefEqProofs (disch := first | omega | (simp -implicitDefEqProofs; done) | (simp -implicitDefEqProofs; omega)) [mulI, if_le_lim, plus, encS, encI]
    simpa using hz
  · intro i hi
    have h1 := getD_map (f := PyData.int) hi
    have h2 := getD_map (f := PyData.int) (h ▸ hi : i < t.2.length)
    refine of_wp ?_
    rw [getD_of hi, getD_of (h ▸ hi : i < t.2.length)]
    simp -implicitDefEqProofs (disch := first | omega | (simp -implicitDefEqProofs; done) | (simp -implicitDefEqProofs; omega)) [lcT_eq, h1, h2, mulI]
  · omega
end PL.K

namespace PL.K
open PySem PL.Y
local macro_rules | `(tactic| trivial) => `(tactic| first | omega | (simp -implicitDefEqProofs; done) | (simp -implicitDefEqProofs; omega))
theorem after_linear_ok (n : Nat) {names accs : List Str} {w : Nat} {st : List Sm × List Sm} {s : St} (hn : ∀ x ∈ names, okN x) (ha : accs.Nodup) (hw : accs.length = w) (hw1 : w ≤ 1000) (ok : LinOk names accs w st) (hs : LinS names accs s) :
    run P (n + 2) "after_linear" [.d (.list (names.map .str)), .d (.dict (numD accs)), .own true (.lst (st.1.map encS)), .own true (.lst (st.2.map encS)), .d (encT s)] =
      some (.d .none, [some (.d (.list (names.map .str))), some (.d (.dict (numD accs))), some (.own true (.lst ((lin1 names accs w st s).1.map encS))), some (.own true (.lst ((lin1 names accs w st s).2.map encS))), some (.d (encT s))]) := by
  have e1 : ∀ y : Str, cmpF .In (.str y) (.tuple [.str "add", .str "sub"]) = some (decide (y ∈ [("add" : Str), "sub"])) := fun y => in_strs (zs := ["add", "sub"]) (by decide)
  have ix : ∀ {x}, x ∈ names → mthF .index [.list (names.map .str), .str x] = some (.is (.int (names.idxOf x : Nat))) := fun h => index_strs hn h
  have dx : ∀ {x}, x ∈ accs → idxF (.dict (numD accs)) (.str x) = some (.is (.int (accs.idxOf x : Nat))) := fun h => idx_dict rfl (dKeys_num _) (dget_idx ha h)
  have g1 : ∀ {x}, x ∈ names → at? (st.1.map encS) (names.idxOf x : Nat) = some (encS (st.1.getD (names.idxOf x) (zero w))) := fun h => by
    have hi : names.idxOf ‹_› < st.1.length := by rw [ok.l1]; exact idx_lt h
    rw [getD_map hi, getD_of hi]
  have g2 : ∀ {x}, x ∈ accs → at? (st.2.map encS) (accs.idxOf x : Nat) = some (encS (st.2.getD (accs.idxOf x) (zero w))) := fun h => by
    have hi : accs.idxOf ‹_› < st.2.length := by rw [ok.l2]; exact idx_lt h
    rw [getD_map hi, getD_of hi]
  have s1 : ∀ {x} (v : Sm), x ∈ names → stoF (.lst (st.1.map encS)) (.int (names.idxOf x : Nat)) (encS v) = some (.lst ((st.1.set (names.idxOf x) v).map encS)) := fun v h => by
    rw [sto_nat (by rw [List.length_map, ok.l1]; exact idx_lt h), set_map]
  have s2 : ∀ {x} (v : Sm), x ∈ accs → stoF (.lst (st.2.map encS)) (.int (accs.idxOf x : Nat)) (encS v) = some (.lst ((st.2.set (accs.idxOf x) v).map encS)) := fun v h => by
    rw [sto_nat (by rw [List.length_map, ok.l2]; exact idx_lt h), set_map]
  have lw : ∀ {x}, x ∈ names → (st.1.getD (names.idxOf x) (zero w)).2.length = w := fun h => by
    have hi : names.idxOf ‹_› < st.1.length := by rw [ok.l1]; exact idx_lt h
    rw [getD_of hi]; exact ok.w1 _ (List.getElem_mem hi)
  refine of_wp ?_
  rw [run_at fn_after_linear rfl]
  cases s with
  | read v x => simp -implicitDefEqProofs (disch := trivial) [b_after_linear, encT, lin1, ix hs.1, dx hs.2, g2 hs.2, s1 _ hs.1]
  | write x v => simp -implicitDefEqProofs (disch := trivial) [b_after_linear, encT, lin1, ix hs.1, dx hs.2, g1 hs.1, s2 _ hs.2]
  | num v k =>
    have h0 := zero_sum_ok n w hw1
    have hl : st.2.length = w := ok.l2.trans hw
    have hz := s1 (k, List.replicate w 0) hs
    simp -implicitDefEqProofs (disch := trivial) [b_after_linear, encT, lin1, ix hs, hl, h0, if_le_lim, zero, fold_encS, hz]
  | copy v u => simp -implicitDefEqProofs (disch := trivial) [b_after_linear, encT, lin1, ix hs.1, ix hs.2, g1 hs.2, s1 _ hs.1]
  | op k v a b =>
    obtain ⟨hk, h1, h2, h3⟩ := hs
    have p1 := fun k hk => plus_ok n (st.1.getD (names.idxOf a) (zero w)) (st.1.getD (names.idxOf b) (zero w)) k ((lw h2).trans (lw h3).symm) (by rw [lw h2]; exact hw1) hk
    rcases hk with rfl | rfl <;> simp -implicitDefEqProofs (disch := trivial) [b_after_linear, encT, Op.nm, lin1, -List.getD_eq_getElem?_getD, ix h1, ix h2, ix h3, g1 h2, g1 h3, if_le_lim, e1, p1, s1 _ h1]
  | say v => simp -implicitDefEqProofs (disch := trivial) [b_after_linear, encT, lin1, if_le_lim, e1]
  | skip => simp -implicitDefEqProofs (disch := trivial) [b_after_linear, encT, lin1, if_le_lim, e1]
  | need _ => exact hs.elim
  | ite _ _ _ => exact hs.elim
end PL.K

namespace PL.K
open PySem PL.Y
local macro_rules | `(tactic| trivial) => `(tactic| first | omega | (simp -implicitDefEqProofs; done) | (simp -implicitDefEqProofs; omega))
theorem form_of_ok (n : Nat) (h : Ho) (lh : LinH h) (j : Nat) (hj : j < h.jobs.length) :
    run P (n + 4) "form_of" [.d (encH h), .d (.int j)] = some (.new (.lst ((jobForm h j).map encS)), [some (.d (encH h)), some (.d (.int j))]) := by
  have hf := lin_flat (lh.lin j hj)
  have hl := lh.len j hj
  have e1 := locals_of_ok 0 n h j hj (by rw [body_eq hj]; omega) (by rw [body_eq hj]; omega)
  rw [body_eq hj] at e1
  have e2 := account_numbers_ok (n + 2) h lh.nd (by have := lh.w; omega)
  have e3 := begun_form_ok (n + 1) h.acc.length lh.w
  have e4 := fun k => zero_sum_ok k h.acc.length lh.w
  have hL : (locals (body h j)).length ≤ 10000 := by
    have h1 := foldl_addS_len ((stmts (body h j)).flatMap lnames) []
    have h2 : ((stmts (body h j)).flatMap lnames).length ≤ 3 * (stmts (body h j)).length := by
      generalize stmts (body h j) = l
      induction l with
      | nil => simp
      | cons s l ih =>
        have := lnames_len s
        simp only [List.flatMap_cons, List.length_append, List.length_cons]
        omega
    rw [stmts_len, hf.2] at h2
    unfold locals
    rw [List.length_nil] at h1
    omega
  refine of_wp ?_
  rw [run_at fn_form_of rfl]
  simp -implicitDefEqProofs (disch := trivial) [b_form_of, e1, e2, e3]
  rw [lcL_map (fun _ => encS (zero h.acc.length)) (fun y hy => by
    refine of_wp ?_
    simp -implicitDefEqProofs (disch := trivial) [lcT_eq, e4]) (by simpa using by omega)]
  simp -implicitDefEqProofs (disch := trivial) [e3, at_job hj, body_eq hj]
  refine wp_forI (fun i e => ∃ j1 v4, (v4 = SV.own false (.dic (numD (names h))) ∨ v4 = .d (.dict (numD (names h)))) ∧ e = [some (.d (encH h)), some (.d (.int j)), some (.d (.int h.acc.length)), some (.d (.list ((locals (body h j)).map .str))), some v4, some (.own false (.lst ((jobSt h j ((body h j).take i)).1.map encS))), some (.own false (.lst ((jobSt h j ((body h j).take i)).2.map encS))), jk j1, none]) ⟨none, _, .inl rfl, by simp [jobSt, names, begun, List.map_const']⟩ (fun J hJ => ?_) ?_
  · rintro i x e hx ⟨j1, v4, h4, rfl⟩
    obtain ⟨hi, rfl⟩ := get_map hx
    have hm : (body h j)[i] ∈ body h j := List.getElem_mem hi
    have e5 := after_linear_ok (n + 1) (lh.nm j hj) lh.nd (by simp [names]) lh.w (jobSt_ok h j ((body h j).take i)) (lh.lin j hj _ hm)
    have e6 : jobSt h j ((body h j).take (i + 1)) = lin1 (locals (body h j)) (names h) h.acc.length (jobSt h j ((body h j).take i)) (body h j)[i] := by
      rw [jobSt, take_snoc hi, List.foldl_append]; rfl
    generalize (body h j)[i] = s at *
    rcases h4 with rfl | rfl <;> simp -implicitDefEqProofs (disch := trivial) [e5] <;> exact hJ _ _ ⟨some (encT s), _, .inr rfl, by rw [e6]; rfl⟩
  · rintro e ⟨j1, v4, h4, rfl⟩
    simp -implicitDefEqProofs (disch := trivial) [jobForm]
end PL.K

namespace PL.K
open PySem PL.Y
local macro_rules | `(tactic| trivial) => `(tactic| first | omega | (simp -implicitDefEqProofs; done) | (simp -implicitDefEqProofs; omega))
theorem put_in_ok (n w : Nat) (t : Sm) (form : List Sm) (hw : w ≤ 1000) (hf : FormOk w form) (ht : t.2.length = w) (hlo : Lo t) :
    run P (n + 2) "put_in" [.d (encS t), .d (.list (form.map encS))] = some (.d (encS (putIn t form)), [some (.d (encS t)), some (.d (.list (form.map encS)))]) := by
  have hl := hf.l
  have e0 := zero_sum_ok n w hw
  refine of_wp ?_
  rw [run_at fn_put_in rfl]
  simp -implicitDefEqProofs (disch := trivial) [b_put_in, hl, e0, if_le_lim, rng1]
  refine wp_forI (fun i e => ∃ j1, e = [some (.d (encS t)), some (.d (.list (form.map encS))), some (.d (encS ((List.range i).foldl (fun f a => plus f (form.getD a (zero form.length)) (t.2.getD a 0)) (t.1, List.replicate form.length 0)))), jk j1]) ⟨none, by simp [encS, zero, hl]⟩ (fun J hJ => ?_) ?_
  · rintro i x e hx ⟨j1, rfl⟩
    obtain ⟨hi, rfl⟩ := get_map hx
    have hi : i < w := by simpa using hi
    rw [List.getElem_range]
    have g1 := getD_map (f := encS) (hl ▸ hi : i < form.length)
    have g2 := getD_map (f := PyData.int) (ht ▸ hi : i < t.2.length)
    have hw1 := fold_w hf t (List.range i) (t.1, List.replicate form.length 0) (by simp [hl])
    generalize hF : (List.range i).foldl (fun f a => plus f (form.getD a (zero form.length)) (t.2.getD a 0)) (t.1, List.replicate form.length 0) = F at *
    have e1 := plus_ok n F form[i] t.2[i] (by rw [hw1, hf.w _ (List.getElem_mem _)]) (by omega) (hlo _ (List.getElem_mem _))
    simp -implicitDefEqProofs (disch := trivial) [g1, g2, e1, encI]
    refine hJ _ _ ⟨some (.int i), ?_⟩
    rw [List.range_succ, List.foldl_append, hF]
    simp only [List.foldl_cons, List.foldl_nil, getD_of (hl ▸ hi : i < form.length), getD_of (ht ▸ hi : i < t.2.length)]
    rfl
  · rintro e ⟨j1, rfl⟩
    simp -implicitDefEqProofs (disch := trivial) [putIn, hl]
theorem behind_form_ok (n w : Nat) (form following : List Sm) (hw : w ≤ 1000) (hf : FormOk w form) (hg : FormOk w following) (hlo : ∀ t ∈ following, Lo t) :
    run P (n + 3) "behind_form" [.d (.list (form.map encS)), .d (.list (following.map encS))] = some (.new (.lst ((behind form following).map encS)), [some (.d (.list (form.map encS))), some (.d (.list (following.map encS)))]) := by
  have hl := hg.l
  refine of_wp ?_
  rw [run_at fn_behind_form rfl]
  simp -implicitDefEqProofs (disch := trivial) [b_behind_form]
  rw [lcL_map (fun t => encS (putIn t form)) (fun t ht => by
    have e := put_in_ok n w t form hw hf (hg.w t ht) (hlo t ht)
    refine of_wp ?_
    simp -implicitDefEqProofs (disch := trivial) [lcT_eq, e]) (by simp; omega)]
  simp -implicitDefEqProofs (disch := trivial) [behind]
theorem order_form_ok (n : Nat) (h : Ho) (lh : LinH h) (hlo : ∀ j < h.jobs.length, ∀ t ∈ jobForm h j, Lo t) (o : List Nat) (ho : ∀ j ∈ o, j < h.jobs.length) :
    run P (n + 5) "order_form" [.d (encH h), .d (.list (o.map fun j => .int ((j : Nat) : Int)))] = some (.new (.lst ((orderForm h o).map encS)), [some (.d (encH h)), some (.d (.list (o.map fun j => .int ((j : Nat) : Int))))]) := by
  have e3 := begun_form_ok (n + 2) h.acc.length lh.w
  refine of_wp ?_
  rw [run_at fn_order_form rfl]
  simp -implicitDefEqProofs (disch := trivial) [b_order_form, e3]
  refine wp_forI (fun i e => ∃ j1, e = [some (.d (encH h)), some (.d (.list (o.map fun j => .int ((j : Nat) : Int)))), some (.own false (.lst ((orderForm h (o.take i)).map encS))), jk j1]) ⟨none, by simp [orderForm, begun]⟩ (fun J hJ => ?_) ?_
  · rintro i x e hx ⟨j1, rfl⟩
    obtain ⟨hi, rfl⟩ := get_map hx
    have hj := ho _ (List.getElem_mem hi)
    have e4 := form_of_ok n h lh o[i] hj
    have e5 := behind_form_ok (n + 1) h.acc.length (orderForm h (o.take i)) (jobForm h o[i]) lh.w (orderForm_ok h _ _ (begun_form _)) ⟨jobForm_len h _, jobForm_w h _⟩ (hlo _ hj)
    have e6 : orderForm h (o.take (i + 1)) = behind (orderForm h (o.take i)) (jobForm h o[i]) := by
      rw [orderForm, take_snoc hi, List.foldl_append]; rfl
    generalize o[i] = j at *
    simp -implicitDefEqProofs (disch := trivial) [e4, e5]
    exact hJ _ _ ⟨some (.int j), by rw [e6]; rfl⟩
  · rintro e ⟨j1, rfl⟩
    simp -implicitDefEqProofs (disch := trivial)
end PL.K

namespace PL.K
open PySem PL.Y
local macro_rules | `(tactic| trivial) => `(tactic| first | omega | (simp -implicitDefEqProofs; done) | (simp -implicitDefEqProofs; omega))
theorem is_number_ok (n : Nat) (x : D) (h : isD x = false) : run P (n + 1) "is_number" [.d x] = some (.d (.bool (isNum x)), [some (.d x)]) := by
  refine of_wp ?_
  rw [run_at fn_is_number rfl]
  cases x <;> first | (cases h; done) | simp -implicitDefEqProofs (disch := trivial) [b_is_number, isi_eq]
theorem is_index_ok (n : Nat) (x : D) (jobs : Nat) (h : isD x = false) : run P (n + 2) "is_index" [.d x, .d (.int jobs)] = some (.d (.bool (toIx jobs x).isSome), [some (.d x), some (.d (.int jobs))]) := by
  have e := is_number_ok n x h
  refine of_wp ?_
  rw [run_at fn_is_index rfl]
  cases x with
  | int k =>
    simp -implicitDefEqProofs (disch := trivial) [b_is_index, e, toIx, wp_br]
    refine ⟨fun h1 => ?_, fun h1 => ?_⟩
    · by_cases h2 : k < jobs
      · rw [if_pos ⟨h1, h2⟩]; simp [h2]
      · rw [if_neg fun h => h2 h.2]; simp [h2]
    · omega
  | dict _ => cases h
  | _ => simp -implicitDefEqProofs (disch := trivial) [b_is_index, e, toIx, wp_br]
theorem is_tagged_ok (n : Nat) (x : D) (t : Str) (L : Nat) (hL : 0 < L) (h : isD x = false) (h1 : ∀ y ys, x = .tuple (y :: ys) → isD y = false) : run P (n + 1) "is_tagged" [.d x, .d (.str t), .d (.int L)] = some (.d (.bool (tagB t L x)), [some (.d x), some (.d (.str t)), some (.d (.int L))]) := by
  refine of_wp ?_
  rw [run_at fn_is_tagged rfl]
  cases x with
  | tuple xs =>
    cases xs with
    | nil =>
      have hL' : ¬ (0 : Int) = L := by omega
      simp -implicitDefEqProofs (disch := trivial) [b_is_tagged, isi_eq, tagB, hL']
    | cons y ys =>
      have hy := h1 y ys rfl
      simp -implicitDefEqProofs (disch := trivial) [b_is_tagged, isi_eq, tagB, wp_br]
      refine ⟨fun hl => ?_, fun hl => ?_⟩
      · have : ¬ ys.length + 1 = L := by omega
        simp [this]
      · have : ys.length + 1 = L := by omega
        cases y <;> first | (cases hy; done) | simp -implicitDefEqProofs (disch := trivial) [isi_eq, tagS, this]
  | dict _ => cases h
  | _ => simp -implicitDefEqProofs (disch := trivial) [b_is_tagged, isi_eq, tagB]
end PL.K

namespace PL.K
open PySem PL.Y
local macro_rules | `(tactic| trivial) => `(tactic| first | omega | (simp -implicitDefEqProofs; done) | (simp -implicitDefEqProofs; omega))
theorem law_unit_ok (n w a : Nat) (hw : w ≤ 1000) (ha : a < w) : run P (n + 1) "_law_unit" [.d (.int w), .d (nI a)] = some (.d (encF (single w a)), [some (.d (.int w)), some (.d (nI a))]) := by
  refine of_wp ?_
  rw [run_at fn__law_unit rfl]
  simp -implicitDefEqProofs (disch := trivial) [b__law_unit, rng_s1]
  rw [lcL_rng fun k => .int (if (k : Int) = (a : Int) + 1 then 1 else 0)]
  · simp -implicitDefEqProofs (disch := trivial)
    rw [encF, encI, ← single_row ha]
  · intro k hk
    refine of_wp ?_
    simp -implicitDefEqProofs (disch := trivial) [lcT_eq]
  · omega
theorem law_combined_ok (n : Nat) (s t : Sm) (k : Int) (h : s.2.length = t.2.length) (hl : s.2.length ≤ 1000) (hk : k.natAbs ≤ 1) :
    run P (n + 1) "_law_combined" [.d (encF s), .d (encF t), .d (.int k)] = some (.d (encF (plus s t k)), [some (.d (encF s)), some (.d (encF t)), some (.d (.int k))]) := by
  refine of_wp ?_
  rw [run_at fn__law_combined rfl]
  have hlen : (((s.1 :: s.2).map PyData.int).length : Int) = ((s.2.length + 1 : Nat) : Int) := by simp
  simp -implicitDefEqProofs (disch := trivial) [b__law_combined, encF, encI, rng_s1]
  rw [lcL_rng fun i => .int ((s.1 :: s.2).getD i 0 + k * (t.1 :: t.2).getD i 0)]
  · rw [plus_row h]
    simp -implicitDefEqProofs (disch := trivial)
  · intro i hi
    have a1 := row_at (s := s) hi
    have a2 := row_at (s := t) (h ▸ hi)
    rw [List.map_cons] at a1 a2
    refine of_wp ?_
    simp -implicitDefEqProofs (disch := trivial) [lcT_eq, a1, a2, mulI, -List.getD_eq_getElem?_getD]
  · omega
theorem law_account_ok (n : Nat) (h : Ho) (hn : ∀ x ∈ names h, okN x) (hl : h.acc.length ≤ 1000) (x : Str) (hx : x ∈ names h) :
    run P (n + 1) "_law_account" [.d (encH h), .d (.str x)] = some (.d (nI ((names h).idxOf x)), [some (.d (encH h)), some (.d (.str x))]) := by
  have e1 := index_strs hn hx
  have e2 : (names h).map PyData.str = h.acc.map fun a => .str a.1 := by rw [names, List.map_map]; rfl
  rw [e2] at e1
  refine of_wp ?_
  rw [run_at fn__law_account rfl]
  simp -implicitDefEqProofs (disch := trivial) [b__law_account]
  rw [lcL_map (fun a : Str × Int => .str a.1) (fun y hy => by
    refine of_wp ?_
    simp -implicitDefEqProofs (disch := trivial) [lcT_eq, encA]) (by simp; omega)]
  simp -implicitDefEqProofs (disch := trivial) [e1]
end PL.K

namespace PL.K
open PySem PL.Y
local macro_rules | `(tactic| trivial) => `(tactic| first | omega | (simp -implicitDefEqProofs; done) | (simp -implicitDefEqProofs; omega))
theorem law_factor_then_ok (n w : Nat) (form : List Sm) (t : Sm) (at' : Nat) (hw : w ≤ 1000) (hf : FormOk w form) (ht : t.2.length = w) (hlo : Lo t) (ha : at' < w) :
    run P (n + 1) "_law_factor_then" [.d (.list (form.map encS)), .d (encI t.2), .d (nI at')] = some (.d (.int (dot t.2 form fun s => s.2.getD at' 0)), [some (.d (.list (form.map encS))), some (.d (encI t.2)), some (.d (nI at'))]) := by
  have hl := hf.l
  refine of_wp ?_
  rw [run_at fn__law_factor_then rfl]
  simp -implicitDefEqProofs (disch := trivial) [b__law_factor_then, hl, rng1]
  rw [lcL_rng fun k => .int (t.2.getD k 0 * (form.getD k (zero form.length)).2.getD at' 0)]
  · have := blt_sum ((List.range w).map fun k => t.2.getD k 0 * (form.getD k (zero form.length)).2.getD at' 0)
    rw [List.map_map] at this
    simp -implicitDefEqProofs (disch := trivial) [-List.getD_eq_getElem?_getD]
    rw [show (fun k => PyData.int (t.2.getD k 0 * (form.getD k (zero form.length)).2.getD at' 0)) = (PyData.int ∘ fun k => t.2.getD k 0 * (form.getD k (zero form.length)).2.getD at' 0) from rfl, this]
    simp -implicitDefEqProofs (disch := trivial) [dot, hl]
  · intro k hk
    have g1 := getD_map (f := encS) (hl ▸ hk : k < form.length)
    have g2 := getD_map (f := PyData.int) (ht ▸ hk : k < t.2.length)
    have hwk := hf.w _ (List.getElem_mem (hl ▸ hk : k < form.length))
    have g3 := getD_map (f := PyData.int) (hwk.symm ▸ ha : at' < form[k].2.length)
    have b1 := lo_get hlo k
    rw [getD_of (ht ▸ hk : k < t.2.length)] at *
    rw [getD_of (hl ▸ hk : k < form.length), getD_of (hwk.symm ▸ ha : at' < form[k].2.length)]
    refine of_wp ?_
    simp -implicitDefEqProofs (disch := trivial) [lcT_eq, g1, g2, g3, mulI, encI]
  · omega
theorem law_then_ok (n w : Nat) (form other : List Sm) (hw : w ≤ 1000) (hf : FormOk w form) (hg : FormOk w other) (hlo : ∀ t ∈ other, Lo t) :
    run P (n + 2) "_law_then" [.d (.list (form.map encS)), .d (.list (other.map encS))] = some (.new (.lst ((behind form other).map encS)), [some (.d (.list (form.map encS))), some (.d (.list (other.map encS)))]) := by
  have hl := hf.l
  have hgl := hg.l
  refine of_wp ?_
  rw [run_at fn__law_then rfl]
  simp -implicitDefEqProofs (disch := trivial) [b__law_then, if_le_lim]
  refine wp_forI (fun i e => ∃ j3 j4 j5, e = [some (.d (.list (form.map encS))), some (.d (.list (other.map encS))), some (.own false (.lst ((behind form (other.take i)).map encS))), jk j3, jk j4, jk j5, none, none]) ⟨none, none, none, by simp [behind]⟩ (fun J hJ => ?_) ?_
  · rintro i x e hx ⟨j3, j4, j5, rfl⟩
    obtain ⟨hi, rfl⟩ := get_map hx
    have hm := List.getElem_mem hi
    have ht := hg.w _ hm
    have hlt := hlo _ hm
    have e2 : other.take (i + 1) = other.take i ++ [other[i]] := take_snoc hi
    have hbl : (behind form (other.take i)).length ≤ 1000 := by simp [behind]; omega
    generalize other[i] = t at *
    have e3 := putIn_eq t hf
    simp -implicitDefEqProofs (disch := trivial) [encS, hl, rng1]
    rw [lcL_rng fun k => .int (t.2.getD k 0 * (form.getD k (zero form.length)).1)]
    · have hs := blt_sum ((List.range w).map fun k => t.2.getD k 0 * (form.getD k (zero form.length)).1)
      rw [List.map_map] at hs
      have hs' : bltF .sum [.list ((List.range w).map fun k => PyData.int (t.2.getD k 0 * (form.getD k (zero form.length)).1))] = some (.is (.int (dot t.2 form (·.1)))) := by
        rw [dot, hl] at *; exact hs
      rw [hl] at hs'
      simp -implicitDefEqProofs (disch := trivial) [hs', hl, rng1, -List.getD_eq_getElem?_getD]
      rw [lcL_rng fun at' => .int (dot t.2 form fun s => s.2.getD at' 0)]
      · simp -implicitDefEqProofs (disch := trivial) [if_le_lim, appL, -List.getD_eq_getElem?_getD]
        refine hJ _ _ ⟨some (.int t.1), some (encI t.2), some (.int (t.1 + dot t.2 form (·.1))), ?_⟩
        have e7 : behind form (other.take i ++ [t]) = behind form (other.take i) ++ [putIn t form] := by simp [behind]
        rw [e2, e7, e3]
        simp only [encS, encI, List.map_append, List.map_cons, List.map_nil, List.map_map]
        rfl
      · intro k hk
        have e4 := law_factor_then_ok n w form t k hw hf ht hlt hk
        refine of_wp ?_
        simp -implicitDefEqProofs (disch := trivial) [lcT_eq, e4, -List.getD_eq_getElem?_getD]
      · omega
    · intro k hk
      have g1 := getD_map (f := encS) (hl ▸ hk : k < form.length)
      have g2 := getD_map (f := PyData.int) (ht ▸ hk : k < t.2.length)
      have b1 := lo_get hlt k
      rw [getD_of (ht ▸ hk : k < t.2.length)] at *
      rw [getD_of (hl ▸ hk : k < form.length)]
      refine of_wp ?_
      simp -implicitDefEqProofs (disch := trivial) [lcT_eq, g1, g2, mulI, encI]
    · omega
  · rintro e ⟨j3, j4, j5, rfl⟩
    simp -implicitDefEqProofs (disch := trivial)
end PL.K

namespace PL.K
open PySem PL.Y
local macro_rules | `(tactic| trivial) => `(tactic| first | omega | (simp -implicitDefEqProofs; done) | (simp -implicitDefEqProofs; omega))
theorem law_form_ok (n : Nat) (h : Ho) (lh : LinH h) (hnm : ∀ x ∈ names h, okN x) (j : Nat) (hj : j < h.jobs.length) :
    run P (n + 2) "_law_form" [.d (encH h), .d (nI j)] = some (.new (.lst ((jobForm h j).map encS)), [some (.d (encH h)), some (.d (nI j))]) := by
  have hw := lh.w
  have e0 : ((PyData.int 0) :: List.replicate h.acc.length (PyData.int 0)) = ((zero h.acc.length).1 :: (zero h.acc.length).2).map .int := by simp [zero]
  have eb : binF .Mult (.tuple [.int 0]) (.int ((h.acc.length : Int) + 1)) = some (.is (encF (zero h.acc.length))) := by
    have := bin_rep1 (.int 0) (n := h.acc.length + 1) (by omega)
    rw [List.replicate_succ, e0] at this
    exact this
  have hlb := lh.len j hj
  refine of_wp ?_
  rw [run_at fn__law_form rfl]
  simp -implicitDefEqProofs (disch := trivial) [b__law_form, if_le_lim, eb, rng1]
  rw [lcL_rng fun k => encF (single h.acc.length k)]
  · simp -implicitDefEqProofs (disch := trivial) [at_job hj, body_eq hj]
    refine wp_forI (fun i e => ∃ m j6 j7, e = [some (.d (encH h)), some (.d (nI j)), some (.d (.int h.acc.length)), some (.d (encF (zero h.acc.length))), some (.own false (.lst ((jobSt h j ((body h j).take i)).2.map encF))), some (.own false (.dic (valD m))), jk j6, jk j7, none, none] ∧ m.length ≤ i ∧ Rel (locals (body h j)) h.acc.length (jobSt h j ((body h j).take i)).1 m) ⟨[], none, none, by simp [jobSt, begun, valD], Nat.le_refl _, ?_⟩ (fun J hJ => ?_) ?_
    · intro x hx
      have : (jobSt h j ((body h j).take 0)).1 = List.replicate (locals (body h j)).length (zero h.acc.length) := rfl
      rw [this, getD_of (by rw [List.length_replicate]; exact idx_lt hx), List.getElem_replicate]
      rfl
    · rintro i x e hx ⟨m, j6, j7, rfl, hml, hr⟩
      obtain ⟨hi, rfl⟩ := get_map hx
      have hm : (body h j)[i] ∈ body h j := List.getElem_mem hi
      have ok := jobSt_ok h j ((body h j).take i)
      have hs := lh.lin j hj _ hm
      have e6 : jobSt h j ((body h j).take (i + 1)) = lin1 (locals (body h j)) (names h) h.acc.length (jobSt h j ((body h j).take i)) (body h j)[i] := by
        rw [jobSt, take_snoc hi, List.foldl_append]; rfl
      have hJ' := fun m' a6 a7 (h1 : m'.length ≤ i + 1) (h2 : Rel (locals (body h j)) h.acc.length (jobSt h j ((body h j).take (i + 1))).1 m') => hJ (i + 1) _ ⟨m', a6, a7, rfl, h1, h2⟩
      rw [e6] at hJ'
      clear hJ hx e6
      generalize (body h j)[i] = s at *
      generalize jobSt h j ((body h j).take i) = st at *
      have ac := fun {x} (hx : x ∈ names h) => law_account_ok n h hnm hw x hx
      have gv := fun {x} (hx : x ∈ locals (body h j)) => vget_w hr hx
      have sv := fun x s => sto_val (m := m) (by omega) x s
      have lv := fun x s => Nat.le_trans (vput_len m x s) (Nat.succ_le_succ hml)
      have an : ∀ {x}, x ∈ names h → at? (st.2.map encF) (((names h).idxOf x : Nat) : Int) = some (encF (st.2.getD ((names h).idxOf x) (zero h.acc.length))) := fun hx => by
        have hi : (names h).idxOf ‹_› < st.2.length := by rw [ok.l2]; exact idx_lt hx
        rw [getD_map hi, getD_of hi]
      have sn : ∀ {x} (v : Sm), x ∈ names h → stoF (.lst (st.2.map encF)) (nI ((names h).idxOf x)) (encF v) = some (.lst ((st.2.set ((names h).idxOf x) v).map encF)) := fun v hx => by
        rw [nI, sto_nat (by rw [List.length_map, ok.l2]; exact idx_lt hx), set_map]
      have lw := fun x => getD_w ok.w1 (w := h.acc.length) ((locals (body h j)).idxOf x)
      have e1 : ∀ y : Str, cmpF .In (.str y) (.list [.str "add", .str "sub"]) = some (decide (y ∈ [("add" : Str), "sub"])) := fun y => in_strL (zs := ["add", "sub"]) (by decide)
      cases s with
      | read v x =>
        have := hJ' (vput m v (st.2.getD ((names h).idxOf x) (zero h.acc.length))) (some (encT (.read v x))) (some (.str "read")) (lv _ _) (hr.put ok.l1 hs.1 _)
        simp -implicitDefEqProofs (disch := trivial) [encT, ac hs.2, an hs.2, sv, -List.getD_eq_getElem?_getD]
        exact this
      | write x v =>
        have := hJ' m (some (encT (.write x v))) (some (.str "write")) (by omega) hr
        simp -implicitDefEqProofs (disch := trivial) [encT, ac hs.2, gv hs.1, sn _ hs.2, -List.getD_eq_getElem?_getD]
        rw [set_map]
        exact this
      | num v k =>
        have := hJ' (vput m v (k, List.replicate h.acc.length 0)) (some (encT (.num v k))) (some (.str "num")) (lv _ _) (hr.put ok.l1 hs _)
        have sk := sv v (k, List.replicate h.acc.length 0)
        simp only [encF, encI, List.map_cons, List.map_replicate] at sk
        simp -implicitDefEqProofs (disch := trivial) [encT, bin_rep1, catT, if_le_lim, sk, -List.getD_eq_getElem?_getD]
        exact this
      | copy v u =>
        have := hJ' (vput m v (st.1.getD ((locals (body h j)).idxOf u) (zero h.acc.length))) (some (encT (.copy v u))) (some (.str "copy")) (lv _ _) (hr.put ok.l1 hs.1 _)
        simp -implicitDefEqProofs (disch := trivial) [encT, gv hs.2, sv, -List.getD_eq_getElem?_getD]
        exact this
      | op k v a b =>
        obtain ⟨hk, h1, h2, h3⟩ := hs
        have p1 := fun k hk => law_combined_ok n (st.1.getD ((locals (body h j)).idxOf a) (zero h.acc.length)) (st.1.getD ((locals (body h j)).idxOf b) (zero h.acc.length)) k ((lw a).trans (lw b).symm) (by rw [lw a]; exact hw) hk
        rcases hk with rfl | rfl
        · have := hJ' (vput m v _) (some (encT (.op .add v a b))) (some (.str "add")) (lv _ _) (hr.put ok.l1 h1 _)
          simp -implicitDefEqProofs (disch := trivial) [encT, Op.nm, gv h2, gv h3, sv, p1 1 (by decide), e1, if_le_lim, -List.getD_eq_getElem?_getD]
          exact this
        · have := hJ' (vput m v _) (some (encT (.op .sub v a b))) (some (.str "sub")) (lv _ _) (hr.put ok.l1 h1 _)
          simp -implicitDefEqProofs (disch := trivial) [encT, Op.nm, gv h2, gv h3, sv, p1 (-1) (by decide), e1, if_le_lim, -List.getD_eq_getElem?_getD]
          exact this
      | say v =>
        have := hJ' m (some (encT (.say v))) (some (.str "say")) (by omega) hr
        simp -implicitDefEqProofs (disch := trivial) [encT, e1, if_le_lim]
        exact this
      | skip =>
        have := hJ' m (some (encT .skip)) (some (.str "skip")) (by omega) hr
        simp -implicitDefEqProofs (disch := trivial) [encT, e1, if_le_lim]
        exact this
      | need _ => exact hs.elim
      | ite _ _ _ => exact hs.elim
    · rintro e ⟨m, j6, j7, rfl, _, _⟩
      have hlf := jobForm_len h j
      rw [List.length_map, List.take_length]
      simp -implicitDefEqProofs (disch := trivial)
      rw [show (jobSt h j (body h j)).2 = jobForm h j from rfl]
      rw [lcL_map encS (fun y hy => by
        have ec : cut ((.int y.1) :: y.2.map PyData.int) (some 1) none = y.2.map PyData.int := cut_from _ 1
        refine of_wp ?_
        simp -implicitDefEqProofs (disch := trivial) [lcT_eq, encF, encI, encS, ec, if_le_lim]) (by simp; omega)]
      simp -implicitDefEqProofs (disch := trivial)
  · intro k hk
    have e1 := law_unit_ok n h.acc.length k hw hk
    refine of_wp ?_
    simp -implicitDefEqProofs (disch := trivial) [lcT_eq, e1]
  · omega
end PL.K

namespace PL.K
open PySem PL.Y
local macro_rules | `(tactic| trivial) => `(tactic| first | omega | (simp -implicitDefEqProofs; done) | (simp -implicitDefEqProofs; omega))
theorem law_order_form_ok (n : Nat) (h : Ho) (lh : LawH h) (o : List Nat) (ho : ∀ j ∈ o, j < h.jobs.length) :
    run P (n + 3) "_law_order_form" [.d (encH h), .d (encO o)] = some (.new (.lst ((orderForm h o).map encS)), [some (.d (encH h)), some (.d (encO o))]) := by
  have hw := lh.lin.w
  refine of_wp ?_
  rw [run_at fn__law_order_form rfl]
  simp -implicitDefEqProofs (disch := trivial) [b__law_order_form, rng1]
  rw [lcL_rng fun k => encS (single h.acc.length k)]
  · simp -implicitDefEqProofs (disch := trivial)
    refine wp_forI (fun i e => ∃ j4, e = [some (.d (encH h)), some (.d (encO o)), some (.d (.int h.acc.length)), some (.own false (.lst ((orderForm h (o.take i)).map encS))), jk j4, none]) ⟨none, by simp [orderForm, begun]⟩ (fun J hJ => ?_) ?_
    · rintro i x e hx ⟨j1, rfl⟩
      obtain ⟨hi, rfl⟩ := get_map hx
      have hj := ho _ (List.getElem_mem hi)
      have e4 := law_form_ok n h lh.lin lh.nm o[i] hj
      have e5 := law_then_ok n h.acc.length (orderForm h (o.take i)) (jobForm h o[i]) lh.lin.w (orderForm_ok h _ _ (begun_form _)) ⟨jobForm_len h _, jobForm_w h _⟩ (jobForm_lo lh.lin hj)
      have e6 : orderForm h (o.take (i + 1)) = behind (orderForm h (o.take i)) (jobForm h o[i]) := by
        rw [orderForm, take_snoc hi, List.foldl_append]; rfl
      generalize o[i] = j at *
      simp -implicitDefEqProofs (disch := trivial) [e4, e5]
      exact hJ _ _ ⟨some (.int j), by rw [e6]; rfl⟩
    · rintro e ⟨j1, rfl⟩
      simp -implicitDefEqProofs (disch := trivial)
  · intro k hk
    have e1 := law_unit_ok (n + 1) h.acc.length k hw hk
    have ec : cut ((.int (single h.acc.length k).1) :: (single h.acc.length k).2.map PyData.int) (some 1) none = (single h.acc.length k).2.map PyData.int := cut_from _ 1
    have e0 : (single h.acc.length k).1 = 0 := rfl
    refine of_wp ?_
    simp -implicitDefEqProofs (disch := trivial) [lcT_eq, e1, encF, encI, encS, ec, if_le_lim, e0]
    rw [e0] at ec
    exact ec
  · omega
end PL.K

namespace PL.K
open PySem PL.Y
local macro_rules | `(tactic| trivial) => `(tactic| first | omega | (simp -implicitDefEqProofs; done) | (simp -implicitDefEqProofs; omega))
theorem law_same_ok (n : Nat) (x y : D) (hx : shp x = true) (hy : shp y = true) (hs : PyData.eqv x y = true → showOk x = true ∧ showOk y = true) :
    run P (n + 1) "_law_same" [.d x, .d y] = some (.d (.bool (PyData.eqv x y && decide (x.shown = y.shown))), [some (.d x), some (.d y)]) := by
  have e1 := cmp_eq hx hy
  refine of_wp ?_
  rw [run_at fn__law_same rfl]
  cases he : PyData.eqv x y with
  | false =>
    rw [he] at e1
    simp -implicitDefEqProofs (disch := trivial) [b__law_same, e1]
  | true =>
    rw [he] at e1
    obtain ⟨h1, h2⟩ := hs he
    simp -implicitDefEqProofs (disch := trivial) [b__law_same, e1, blt_repr h1, blt_repr h2]
theorem law_same_refl (n : Nat) (x : D) (hx : shp x = true) (hs : showOk x = true) : run P (n + 1) "_law_same" [.d x, .d x] = some (.d (.bool true), [some (.d x), some (.d x)]) := by
  have := law_same_ok n x x hx hx fun _ => ⟨hs, hs⟩
  rw [SeqAt.eqv_refl_plain x (shp_plain hx).1] at this
  simpa using this
theorem law_same_bool (n : Nat) (b : Bool) : run P (n + 1) "_law_same" [.d (.bool b), .d (.bool b)] = some (.d (.bool true), [some (.d (.bool b)), some (.d (.bool b))]) := by
  refine law_same_refl n _ rfl ?_
  cases b <;> decide +kernel
theorem law_same_tag (n : Nat) (x : D) (t : Str) (hx : shp x = true) (ht : showOk (.str t) = true) : run P (n + 1) "_law_same" [.d x, .d (.str t)] = some (.d (.bool (tagS t x)), [some (.d x), some (.d (.str t))]) := by
  have hxt : tagS t x = true → x = .str t := by
    intro h
    cases x <;> simp [tagS] at h
    rw [h]
  have := law_same_ok n x (.str t) hx rfl fun h => by
    rw [eqv_tag] at h
    rw [hxt h]
    exact ⟨ht, ht⟩
  rw [this, eqv_tag]
  cases h : tagS t x with
  | false => rfl
  | true => rw [hxt h]; simp
theorem law_same_ord (n : Nat) (x : D) (o : List Nat) (hx : shp x = true) (hk : ∀ k ∈ o, k < 10) (hl : o.length ≤ 1000) :
    run P (n + 1) "_law_same" [.d x, .d (encO o)] = some (.d (.bool (decide (natL x = some o))), [some (.d x), some (.d (encO o))]) := by
  have hoo : PyData.eqv (encO o) (encO o) = true := by rw [eqv_encO]; simp
  have := law_same_ok n x (encO o) hx (shp_encO (by omega)) fun h => ⟨(show_list hk hl h).1, (show_list hk hl hoo).1⟩
  rw [this]
  cases he : PyData.eqv x (encO o) with
  | true =>
    have h2 := (show_list hk hl he).2
    rw [← natL_some hk] at h2
    simp [h2]
  | false =>
    have : ¬ natL x = some o := fun e => by
      rw [natL_some hk] at e
      rw [e, hoo] at he
      cases he
    simp [this]
end PL.K

namespace PL.K
open PySem PL.Y
local macro_rules | `(tactic| trivial) => `(tactic| first | omega | (simp -implicitDefEqProofs; done) | (simp -implicitDefEqProofs; omega))
theorem cell_eq (n : Nat) (ds : List Int) (hd : Dr ds) (k : Nat) : run P (n + 1) "_law_cell" [.d (encD ds), .d (nI k)] = some (.d (.int (cellV ds k)), [some (.d (encD ds)), some (.d (nI k))]) := by
  have h0 := hd.pos
  have h1 := hd.len
  have hm : k % ds.length < ds.length := Nat.mod_lt _ h0
  have ha := getD_map (f := PyData.int) hm
  have e0 : ((k : Int) % (ds.length : Int)) = ((k % ds.length : Nat) : Int) := rfl
  have e1 : binF .FloorDiv (.int k) (.int ds.length) = some (.is (.int ((k / ds.length : Nat) : Int))) := bin_fdiv ⟨by omega, by omega⟩
  have e3 : (((k / ds.length : Nat) : Int) % 7) = ((k / ds.length % 7 : Nat) : Int) := rfl
  have e2 : ∀ d, binF .FloorDiv (.int d) (.int (1 + ((k / ds.length % 7 : Nat) : Int))) = some (.is (.int (d / (1 + ((k / ds.length % 7 : Nat) : Int))))) := fun d => bin_fdiv ⟨by omega, by omega⟩
  refine of_wp ?_
  rw [run_at fn__law_cell rfl, cellV, getD_of hm]
  simp -implicitDefEqProofs [b__law_cell, bin_mod, h0, e0, ha, e1, e3, e2, -Int.natCast_emod, -Int.natCast_ediv]
theorem cell_ex (ds : List Int) (hd : Dr ds) (k : Nat) : ∃ c : Int, 0 ≤ c ∧ c < 1000003 ∧ ∀ n, run P (n + 1) "_law_cell" [.d (encD ds), .d (nI k)] = some (.d (.int c), [some (.d (encD ds)), some (.d (nI k))]) :=
  ⟨cellV ds k, (cell_r hd k).1, (cell_r hd k).2, fun n => cell_eq n ds hd k⟩
theorem law_rule_ok (n : Nat) (ds : List Int) (hd : Dr ds) (k : Nat) : ∃ s : Str, run P (n + 2) "_law_rule" [.d (encD ds), .d (nI k)] = some (.d (.str s), [some (.d (encD ds)), some (.d (nI k))]) := by
  obtain ⟨c, c0, c1, e1⟩ := cell_ex ds hd k
  obtain ⟨s, _, ea⟩ := at_exm PyData.str ["latest", "picture", "alone", "latest", "picture"] (z := c / 3 % 5) (by omega) (by simp; omega)
  refine ⟨s, of_wp ?_⟩
  simp only [List.map_cons, List.map_nil] at ea
  rw [run_at fn__law_rule rfl]
  simp -implicitDefEqProofs (disch := trivial) [b__law_rule, e1, bin_fdiv, bin_mod, if_le_lim, ea]
theorem law_number_b (n : Nat) (ds : List Int) (hd : Dr ds) (k : Nat) : ∃ v : Int, v.natAbs < 10 ^ 37 ∧ run P (n + 2) "_law_number" [.d (encD ds), .d (nI k)] = some (.d (.int v), [some (.d (encD ds)), some (.d (nI k))]) := by
  obtain ⟨c, c0, c1, e1⟩ := cell_ex ds hd k
  have hp : binF .Pow (.int 10) (.int 30) = some (.is (.int (10 ^ 30))) := by
    simp only [binF]
    rw [if_pos (by decide)]; rfl
  have main : wp (run P (n + 2) "_law_number" [.d (encD ds), .d (nI k)]) fun q => ∃ v : Int, v.natAbs < 10 ^ 37 ∧ q = (.d (.int v), [some (.d (encD ds)), some (.d (nI k))]) := by
    rw [run_at fn__law_number rfl]
    have p30 : (10 : Int) ^ 30 = 1000000000000000000000000000000 := rfl
    have p37 : (10 : Nat) ^ 37 = 10000000000000000000000000000000000000 := rfl
    by_cases h : c % 7 = 3 <;> simp -implicitDefEqProofs (disch := trivial) [b__law_number, e1, bin_fdiv, bin_mod, h, hp, mulI, -Int.reducePow, -Nat.reducePow] <;> (try rw [p30]) <;> rw [p37] <;> omega
  obtain ⟨q, h1, v, h2, rfl⟩ := main
  exact ⟨v, h2, h1⟩
theorem law_number_ok (n : Nat) (ds : List Int) (hd : Dr ds) (k : Nat) : ∃ v : Int, run P (n + 2) "_law_number" [.d (encD ds), .d (nI k)] = some (.d (.int v), [some (.d (encD ds)), some (.d (nI k))]) := by
  obtain ⟨v, _, h⟩ := law_number_b n ds hd k
  exact ⟨v, h⟩
theorem law_linear_one_ok (n : Nat) (ds : List Int) (hd : Dr ds) (k a : Nat) (h0 : 0 < a) (ha : a ≤ 5) : ∃ s : St, GS (aN.take a) s ∧ run P (n + 2) "_law_linear_one" [.d (encD ds), .d (nI k), .d (nI a)] = some (.d (encT s), [some (.d (encD ds)), some (.d (nI k)), some (.d (nI a))]) := by
  obtain ⟨c, c0, c1, e1⟩ := cell_ex ds hd k
  obtain ⟨v1, m1, a1⟩ := at_exm PyData.str vN (z := c / 7 % 3) (by omega) (by show _ < (3 : Int); omega)
  obtain ⟨v2, m2, a2⟩ := at_exm PyData.str vN (z := c / 21 % 3) (by omega) (by show _ < (3 : Int); omega)
  obtain ⟨v3, m3, a3⟩ := at_exm PyData.str vN (z := c / 63 % 3) (by omega) (by show _ < (3 : Int); omega)
  obtain ⟨b, m4, a4⟩ := at_acc ha (z := c / 11 % a) (Int.emod_nonneg _ (by omega)) (Int.emod_lt_of_pos _ (by omega))
  simp only [vN, List.map_cons, List.map_nil] at a1 a2 a3
  have hlc : ∀ e : En, e = e := fun _ => rfl
  have main : wp (run P (n + 2) "_law_linear_one" [.d (encD ds), .d (nI k), .d (nI a)]) fun q => ∃ s : St, GS (aN.take a) s ∧ q = (.d (encT s), [some (.d (encD ds)), some (.d (nI k)), some (.d (nI a))]) := by
    rw [run_at fn__law_linear_one rfl]
    simp -implicitDefEqProofs (disch := trivial) [b__law_linear_one, e1, rng_lit 3]
    rw [show (List.range 3).map (fun k => PyData.int ((k : Nat) : Int)) = [.int 0, .int 1, .int 2] from rfl, wp_lcCons]
    simp -implicitDefEqProofs (disch := trivial) [lcT_eq, if_le_lim, bin_fdiv, bin_mod, a1]
    rw [wp_lcCons]
    simp -implicitDefEqProofs (disch := trivial) [lcT_eq, if_le_lim, bin_fdiv, bin_mod, a2]
    rw [wp_lcCons]
    simp -implicitDefEqProofs (disch := trivial) [lcT_eq, if_le_lim, bin_fdiv, bin_mod, a3]
    rw [wp_lcNil]
    have k1 : c % 11 < 3 ∨ (3 ≤ c % 11 ∧ c % 11 < 6) ∨ c % 11 = 6 ∨ c % 11 = 7 ∨ c % 11 = 8 ∨ c % 11 = 9 ∨ c % 11 = 10 := by omega
    rcases k1 with h | ⟨h, h'⟩ | h | h | h | h | h
    · simp -implicitDefEqProofs (disch := trivial) [if_le_lim, bin_fdiv, bin_mod, a4, h]
      exact ⟨.read v1 b, ⟨m1, m4⟩, rfl⟩
    · have h2 : ¬ c % 11 < 3 := by omega
      simp -implicitDefEqProofs (disch := trivial) [if_le_lim, bin_fdiv, bin_mod, a4, h', h2]
      exact ⟨.write b v1, ⟨m1, m4⟩, rfl⟩
    · simp -implicitDefEqProofs (disch := trivial) [if_le_lim, bin_fdiv, bin_mod, a4, h]
      exact ⟨.op .add v1 v2 v3, ⟨.inl rfl, m1, m2, m3⟩, rfl⟩
    · simp -implicitDefEqProofs (disch := trivial) [if_le_lim, bin_fdiv, bin_mod, a4, h]
      exact ⟨.op .sub v1 v2 v3, ⟨.inr rfl, m1, m2, m3⟩, rfl⟩
    all_goals
      have k2 : c / 5 % 2 = 0 ∨ c / 5 % 2 = 1 := by omega
      rcases k2 with h5 | h5
      all_goals simp -implicitDefEqProofs (disch := trivial) [if_le_lim, bin_fdiv, bin_mod, a4, h, h5]
    · exact ⟨.num v1 (c / 13 % 9 - 3), ⟨m1, by omega⟩, rfl⟩
    · exact ⟨.num v1 (c / 13 % 9 - 3), ⟨m1, by omega⟩, rfl⟩
    · exact ⟨.copy v1 v2, ⟨m1, m2⟩, rfl⟩
    · exact ⟨.copy v1 v2, ⟨m1, m2⟩, rfl⟩
    · exact ⟨.say v1, m1, rfl⟩
    · exact ⟨.skip, trivial, rfl⟩
  obtain ⟨q, h1, s, h2, rfl⟩ := main
  exact ⟨s, h2, h1⟩
end PL.K

namespace PL.K
open PySem PL.Y
local macro_rules | `(tactic| trivial) => `(tactic| first | omega | (simp -implicitDefEqProofs; done) | (simp -implicitDefEqProofs; omega))
theorem law_linear_body_ok (n : Nat) (ds : List Int) (hd : Dr ds) (k a : Nat) (h0 : 0 < a) (ha : a ≤ 5) (mo : Nat) (hmo : mo ≤ 6) (m : List Int) (hm : Mn m) :
    ∃ b : List St, Bd (aN.take a) b ∧ run P (n + 3) "_law_linear_body" [.d (encD ds), .d (nI k), .d (nI a), .d (nI mo), .d (.list (m.map .int))] = some (.d (.tuple (b.map encT)), [some (.d (encD ds)), some (.d (nI k)), some (.d (nI a)), some (.d (nI mo)), some (.d (.list (m.map .int)))]) := by
  obtain ⟨c, c0, c1, e1⟩ := cell_ex ds hd k
  have f0 : 0 ≤ c / 8 % a ∧ c / 8 % a < a := ⟨Int.emod_nonneg _ (by omega), Int.emod_lt_of_pos _ (by omega)⟩
  have hmx : ∃ w : Int, 0 < w ∧ w ≤ 5 ∧ (if (a : Int) - 1 > 1 then (a : Int) - 1 else 1) = w := ⟨_, by split <;> omega, by split <;> omega, rfl⟩
  obtain ⟨w, w0, w1, hw⟩ := hmx
  obtain ⟨x, mx, ax⟩ := at_acc ha f0.1 f0.2
  obtain ⟨y, my, ay⟩ := at_acc ha (z := (c / 8 % a + 1 + c / 40 % w) % a) (Int.emod_nonneg _ (by omega)) (Int.emod_lt_of_pos _ (by omega))
  obtain ⟨kd, hkd, akd⟩ := at_exm PyData.int m (z := c % m.length) (Int.emod_nonneg _ (by have := hm.pos; omega)) (Int.emod_lt_of_pos _ (by have := hm.pos; omega))
  obtain ⟨k0, k1⟩ := hm.r _ hkd
  have hmp := hm.pos
  have hml := hm.len
  have main : wp (run P (n + 3) "_law_linear_body" [.d (encD ds), .d (nI k), .d (nI a), .d (nI mo), .d (.list (m.map .int))]) fun q => ∃ b : List St, Bd (aN.take a) b ∧ q = (.d (.tuple (b.map encT)), [some (.d (encD ds)), some (.d (nI k)), some (.d (nI a)), some (.d (nI mo)), some (.d (.list (m.map .int)))]) := by
    rw [run_at fn__law_linear_body rfl]
    simp -implicitDefEqProofs (disch := trivial) [b__law_linear_body, e1, bin_fdiv, bin_mod, if_le_lim, hw, ax, ay, akd]
    obtain ⟨t, ht⟩ : ∃ t, cmpF .In (.int kd) (.list [.int 1, .int 2, .int 3, .int 5]) = some t := ⟨_, cmp_inList rfl rfl⟩
    have hz : 0 ≤ c / 9 % ((mo : Int) + 1) ∧ c / 9 % ((mo : Int) + 1) < 7 := ⟨Int.emod_nonneg _ (by omega), by have := Int.emod_lt_of_pos (c / 9) (show (0 : Int) < (mo : Int) + 1 by omega); omega⟩
    have hlo := fun i => law_linear_one_ok n ds hd (k + 3 + 5 * i) a h0 ha
    obtain ⟨fs, hfs⟩ := Classical.axiomOfChoice hlo
    have hrg := rngI (n := c / 9 % ((mo : Int) + 1)) (by omega)
    have e2 : ∀ i : Nat, run P (n + 2) "_law_linear_one" [.d (encD ds), .d (.int ((k : Int) + 3 + 5 * (i : Int))), .d (nI a)] = some (.d (encT (fs i)), [some (.d (encD ds)), some (.d (.int ((k : Int) + 3 + 5 * (i : Int)))), some (.d (nI a))]) := fun i => by
      have := (hfs i).2
      have e : ((k + 3 + 5 * i : Nat) : Int) = (k : Int) + 3 + 5 * (i : Int) := by omega
      rw [nI, e] at this
      exact this
    have m1 : ("va" : Str) ∈ vN := by decide
    have m2 : ("vb" : Str) ∈ vN := by decide
    have m3 : ("vc" : Str) ∈ vN := by decide
    generalize hlst : (List.range (c / 9 % ((mo : Int) + 1)).toNat).map fs = ls at *
    have hls : Bd (aN.take a) ls := by
      rw [← hlst]
      refine ⟨fun s hs => ?_, by simp; omega⟩
      obtain ⟨i, _, rfl⟩ := List.mem_map.mp hs
      exact (hfs i).1
    let bs : List (List St) := [[.read "va" x, .num "vc" (c / 200 % 7 - 3), .op .add "va" "va" "vc", .write x "va"],
      [.num "vc" (c / 200 % 7 - 3), .read "va" x, .read "vb" y, .op .sub "va" "va" "vc", .op .add "vb" "vb" "vc", .write x "va", .write y "vb"],
      [.read "va" x, .read "vb" y, .op .add "va" "va" "vb", .write x "va"],
      [.read "va" x, .read "vb" y, .write x "vb", .write y "va"],
      [.read "va" x, .op .add "vb" "va" "va", .write x "vb"],
      [.read "va" x, .write y "va", .say "va"],
      [.num "vc" (c / 200 % 7 - 3), .write x "vc", .skip],
      ls]
    have hbs : ∀ b ∈ bs, Bd (aN.take a) b := by
      intro b hb
      simp only [bs, List.mem_cons, List.not_mem_nil, or_false] at hb
      rcases hb with rfl | rfl | rfl | rfl | rfl | rfl | rfl | rfl
      all_goals first
        | exact hls
        | (refine ⟨?_, by simp⟩
           simp [GS, m1, m2, m3, mx, my]
           try omega)
    obtain ⟨b, hb, ak⟩ := at_exm (fun b : List St => PyData.tuple (b.map encT)) bs (z := kd) k0 (by show _ < (8 : Int); exact k1)
    simp only [bs, List.map_cons, List.map_nil, encT, Op.nm] at ak
    have hbb := hbs b hb
    have hb0 := hbs _ List.mem_cons_self
    have hlm : (List.range (c / 9 % ((mo : Int) + 1)).toNat).map (fun i => encT (fs i)) = ls.map encT := by rw [← hlst, List.map_map]; rfl
    by_cases ha1 : (a : Int) = 1
    · cases t with
      | true =>
        simp -implicitDefEqProofs (disch := trivial) [ha1, ht, if_le_lim, catT, appL, bin_fdiv, bin_mod, hrg]
        rw [lcL_rng fun i => encT (fs i)]
        · simp -implicitDefEqProofs (disch := trivial) [if_le_lim, catT, appL, hlm]
          exact ⟨_, hb0, rfl⟩
        · intro i hi
          refine of_wp ?_
          simp -implicitDefEqProofs (disch := trivial) [lcT_eq, e2, mulI]
        · omega
      | false =>
        simp -implicitDefEqProofs (disch := trivial) [ha1, ht, if_le_lim, catT, appL, bin_fdiv, bin_mod, hrg]
        rw [lcL_rng fun i => encT (fs i)]
        · simp -implicitDefEqProofs (disch := trivial) [if_le_lim, catT, appL, hlm, ak]
          exact ⟨_, hbb, rfl⟩
        · intro i hi
          refine of_wp ?_
          simp -implicitDefEqProofs (disch := trivial) [lcT_eq, e2, mulI]
        · omega
    · have hat := ha1
      simp -implicitDefEqProofs (disch := trivial) [ha1, ht, if_le_lim, catT, appL, bin_fdiv, bin_mod, hrg]
      rw [lcL_rng fun i => encT (fs i)]
      · simp -implicitDefEqProofs (disch := trivial) [if_le_lim, catT, appL, hlm, ak]
        exact ⟨_, hbb, rfl⟩
      · intro i hi
        refine of_wp ?_
        simp -implicitDefEqProofs (disch := trivial) [lcT_eq, e2, mulI]
      · omega
  obtain ⟨q, h1, s, h2, rfl⟩ := main
  exact ⟨s, h2, h1⟩
end PL.K

namespace PL.K
open PySem PL.Y
local macro_rules | `(tactic| trivial) => `(tactic| first | omega | (simp -implicitDefEqProofs; done) | (simp -implicitDefEqProofs; omega))
theorem law_menu_ok (n : Nat) (c : Int) : ∃ m : List Int, Mn m ∧ run P (n + 1) "_law_menu" [.d (.int c)] = some (.d (.list (m.map .int)), [some (.d (.int c))]) := by
  have hs : ∀ m ∈ ([[0, 1, 2, 3, 4, 5, 6, 7], [0, 1], [1, 3], [0, 1, 2, 3], [0, 1, 7, 7], [1, 3, 5, 7]] : List (List Int)), Mn m := by
    intro m hm
    simp only [List.mem_cons, List.not_mem_nil, or_false] at hm
    rcases hm with rfl | rfl | rfl | rfl | rfl | rfl <;> exact ⟨by decide, by decide, by decide⟩
  obtain ⟨m, hm, am⟩ := at_exm (fun m : List Int => PyData.list (m.map .int)) [[0, 1, 2, 3, 4, 5, 6, 7], [0, 1], [1, 3], [0, 1, 2, 3], [0, 1, 7, 7], [1, 3, 5, 7]] (z := c % 6) (by omega) (by show _ < (6 : Int); omega)
  refine ⟨m, hs m hm, of_wp ?_⟩
  simp only [List.map_cons, List.map_nil] at am
  rw [run_at fn__law_menu rfl]
  simp -implicitDefEqProofs (disch := trivial) [b__law_menu, bin_mod, if_le_lim, am]
theorem law_linear_house_ok (n : Nat) (ds : List Int) (hd : Dr ds) (a j : Nat) (h0 : 0 < a) (ha : a ≤ 5) (hj : j ≤ 5) (mo : Nat) (hmo : mo ≤ 6) (m : List Int) (hm : Mn m) :
    ∃ h : Ho, HGen h a j ∧ run P (n + 4) "_law_linear_house" [.d (encD ds), .d (.int 3), .d (nI a), .d (nI j), .d (nI mo), .d (.list (m.map .int))] = some (.d (encH h), [some (.d (encD ds)), some (.d (.int 3)), some (.d (nI a)), some (.d (nI j)), some (.d (nI mo)), some (.d (.list (m.map .int)))]) := by
  obtain ⟨vs, hvs⟩ := Classical.axiomOfChoice fun i => law_number_ok (n + 1) ds hd (3 + i)
  have e1 : ∀ i : Nat, run P (n + 3) "_law_number" [.d (encD ds), .d (.int (3 + (i : Int)))] = some (.d (.int (vs i)), [some (.d (encD ds)), some (.d (.int (3 + (i : Int))))]) := fun i => by
    have := hvs i
    have e : ((3 + i : Nat) : Int) = 3 + (i : Int) := by omega
    rw [nI, e] at this
    exact this
  let acc : List (Str × Int) := (List.range a).map fun i => (aN.getD i "", vs i)
  have main : wp (run P (n + 4) "_law_linear_house" [.d (encD ds), .d (.int 3), .d (nI a), .d (nI j), .d (nI mo), .d (.list (m.map .int))]) fun q => ∃ h : Ho, HGen h a j ∧ q = (.d (encH h), [some (.d (encD ds)), some (.d (.int 3)), some (.d (nI a)), some (.d (nI j)), some (.d (nI mo)), some (.d (.list (m.map .int)))]) := by
    rw [run_at fn__law_linear_house rfl]
    simp -implicitDefEqProofs (disch := trivial) [b__law_linear_house, rng1, if_le_lim]
    rw [lcL_rng fun i => encA (aN.getD i "", vs i)]
    · simp -implicitDefEqProofs (disch := trivial) [rng1, if_le_lim]
      refine wp_forI (fun i e => ∃ (jobs : List (Str × Str × List St)) (j8 j9 : Option D), e = [some (.d (encD ds)), some (.d (.int 3)), some (.d (nI a)), some (.d (nI j)), some (.d (nI mo)), some (.d (.list (m.map .int))), some (.d (.tuple (acc.map encA))), some (.own false (.lst (jobs.map encJ))), jk j8, jk j9] ∧ jobs.length = i ∧ ∀ q ∈ jobs, Bd (aN.take a) q.2.2) ⟨[], none, none, by simp [acc], rfl, by simp⟩ (fun J hJ => ?_) ?_
      · rintro i x e hx ⟨jobs, j8, j9, rfl, hjl, hjb⟩
        obtain ⟨hi, rfl⟩ := get_map hx
        have hi : i < j := by simpa using hi
        rw [List.getElem_range]
        obtain ⟨b, hb, e2⟩ := law_linear_body_ok n ds hd (10 + 13 * i) a h0 ha mo hmo m hm
        obtain ⟨r, e3⟩ := law_rule_ok (n + 1) ds hd (63 + i)
        have c1 : ((10 + 13 * i : Nat) : Int) = 10 + 13 * (i : Int) := by omega
        have c2 : ((63 + i : Nat) : Int) = 63 + (i : Int) := by omega
        rw [nI, c1] at e2
        rw [nI, c2] at e3
        have hi5 : i < jN.length := by have : jN.length = 5 := rfl; omega
        have ai := getD_map (f := PyData.str) hi5
        simp only [jN, List.map_cons, List.map_nil] at ai
        simp -implicitDefEqProofs (disch := trivial) [e2, e3, ai, if_le_lim, appL, mulI]
        refine hJ _ _ ⟨jobs ++ [(jN[i], r, b)], some (nI i), some (.tuple (b.map encT)), by rw [List.map_append]; rfl, by simp [hjl], fun q hq => ?_⟩
        rcases List.mem_append.mp hq with hq | hq
        · exact hjb q hq
        · rw [List.mem_singleton] at hq
          rw [hq]; exact hb
      · rintro e ⟨jobs, j8, j9, rfl, hjl, hjb⟩
        simp only [List.length_map, List.length_range] at hjl
        simp -implicitDefEqProofs (disch := trivial) [if_le_lim]
        refine ⟨⟨acc, jobs⟩, ⟨?_, hjl, hjb⟩, rfl⟩
        show acc.map (·.1) = aN.take a
        simp only [acc, List.map_map]
        refine List.ext_getElem (by simp [show aN.length = 5 from rfl]; omega) fun i h1 h2 => ?_
        have hi5 : i < aN.length := by simp at h2; omega
        simp [List.getElem?_eq_getElem hi5]
    · intro i hi
      have hi5 : i < aN.length := by have : aN.length = 5 := rfl; omega
      have ai := getD_map (f := PyData.str) hi5
      rw [getD_of hi5]
      simp only [aN, List.map_cons, List.map_nil] at ai
      refine of_wp ?_
      simp -implicitDefEqProofs (disch := trivial) [lcT_eq, e1, ai, if_le_lim, encA]
      rfl
    · omega
  obtain ⟨q, h1, h, h2, rfl⟩ := main
  exact ⟨h, h2, h1⟩
end PL.K

namespace PL.K
open PySem PL.Y
local macro_rules | `(tactic| trivial) => `(tactic| first | omega | (simp -implicitDefEqProofs; done) | (simp -implicitDefEqProofs; omega))
theorem law_some_order_at (n : Nat) (ds : List Int) (hd : Dr ds) (at0 : Nat) (j : Nat) (h0 : 0 < j) (hj : j ≤ 5) :
    ∃ o : List Nat, o.Nodup ∧ (∀ x ∈ o, x < j) ∧ run P (n + 2) "_law_some_order" [.d (encD ds), .d (nI at0), .d (nI j)] = some (.new (.lst (o.map nI)), [some (.d (encD ds)), some (.d (nI at0)), some (.d (nI j))]) := by
  obtain ⟨c, c0, c1, e1⟩ := cell_ex ds hd at0
  have e1 : ∀ n, run P (n + 1) "_law_cell" [.d (encD ds), .d (nI at0)] = some (.d (.int c), [some (.d (encD ds)), some (.d (nI at0))]) := e1
  have hmany : ∃ mn : Nat, mn ≤ j ∧ (if c % 2 = 0 then c / 2 % ((j : Int) + 1) else (j : Int)) = mn := by
    refine ⟨(if c % 2 = 0 then c / 2 % ((j : Int) + 1) else (j : Int)).toNat, ?_⟩
    have hb : 0 ≤ c / 2 % ((j : Int) + 1) ∧ c / 2 % ((j : Int) + 1) < (j : Int) + 1 := ⟨Int.emod_nonneg _ (by omega), Int.emod_lt_of_pos _ (by omega)⟩
    split <;> omega
  obtain ⟨mn, hmn, hme⟩ := hmany
  have main : wp (run P (n + 2) "_law_some_order" [.d (encD ds), .d (nI at0), .d (nI j)]) fun q => ∃ o : List Nat, (o.Nodup ∧ ∀ x ∈ o, x < j) ∧ q = (.new (.lst (o.map nI)), [some (.d (encD ds)), some (.d (nI at0)), some (.d (nI j))]) := by
    rw [run_at fn__law_some_order rfl]
    by_cases hc : c % 2 = 0
    all_goals
      simp only [hc, if_true, if_false] at hme
      simp -implicitDefEqProofs (disch := trivial) [b__law_some_order, rng1F_ok, e1, bin_mod, bin_fdiv, if_le_lim, hc, hme, rng1]
      refine wp_forI (fun i e => ∃ (l f : List Nat) (j6 : Option D) (v5 : D), e = [some (.d (encD ds)), some (.d (nI at0)), some (.d (nI j)), some (.own false (.lst (l.map nI))), some (.own false (.lst (f.map nI))), some (.d v5), jk j6] ∧ (l ++ f).Perm (List.range j) ∧ f.length = i) ⟨List.range j, [], none, _, rfl, by simp, rfl⟩ (fun J hJ => ?_) ?_
      · rintro i x e hx ⟨l, f, j6, v5, rfl, hp, hfl⟩
        obtain ⟨hi, rfl⟩ := get_map hx
        have hi : i < j := by simp at hi; omega
        rw [List.getElem_range]
        have hll : l.length + f.length = j := by have := hp.length_eq; simpa using this
        obtain ⟨c2, c20, c21, e2⟩ := cell_ex ds hd (at0 + 1 + i)
        have e2 : ∀ n, run P (n + 1) "_law_cell" [.d (encD ds), .d (.int ((at0 : Int) + 1 + (i : Int)))] = some (.d (.int c2), [some (.d (encD ds)), some (.d (.int ((at0 : Int) + 1 + (i : Int))))]) := by
          have c2 : ((at0 + 1 + i : Nat) : Int) = (at0 : Int) + 1 + (i : Int) := by omega
          rw [nI, c2] at e2
          exact e2
        obtain ⟨y, r, hr, e3⟩ := pop_ex l (z := c2 / 3 % l.length) (Int.emod_nonneg _ (by omega)) (Int.emod_lt_of_pos _ (by omega)) (by omega)
        simp -implicitDefEqProofs (disch := trivial) [e2, e3, bin_mod, bin_fdiv, appL]
        refine hJ _ _ ⟨r, f ++ [y], some (nI i), v5, by rw [List.map_append]; rfl, ?_, by simp [hfl]⟩
        refine List.Perm.trans ?_ hp
        rw [← List.append_assoc]
        refine (List.perm_append_comm (l₁ := r ++ f) (l₂ := [y])).trans ?_
        exact List.Perm.append_right f hr
      · rintro e ⟨l, f, j6, v5, rfl, hp, hfl⟩
        simp -implicitDefEqProofs (disch := trivial)
        refine ⟨f, ⟨?_, fun x hx => ?_⟩, rfl⟩
        · have := hp.nodup_iff.mpr List.nodup_range
          exact (List.nodup_append.mp this).2.1
        · exact List.mem_range.mp (hp.mem_iff.mp (List.mem_append_right _ hx))
  obtain ⟨q, h1, h, h2, rfl⟩ := main
  exact ⟨h, h2.1, h2.2, h1⟩
theorem law_some_order_ok (n : Nat) (ds : List Int) (hd : Dr ds) (j : Nat) (h0 : 0 < j) (hj : j ≤ 5) :
    ∃ o : List Nat, o.Nodup ∧ (∀ x ∈ o, x < j) ∧ run P (n + 2) "_law_some_order" [.d (encD ds), .d (.int 70), .d (nI j)] = some (.new (.lst (o.map nI)), [some (.d (encD ds)), some (.d (.int 70)), some (.d (nI j))]) :=
  law_some_order_at n ds hd 70 j h0 hj
end PL.K

/-! A1: lists of numbers; orders alike, by the program. -/
namespace PL.K
open PySem PL.Y
local macro_rules | `(tactic| trivial) => `(tactic| first | omega | (simp -implicitDefEqProofs; done) | (simp -implicitDefEqProofs; omega))
/-- the numbers of a list of numbers -/
def numL (x : D) : Option (List Int) := match x with
  | .list xs => intsOf xs
  | _ => none
theorem intsOf_some : ∀ {xs : List D} {ns : List Int}, intsOf xs = some ns ↔ xs = ns.map .int
  | [], ns => by cases ns <;> simp [intsOf]
  | x :: xs, ns => by
    constructor
    · intro h
      cases x with
      | int i =>
        rw [intsOf, Option.map_eq_some_iff] at h
        obtain ⟨r, h1, rfl⟩ := h
        rw [intsOf_some.mp h1]; rfl
      | _ => unfold intsOf at h; cases h
    · intro h
      cases ns with
      | nil => cases h
      | cons n r =>
        rw [List.map_cons, List.cons.injEq] at h
        rw [h.1, intsOf, intsOf_some.mpr h.2]; rfl
theorem intsOf_all : ∀ xs : List D, (intsOf xs).isSome = xs.all isNum
  | [] => rfl
  | x :: xs => by
    have ih := intsOf_all xs
    cases x <;> simp [intsOf, ih]
theorem is_numbers_ok (n : Nat) (x : D) (h : isD x = false) (hx : ∀ xs, x = .list xs → ∀ y ∈ xs, isD y = false) : run P (n + 2) "is_numbers" [.d x] = some (.d (.bool (numL x).isSome), [some (.d x)]) := by
  refine of_wp ?_
  rw [run_at fn_is_numbers rfl]
  cases x with
  | list xs =>
    have hy := hx xs rfl
    rw [numL, intsOf_all]
    simp -implicitDefEqProofs (disch := trivial) [b_is_numbers, isi_eq]
    refine wp_forI (fun i e => ∃ j1, e = [some (.d (.list xs)), jk j1] ∧ ∀ y ∈ xs.take i, isNum y = true) ⟨none, rfl, fun y hy => by simp at hy⟩ (fun J hJ => ?_) ?_
    · rintro i y e hi ⟨j1, rfl, hne⟩
      have hm := List.mem_of_getElem? hi
      have e1 := is_number_ok n y (hy y hm)
      cases hb : isNum y with
      | true =>
        rw [hb] at e1
        simp -implicitDefEqProofs (disch := trivial) [e1]
        refine hJ _ _ ⟨some y, rfl, fun z hz => ?_⟩
        rw [List.take_add_one, hi] at hz
        rcases List.mem_append.mp hz with hz | hz
        · exact hne z hz
        · simp at hz; rw [hz]; exact hb
      | false =>
        rw [hb] at e1
        simp -implicitDefEqProofs (disch := trivial) [e1]
        exact ⟨y, hm, hb⟩
    · rintro e ⟨j1, rfl, hne⟩
      simp -implicitDefEqProofs (disch := trivial)
      rw [List.take_length] at hne
      exact hne
  | dict kvs => cases h
  | _ => simp -implicitDefEqProofs (disch := trivial) [b_is_numbers, isi_eq, numL]
def numLw (w : Nat) (x : D) : Option (List Int) := (numL x).filter fun ns => decide (ns.length = w)
theorem numLw_some {w : Nat} {x : D} {ns : List Int} : numLw w x = some ns ↔ x = .list (ns.map .int) ∧ ns.length = w := by
  unfold numLw
  rw [Option.filter_eq_some_iff]
  constructor
  · rintro ⟨h1, h2⟩
    refine ⟨?_, by simpa using h2⟩
    cases x with
    | list xs => rw [intsOf_some.mp h1]
    | _ => cases h1
  · rintro ⟨rfl, h2⟩
    exact ⟨intsOf_some.mpr rfl, by simpa using h2⟩
theorem is_number_list_ok (n : Nat) (x : D) (w : Nat) (h : isD x = false) (hx : ∀ xs, x = .list xs → ∀ y ∈ xs, isD y = false) : run P (n + 3) "is_number_list" [.d x, .d (nI w)] = some (.d (.bool (numLw w x).isSome), [some (.d x), some (.d (nI w))]) := by
  have e1 := is_numbers_ok n x h hx
  refine of_wp ?_
  rw [run_at fn_is_number_list rfl]
  cases hn : numL x with
  | none =>
    rw [hn] at e1
    simp -implicitDefEqProofs (disch := trivial) [b_is_number_list, e1, numLw, hn]
  | some ns =>
    rw [hn] at e1
    have : x = .list (ns.map .int) := by
      cases x with
      | list xs => rw [intsOf_some.mp hn]
      | _ => cases hn
    subst this
    by_cases hl : ns.length = w
    · simp -implicitDefEqProofs (disch := trivial) [b_is_number_list, e1, numLw, hn, hl]
    · have hl' : ¬ (ns.length : Int) = (w : Int) := by omega
      simp -implicitDefEqProofs (disch := trivial) [b_is_number_list, e1, numLw, hn, hl, hl']
/-! ### sums by numbers -/
def dotI (fs ns : List Int) : Int := ((List.range ns.length).map fun k => fs.getD k 0 * ns.getD k 0).sum
def byV (t : Sm) (ns : List Int) : Int := t.1 + dotI t.2 ns
theorem number_by_ok (n : Nat) (t : Sm) (ns : List Int) (hl : t.2.length = ns.length) (hw : ns.length ≤ 1000) (hlo : Lo t) :
    run P (n + 1) "number_by" [.d (encS t), .d (.list (ns.map .int))] = some (.d (.int (byV t ns)), [some (.d (encS t)), some (.d (.list (ns.map .int)))]) := by
  refine of_wp ?_
  rw [run_at fn_number_by rfl]
  simp -implicitDefEqProofs (disch := trivial) [b_number_by, rng1]
  refine wp_eq (lcL_rng (fun k => PyData.int (t.2.getD k 0 * ns.getD k 0)) (n := ns.length) (fun k hk => of_wp ?_) (by omega)) ?_
  · have a1 := getD_map (f := PyData.int) (show k < t.2.length by omega)
    have a2 := getD_map (f := PyData.int) hk
    have b1 := lo_get hlo k
    rw [← getD_of (show k < t.2.length by omega) 0] at a1
    rw [← getD_of hk 0] at a2
    simp -implicitDefEqProofs (disch := trivial) [lcT_eq, encI, a1, a2, mulI, b1, -List.getD_eq_getElem?_getD]
  have e1 := blt_sum ((List.range ns.length).map fun k => t.2.getD k 0 * ns.getD k 0)
  rw [List.map_map] at e1
  have e1 : bltF .sum [.list ((List.range ns.length).map fun k => PyData.int (t.2.getD k 0 * ns.getD k 0))] = some (.is (.int (dotI t.2 ns))) := e1
  simp -implicitDefEqProofs (disch := trivial) [e1, byV, -List.getD_eq_getElem?_getD]
/-! ### numbers apart -/
def unitL (w a : Nat) : List Int := (List.range w).map fun k => if k = a then 1 else 0
theorem unit_numbers_ok (n w a : Nat) (hw : w ≤ 1000) : run P (n + 1) "unit_numbers" [.d (nI w), .d (nI a)] = some (.new (.lst ((unitL w a).map .int)), [some (.d (nI w)), some (.d (nI a))]) := by
  refine of_wp ?_
  rw [run_at fn_unit_numbers rfl]
  simp -implicitDefEqProofs (disch := trivial) [b_unit_numbers, rng1]
  refine wp_eq (lcL_rng (fun k => PyData.int (if k = a then 1 else 0)) (n := w) (fun k hk => of_wp ?_) (by omega)) ?_
  · by_cases h : k = a
    · subst h
      simp -implicitDefEqProofs (disch := trivial) [lcT_eq]
    · have h' : ¬ (k : Int) = (a : Int) := by omega
      simp -implicitDefEqProofs (disch := trivial) [lcT_eq, h, h']
  simp -implicitDefEqProofs (disch := trivial) [unitL]
def uNums (w : Nat) (s t : Sm) : List Int := if s.1 = t.1 then match (List.range w).find? fun a => !decide (s.2[a]? = t.2[a]?) with
    | some a => unitL w a
    | none => List.replicate w 0
  else List.replicate w 0
theorem rep0 {w : Nat} (hw : w ≤ 1000) : binF .Mult (.list [.int 0]) (.int (w : Int)) = some (.new (.lst ((List.replicate w (0 : Int)).map .int))) := by
  rw [bin_repL ⟨by omega, by omega, by rw [Int.toNat_natCast]; exact le_lim (by simp; omega)⟩, Int.toNat_natCast, rep_one, List.map_replicate]
theorem numbers_apart_ok (n w : Nat) (s t : Sm) (hs : s.2.length = w) (ht : t.2.length = w) (hw : w ≤ 1000) :
    run P (n + 2) "numbers_apart" [.d (encS s), .d (encS t)] = some (.new (.lst ((uNums w s t).map .int)), [some (.d (encS s)), some (.d (encS t))]) := by
  have r0 := rep0 hw
  refine of_wp ?_
  rw [run_at fn_numbers_apart rfl]
  by_cases h1 : s.1 = t.1
  · simp -implicitDefEqProofs (disch := trivial) [b_numbers_apart, h1, uNums, hs, rng1]
    refine wp_forI (fun i e => ∃ j3, e = [some (.d (encS s)), some (.d (encS t)), some (.d (nI w)), jk j3] ∧ ∀ k < i, s.2[k]? = t.2[k]?) ⟨none, rfl, fun k hk => by omega⟩ (fun J hJ => ?_) ?_
    · rintro i x e hx ⟨j3, rfl, hne⟩
      obtain ⟨hi, rfl⟩ := get_map hx
      have hi : i < w := by simpa using hi
      rw [List.getElem_range]
      have a1 := getD_map (f := PyData.int) (show i < s.2.length by omega)
      have a2 := getD_map (f := PyData.int) (show i < t.2.length by omega)
      by_cases he : s.2[i]'(by omega) = t.2[i]'(by omega)
      · simp -implicitDefEqProofs (disch := trivial) [encI, a1, a2, he]
        refine hJ _ _ ⟨some (nI i), rfl, fun k hk => ?_⟩
        by_cases hki : k = i
        · subst hki
          rw [List.getElem?_eq_getElem (by omega), List.getElem?_eq_getElem (by omega), he]
        · exact hne k (by omega)
      · have e1 := unit_numbers_ok n w i hw
        have hf : (List.range w).find? (fun a => !decide (s.2[a]? = t.2[a]?)) = some i := by
          rw [List.find?_eq_some_iff_getElem]
          refine ⟨?_, i, by simpa using hi, List.getElem_range _, fun k hk => ?_⟩
          · rw [List.getElem?_eq_getElem (by omega), List.getElem?_eq_getElem (by omega)]
            simpa using he
          · rw [List.getElem_range]; simpa using hne k hk
        simp -implicitDefEqProofs (disch := trivial) [encI, a1, a2, he, e1, hf]
    · rintro e ⟨j3, rfl, hne⟩
      have hf : (List.range w).find? (fun a => !decide (s.2[a]? = t.2[a]?)) = none := by
        rw [List.find?_eq_none]
        intro k hk
        have hk : k < w := by simpa using hk
        simpa using hne k (by simpa using hk)
      simp -implicitDefEqProofs (disch := trivial) [r0, hf, if_le_lim]
  · simp -implicitDefEqProofs (disch := trivial) [b_numbers_apart, h1, uNums, hs, r0, if_le_lim]
end PL.K

/-! A2: orders alike, by the program. -/
namespace PL.K
open PySem PL.Y
local macro_rules | `(tactic| trivial) => `(tactic| first | omega | (simp -implicitDefEqProofs; done) | (simp -implicitDefEqProofs; omega))
/-- the first account whose sums differ -/
def alikeAt (f g : List Sm) : Option Nat := (List.range f.length).find? fun a => !decide (f[a]? = g[a]?)
def alikeO (w : Nat) (f g : List Sm) : OD := match alikeAt f g with
  | some a => .nod .tup [.d (.str "unlike"), .own (.lst ((uNums w (f.getD a (zero w)) (g.getD a (zero w))).map .int)), .d (nI a)]
  | none => .nod .tup [.d (.str "alike"), .own (.lst (f.map encS))]
def alikeD (w : Nat) (f g : List Sm) : D := match alikeAt f g with
  | some a => .tuple [.str "unlike", .list ((uNums w (f.getD a (zero w)) (g.getD a (zero w))).map .int), nI a]
  | none => .tuple [.str "alike", .list (f.map encS)]
theorem ne_encS {s t : Sm} (hs : s.2.length ≤ 1000) (ht : t.2.length ≤ 1000) : cmpF .NotEq (encS s) (encS t) = some (!decide (s = t)) := by
  rw [cmp_ne ((Pd_encS hs).shp (by decide)) ((Pd_encS ht).shp (by decide)), eqv_encS]
theorem alikeAt_some {f g : List Sm} {i : Nat} (hi : i < f.length) (hl : f.length = g.length) (hne : ∀ k < i, f[k]? = g[k]?) (h : f[i]? ≠ g[i]?) : alikeAt f g = some i := by
  unfold alikeAt
  rw [List.find?_eq_some_iff_getElem]
  refine ⟨by simpa using h, i, by simpa using hi, List.getElem_range _, fun k hk => ?_⟩
  rw [List.getElem_range]; simpa using hne k hk
theorem alikeAt_none {f g : List Sm} (hl : f.length = g.length) (hne : ∀ k < f.length, f[k]? = g[k]?) : alikeAt f g = none := by
  unfold alikeAt
  rw [List.find?_eq_none]
  intro k hk
  have hk : k < f.length := by simpa using hk
  simpa using hne k hk
theorem orders_alike_ok (n : Nat) (h : Ho) (lh : LinH h) (hlo : ∀ j < h.jobs.length, ∀ t ∈ jobForm h j, Lo t) (o p : List Nat) (ho : ∀ j ∈ o, j < h.jobs.length) (hp : ∀ j ∈ p, j < h.jobs.length) :
    run P (n + 6) "orders_alike" [.d (encH h), .d (encO o), .d (encO p)] = some (.new (alikeO h.acc.length (orderForm h o) (orderForm h p)), [some (.d (encH h)), some (.d (encO o)), some (.d (encO p))]) := by
  have hw := lh.w
  have e1 : run P (n + 5) "order_form" [.d (encH h), .d (encO o)] = _ := order_form_ok n h lh hlo o ho
  have e2 : run P (n + 5) "order_form" [.d (encH h), .d (encO p)] = _ := order_form_ok n h lh hlo p hp
  have f1 := oForm_ok h o
  have f2 := oForm_ok h p
  generalize orderForm h o = f at *
  generalize orderForm h p = g at *
  have hl : f.length = g.length := by rw [f1.l, f2.l]
  have hfl := f1.l
  refine of_wp ?_
  rw [run_at fn_orders_alike rfl]
  simp -implicitDefEqProofs (disch := trivial) [b_orders_alike, e1, e2, rng1]
  refine wp_forI (fun i e => ∃ j3, e = [some (.d (encH h)), some (.d (encO o)), some (.d (encO p)), jk j3, some (.own false (.lst (f.map encS))), some (.own false (.lst (g.map encS)))] ∧ ∀ k < i, f[k]? = g[k]?) ⟨none, rfl, fun k hk => by omega⟩ (fun J hJ => ?_) ?_
  · rintro i x e hx ⟨j3, rfl, hne⟩
    obtain ⟨hi, rfl⟩ := get_map hx
    have hi : i < f.length := by simpa using hi
    rw [List.getElem_range]
    have a1 := getD_map (f := encS) (show i < f.length by omega)
    have a2 := getD_map (f := encS) (show i < g.length by omega)
    have w1 := f1.w _ (List.getElem_mem (l := f) (n := i) (by omega))
    have w2 := f2.w _ (List.getElem_mem (l := g) (n := i) (by omega))
    have c1 := ne_encS (s := f[i]'(by omega)) (t := g[i]'(by omega)) (by omega) (by omega)
    by_cases he : f[i]'(by omega) = g[i]'(by omega)
    · simp only [he, decide_true, Bool.not_true] at c1
      simp -implicitDefEqProofs (disch := trivial) [a1, a2, c1, he]
      refine hJ _ _ ⟨some (nI i), rfl, fun k hk => ?_⟩
      by_cases hki : k = i
      · subst hki
        rw [List.getElem?_eq_getElem (by omega), List.getElem?_eq_getElem (by omega), he]
      · exact hne k (by omega)
    · simp only [he, decide_false, Bool.not_false] at c1
      have e3 := numbers_apart_ok (n + 3) h.acc.length _ _ w1 w2 hw
      have e3 : run P (n + 5) "numbers_apart" _ = _ := e3
      have ha : alikeAt f g = some i := alikeAt_some hi hl hne (by rw [List.getElem?_eq_getElem (by omega), List.getElem?_eq_getElem (by omega)]; simpa using he)
      have g1 : f.getD i (zero h.acc.length) = f[i] := getD_of _ _
      have g2 : g.getD i (zero h.acc.length) = g[i]'(by omega) := getD_of _ _
      simp -implicitDefEqProofs (disch := trivial) [if_le_lim, a1, a2, c1, e3, alikeO, ha, g1, g2, -List.getD_eq_getElem?_getD]
  · rintro e ⟨j3, rfl, hne⟩
    simp only [List.length_map, List.length_range] at hne
    have ha : alikeAt f g = none := alikeAt_none hl hne
    simp -implicitDefEqProofs (disch := trivial) [if_le_lim, alikeO, ha]
def unlV (w : Nat) (f g : List Sm) (ns a : D) : Bool := match numLw w ns, toIx w a with
    | some ns, some a => !decide (byV (f.getD a (zero w)) ns = byV (g.getD a (zero w)) ns)
    | _, _ => false
/-- a paper that two orders differ -/
def unlB (w : Nat) (f g : List Sm) (x : D) : Bool := match x with
  | .tuple [t, ns, a] => tagS "unlike" t && unlV w f g ns a
  | _ => false
theorem shows_unlike_ok (n : Nat) (h : Ho) (lh : LinH h) (hlo : ∀ j < h.jobs.length, ∀ t ∈ jobForm h j, Lo t) (o p : List Nat) (ho : ∀ j ∈ o, j < h.jobs.length) (hp : ∀ j ∈ p, j < h.jobs.length)
    (ho2 : ∀ t ∈ orderForm h o, Lo t) (hp2 : ∀ t ∈ orderForm h p, Lo t) (x : D) (hx : G 3 x) :
    run P (n + 6) "shows_unlike" [.d (encH h), .d (encO o), .d (encO p), .d x] = some (.d (.bool (unlB h.acc.length (orderForm h o) (orderForm h p) x)), [some (.d (encH h)), some (.d (encO o)), some (.d (encO p)), some (.d x)]) := by
  have hw := lh.w
  have e1 : run P (n + 5) "order_form" [.d (encH h), .d (encO o)] = _ := order_form_ok n h lh hlo o ho
  have e2 : run P (n + 5) "order_form" [.d (encH h), .d (encO p)] = _ := order_form_ok n h lh hlo p hp
  have f1 := oForm_ok h o
  have f2 := oForm_ok h p
  generalize orderForm h o = f at *
  generalize orderForm h p = g at *
  have e3 : run P (n + 5) "is_tagged" [.d x, .d (.str "unlike"), .d (.int 3)] = _ := is_tagged_ok (n + 4) x "unlike" 3 (by decide) hx.isD (tag_d hx)
  have i0 : at? [PyData.tuple (h.acc.map encA), .tuple (h.jobs.map encJ)] 0 = _ := rfl
  refine of_wp ?_
  rw [run_at fn_shows_unlike rfl]
  cases ht : tagB "unlike" 3 x with
  | false =>
    rw [ht] at e3
    have hb : unlB h.acc.length f g x = false := by
      unfold unlB
      split
      · rename_i t ns a
        have : tagS "unlike" t = false := by simpa [tagB] using ht
        rw [this]; rfl
      · rfl
    rw [hb]
    simp -implicitDefEqProofs (disch := trivial) [b_shows_unlike, e3]
  | true =>
    rw [ht] at e3
    obtain ⟨a, b, rfl⟩ := tag3 ht
    have hb := hx.tup
    have ha := hb.2 a (by simp)
    have hb := hb.2 b (by simp)
    have e4 : run P (n + 5) "is_number_list" [.d a, .d (nI h.acc.length)] = _ := is_number_list_ok (n + 2) a h.acc.length ha.isD fun xs hxs y hy => by subst hxs; exact (ha.list.2 y hy).isD
    have e5 : run P (n + 5) "is_index" [.d b, .d (nI h.acc.length)] = _ := is_index_ok (n + 3) b h.acc.length hb.isD
    have u : unlB h.acc.length f g (.tuple [.str "unlike", a, b]) = unlV h.acc.length f g a b := by simp [unlB, tagS]
    rw [u]
    unfold unlV
    cases hn : numLw h.acc.length a with
    | none =>
      rw [hn] at e4
      simp -implicitDefEqProofs (disch := trivial) [b_shows_unlike, e3, e4]
    | some ns =>
      rw [hn] at e4
      obtain ⟨rfl, hnl⟩ := numLw_some.mp hn
      cases hi : toIx h.acc.length b with
      | none =>
        rw [hi] at e5
        simp -implicitDefEqProofs (disch := trivial) [b_shows_unlike, e3, e4, e5]
      | some i =>
        rw [hi] at e5
        obtain ⟨rfl, hil⟩ := toIx_some.mp hi
        have a1 := getD_map (f := encS) (show i < f.length by rw [f1.l]; omega)
        have a2 := getD_map (f := encS) (show i < g.length by rw [f2.l]; omega)
        have m1 := List.getElem_mem (l := f) (n := i) (by rw [f1.l]; omega)
        have m2 := List.getElem_mem (l := g) (n := i) (by rw [f2.l]; omega)
        have e6 : run P (n + 5) "number_by" _ = _ := number_by_ok (n + 4) (f[i]'(by rw [f1.l]; omega)) ns (by rw [f1.w _ m1]; omega) (by omega) (ho2 _ m1)
        have e7 : run P (n + 5) "number_by" _ = _ := number_by_ok (n + 4) (g[i]'(by rw [f2.l]; omega)) ns (by rw [f2.w _ m2]; omega) (by omega) (hp2 _ m2)
        have g1 : f.getD i (zero h.acc.length) = f[i]'(by rw [f1.l]; omega) := getD_of _ _
        have g2 : g.getD i (zero h.acc.length) = g[i]'(by rw [f2.l]; omega) := getD_of _ _
        simp -implicitDefEqProofs (disch := trivial) [b_shows_unlike, e3, e4, e5, e1, e2, a1, a2, e6, e7, g1, g2, -List.getD_eq_getElem?_getD]
end PL.K

/-! M1: k34's own judge. -/
namespace PL.K
open PySem PL.Y
local macro_rules | `(tactic| trivial) => `(tactic| first | omega | (simp -implicitDefEqProofs; done) | (simp -implicitDefEqProofs; omega))
theorem law_is_number_ok (n : Nat) (x : D) (h : isD x = false) : run P (n + 1) "_law_is_number" [.d x] = some (.d (.bool (isNum x)), [some (.d x)]) := by
  refine of_wp ?_
  rw [run_at fn__law_is_number rfl]
  cases x <;> first | (cases h; done) | simp -implicitDefEqProofs (disch := trivial) [b__law_is_number, isi_eq]
theorem law_sum_ok (n : Nat) (fs ns : List Int) (hl : fs.length = ns.length) (hw : ns.length ≤ 1000) (hlo : ∀ f ∈ fs, f.natAbs ≤ 10000000000000000000) :
    run P (n + 1) "_law_sum" [.d (.list (ns.map .int)), .d (encI fs)] = some (.d (.int (dotI fs ns)), [some (.d (.list (ns.map .int))), some (.d (encI fs))]) := by
  refine of_wp ?_
  rw [run_at fn__law_sum rfl]
  simp -implicitDefEqProofs (disch := trivial) [b__law_sum, rng1, encI]
  refine wp_eq (lcL_rng (fun k => PyData.int (ns.getD k 0 * fs.getD k 0)) (n := fs.length) (fun k hk => of_wp ?_) (by omega)) ?_
  · have a1 := getD_map (f := PyData.int) hk
    have a2 := getD_map (f := PyData.int) (show k < ns.length by omega)
    have b1 := lo_get (t := (0, fs)) hlo k
    simp only at b1
    rw [← getD_of hk 0] at a1
    rw [← getD_of (show k < ns.length by omega) 0] at a2
    simp -implicitDefEqProofs (disch := trivial) [lcT_eq, encI, a1, a2, mulI, b1, -List.getD_eq_getElem?_getD]
  have e1 := blt_sum ((List.range fs.length).map fun k => ns.getD k 0 * fs.getD k 0)
  rw [List.map_map] at e1
  have hd : ((List.range fs.length).map fun k => ns.getD k 0 * fs.getD k 0).sum = dotI fs ns := by
    unfold dotI
    rw [hl]
    refine congrArg _ (List.map_congr_left fun k _ => Int.mul_comm _ _)
  rw [hd] at e1
  have e1 : bltF .sum [.list ((List.range fs.length).map fun k => PyData.int (ns.getD k 0 * fs.getD k 0))] = some (.is (.int (dotI fs ns))) := e1
  simp -implicitDefEqProofs (disch := trivial) [e1, -List.getD_eq_getElem?_getD]
theorem law_by_ok (n w : Nat) (f : List Sm) (ns : List Int) (hf : FormOk w f) (hl : ns.length = w) (hw : w ≤ 1000) (hlo : ∀ t ∈ f, Lo t) :
    run P (n + 2) "_law_by" [.d (.list (f.map encS)), .d (.list (ns.map .int))] = some (.new (.lst (f.map fun t => .int (byV t ns))), [some (.d (.list (f.map encS))), some (.d (.list (ns.map .int)))]) := by
  refine of_wp ?_
  rw [run_at fn__law_by rfl]
  have hfl := hf.l
  simp -implicitDefEqProofs (disch := trivial) [b__law_by]
  refine wp_eq (lcL_map (enc := encS) (fun t => PyData.int (byV t ns)) (ys := f) (acc := []) (fun t ht => of_wp ?_) (by simp; omega)) ?_
  · have e1 := law_sum_ok n t.2 ns (by rw [hf.w t ht]; omega) (by omega) (hlo t ht)
    simp -implicitDefEqProofs (disch := trivial) [lcT_eq, encS, e1, byV]
  simp -implicitDefEqProofs (disch := trivial)
theorem numL_all {ns : List Int} : ((ns.map PyData.int).filter fun x => !isNum x) = [] := by
  rw [List.filter_eq_nil_iff]
  intro x hx
  obtain ⟨i, _, rfl⟩ := List.mem_map.mp hx
  simp [isNum]
theorem numL_none : ∀ {xs : List D}, numL (.list xs) = none → (xs.filter fun x => !isNum x) ≠ [] := fun {xs} h e => by
  have h1 := intsOf_all xs
  have h2 : intsOf xs = none := h
  rw [h2] at h1
  rw [List.filter_eq_nil_iff] at e
  have : xs.all isNum = true := List.all_eq_true.mpr fun x hx => by simpa using e x hx
  rw [this] at h1
  cases h1
theorem okUnl : showOk (.str "unlike") = true := by decide +kernel
theorem ne_nilD {xs : List D} (h : shp (.list xs) = true) : cmpF .NotEq (.list xs) (.list []) = some (!decide (xs = [])) := by
  rw [cmp_ne h rfl]
  cases xs with
  | nil => rfl
  | cons x xs => rfl
theorem lcL_filt {f : D → En → Option (Option D × En)} {e : En} (p : D → Bool) {ys : List D} (h : ∀ y ∈ ys, f y e = some (if p y then some y else none, e)) (hl : ys.length ≤ 10000000) : lcL f ys [] e = some (ys.filter p, e) := by
  have := lcL_filter (f := f) (enc := id) (e := e) p id (ys := ys) (acc := []) (fun y hy => h y hy) (by simpa using hl)
  rwa [List.map_id, List.map_id, List.nil_append] at this
theorem law_is_unlike_ok (n w : Nat) (f g : List Sm) (hf : FormOk w f) (hg : FormOk w g) (hw : w ≤ 1000) (h1 : ∀ t ∈ f, Lo t) (h2 : ∀ t ∈ g, Lo t) (x : D) (hx : G 3 x) :
    run P (n + 3) "_law_is_unlike" [.d (.tuple [.list (f.map encS), .list (g.map encS)]), .d x] = some (.d (.bool (unlB w f g x)), [some (.d (.tuple [.list (f.map encS), .list (g.map encS)])), some (.d x)]) := by
  have hfl := hf.l
  have hgl := hg.l
  refine of_wp ?_
  rw [run_at fn__law_is_unlike rfl]
  cases x with
  | tuple xs =>
    by_cases hl : xs.length = 3
    · match xs, hl with
      | [t, a, b], _ =>
        have ht : G 2 t := hx.tup.2 t (by simp)
        have ha : G 2 a := hx.tup.2 a (by simp)
        have hb : G 2 b := hx.tup.2 b (by simp)
        have e1 := law_same_tag (n + 1) t "unlike" (ht.shp (by decide)) okUnl
        have e2 := law_is_number_ok (n + 1) b hb.isD
        cases hts : tagS "unlike" t with
        | false =>
          rw [hts] at e1
          have : unlB w f g (.tuple [t, a, b]) = false := by simp [unlB, hts]
          rw [this]
          simp -implicitDefEqProofs (disch := trivial) [b__law_is_unlike, isi_eq, e1]
        | true =>
          rw [hts] at e1
          have : t = .str "unlike" := by
            cases t <;> simp [tagS] at hts
            rw [hts]
          subst this
          have u : unlB w f g (.tuple [.str "unlike", a, b]) = unlV w f g a b := by simp [unlB, tagS]
          rw [u]
          unfold unlV
          cases a with
          | list xs =>
            by_cases hxl : xs.length = w
            · cases b with
              | int b =>
                have hxs := ha.list
                have m1 : ∀ y ∈ xs, run P (n + 2) "_law_is_number" [.d y] = some (.d (.bool (isNum y)), [some (.d y)]) := fun y hy => law_is_number_ok (n + 1) y (hxs.2 y hy).isD
                have hfs : shp (.list (xs.filter fun y => !isNum y)) = true := by
                  have : G 2 (.list (xs.filter fun y => !isNum y)) := (G_list _ _).mpr ⟨Nat.le_trans (List.length_filter_le ..) hxs.1, fun y hy => hxs.2 y (List.mem_filter.mp hy).1⟩
                  exact this.shp (by decide)
                have n1 := ne_nilD hfs
                simp -implicitDefEqProofs (disch := trivial) [b__law_is_unlike, isi_eq, e1, e2, hxl, hfl]
                refine wp_eq (lcL_filt (fun y => !isNum y) (ys := xs) (fun y hy => of_wp ?_) (by omega)) ?_
                · cases hb : isNum y with
                  | true =>
                    have := m1 y hy
                    rw [hb] at this
                    simp -implicitDefEqProofs (disch := trivial) [lcT_eq, this]
                  | false =>
                    have := m1 y hy
                    rw [hb] at this
                    simp -implicitDefEqProofs (disch := trivial) [lcT_eq, this]
                cases hn : numL (.list xs) with
                | none =>
                  have n2 := numL_none hn
                  rw [decide_eq_false n2] at n1
                  generalize (xs.filter fun y => !isNum y) = zs at *
                  simp -implicitDefEqProofs (disch := trivial) [n1, numLw, hn]
                | some ns =>
                  have hq : numLw w (.list xs) = some ns := by
                    rw [numLw, hn]
                    have : xs = ns.map .int := intsOf_some.mp hn
                    subst this
                    simpa using hxl
                  obtain ⟨h3, h4⟩ := numLw_some.mp hq
                  cases h3
                  rw [numL_all] at n1
                  have n1 : cmpF .NotEq (.list []) (.list []) = some false := n1
                  rw [numL_all, hq]
                  by_cases hbi : 0 ≤ b ∧ b < (w : Int)
                  · obtain ⟨i, rfl⟩ : ∃ i : Nat, b = i := ⟨b.toNat, by omega⟩
                    have hi : i < w := by omega
                    have ht : toIx w (.int (i : Int)) = some i := toIx_some.mpr ⟨rfl, hi⟩
                    have a1 := getD_map (f := fun t : Sm => PyData.int (byV t ns)) (show i < f.length by omega)
                    have a2 := getD_map (f := fun t : Sm => PyData.int (byV t ns)) (show i < g.length by omega)
                    have g1 : f.getD i (zero w) = f[i]'(by omega) := getD_of _ _
                    have g2 : g.getD i (zero w) = g[i]'(by omega) := getD_of _ _
                    have e6 := law_by_ok n w f ns hf h4 hw h1
                    have e7 := law_by_ok n w g ns hg h4 hw h2
                    rw [ht]
                    simp -implicitDefEqProofs (disch := trivial) [n1, hbi, hfl, e6, e7, a1, a2, g1, g2, -List.getD_eq_getElem?_getD]
                  · have ht : toIx w (.int b) = none := by simp [toIx, hbi]
                    rw [ht]
                    by_cases hb0 : 0 ≤ b
                    · have hb1 : ¬ b < (w : Int) := fun h => hbi ⟨hb0, h⟩
                      simp -implicitDefEqProofs (disch := trivial) [n1, hb0, hb1, hfl]
                    · simp -implicitDefEqProofs (disch := trivial) [n1, hb0, hfl]
              | dict _ => cases hb.isD
              | _ =>
                simp only [toIx]
                simp -implicitDefEqProofs (disch := trivial) [b__law_is_unlike, isi_eq, e1, e2, hxl, hfl]
            · have hxl' : ¬ (xs.length : Int) = (w : Int) := by omega
              have hn : numLw w (.list xs) = none := by
                cases hn : numLw w (.list xs) with
                | none => rfl
                | some ns =>
                  obtain ⟨h3, h4⟩ := numLw_some.mp hn
                  cases h3
                  simp at hxl
                  omega
              rw [hn]
              simp -implicitDefEqProofs (disch := trivial) [b__law_is_unlike, isi_eq, e1, e2, hxl', hfl]
          | dict _ => cases ha.isD
          | _ =>
            simp -implicitDefEqProofs (disch := trivial) [b__law_is_unlike, isi_eq, e1, e2, numLw, numL]
    · have h1 : unlB w f g (.tuple xs) = false := by
        unfold unlB
        split
        · rename_i h; cases h; simp at hl
        · rfl
      have h2 : ¬ (xs.length : Int) = 3 := by omega
      rw [h1]
      simp -implicitDefEqProofs (disch := trivial) [b__law_is_unlike, isi_eq, h2]
  | dict _ => cases hx.isD
  | _ => simp -implicitDefEqProofs (disch := trivial) [b__law_is_unlike, isi_eq, unlB]
end PL.K

/-! M2: k34's due answer and its other orders. -/
namespace PL.K
open PySem PL.Y
local macro_rules | `(tactic| trivial) => `(tactic| first | omega | (simp -implicitDefEqProofs; done) | (simp -implicitDefEqProofs; omega))
theorem unit_set {w a : Nat} (ha : a < w) : (List.replicate w (0 : Int)).set a 1 = unitL w a := by
  refine List.ext_getElem (by simp [unitL]) fun i h1 h2 => ?_
  rw [List.getElem_set]
  simp only [unitL, List.getElem_map, List.getElem_range, List.getElem_replicate]
  by_cases h : i = a
  · subst h; simp
  · rw [if_neg h, if_neg (fun e => h e.symm)]
theorem law_alike_due_ok (n w : Nat) (f g : List Sm) (hf : FormOk w f) (hg : FormOk w g) (hw : w ≤ 1000) :
    run P (n + 1) "_law_alike_due" [.d (.list (f.map encS)), .d (.list (g.map encS))] = some (.d (alikeD w f g), [some (.d (.list (f.map encS))), some (.d (.list (g.map encS)))]) := by
  have hfl := hf.l
  have hgl := hg.l
  have hl : f.length = g.length := by omega
  have r0 := rep0 hw
  refine of_wp ?_
  rw [run_at fn__law_alike_due rfl]
  simp -implicitDefEqProofs (disch := trivial) [b__law_alike_due, rng1]
  refine wp_forI (fun i e => ∃ j2, e = [some (.d (.list (f.map encS))), some (.d (.list (g.map encS))), jk j2, none, none] ∧ ∀ k < i, f[k]? = g[k]?) ⟨none, rfl, fun k hk => by omega⟩ (fun J hJ => ?_) ?_
  · rintro i x e hx ⟨j2, rfl, hne⟩
    obtain ⟨hi, rfl⟩ := get_map hx
    have hi : i < f.length := by simpa using hi
    rw [List.getElem_range]
    have a1 := getD_map (f := encS) (show i < f.length by omega)
    have a2 := getD_map (f := encS) (show i < g.length by omega)
    have w1 := hf.w _ (List.getElem_mem (l := f) (n := i) (by omega))
    have w2 := hg.w _ (List.getElem_mem (l := g) (n := i) (by omega))
    have c1 := ne_encS (s := f[i]'(by omega)) (t := g[i]'(by omega)) (by omega) (by omega)
    by_cases he : f[i]'(by omega) = g[i]'(by omega)
    · simp only [he, decide_true, Bool.not_true] at c1
      simp -implicitDefEqProofs (disch := trivial) [a1, a2, c1, he]
      refine hJ _ _ ⟨some (nI i), rfl, fun k hk => ?_⟩
      by_cases hki : k = i
      · subst hki
        rw [List.getElem?_eq_getElem (by omega), List.getElem?_eq_getElem (by omega), he]
      · exact hne k (by omega)
    · simp only [he, decide_false, Bool.not_false] at c1
      have ha : alikeAt f g = some i := alikeAt_some hi hl hne (by rw [List.getElem?_eq_getElem (by omega), List.getElem?_eq_getElem (by omega)]; simpa using he)
      have g1 : f.getD i (zero w) = f[i] := getD_of _ _
      have g2 : g.getD i (zero w) = g[i]'(by omega) := getD_of _ _
      have hD : alikeD w f g = .tuple [.str "unlike", .list ((uNums w (f[i]) (g[i]'(by omega))).map .int), nI i] := by
        unfold alikeD
        rw [ha]
        simp only
        rw [g1, g2]
      rw [hD]
      clear hD g1 g2
      obtain ⟨s, hs⟩ : ∃ s, f[i]'(by omega) = s := ⟨_, rfl⟩
      obtain ⟨t, ht⟩ : ∃ t, g[i]'(by omega) = t := ⟨_, rfl⟩
      rw [hs] at a1 w1 c1 he ⊢
      rw [ht] at a2 w2 c1 he ⊢
      have i0 : idxF (encS s) (.int 0) = some (.is (.int s.1)) := rfl
      have i1 : idxF (encS s) (.int 1) = some (.is (encI s.2)) := rfl
      have i0' : idxF (encS t) (.int 0) = some (.is (.int t.1)) := rfl
      have i1' : idxF (encS t) (.int 1) = some (.is (encI t.2)) := rfl
      by_cases hst : s.1 = t.1
      · have hs2 : s.2 ≠ t.2 := fun h => he (Prod.ext hst h)
        have hex : ∃ k, (List.range w).find? (fun a => !decide (s.2[a]? = t.2[a]?)) = some k := by
          cases hq : (List.range w).find? (fun a => !decide (s.2[a]? = t.2[a]?)) with
          | some k => exact ⟨k, rfl⟩
          | none =>
            exfalso
            rw [List.find?_eq_none] at hq
            refine hs2 (List.ext_getElem? fun k => ?_)
            by_cases hk : k < w
            · simpa using hq k (List.mem_range.mpr hk)
            · rw [List.getElem?_eq_none (by omega), List.getElem?_eq_none (by omega)]
        obtain ⟨k, hk⟩ := hex
        have hkw : k < w := List.mem_range.mp (List.mem_of_find?_eq_some hk)
        obtain ⟨r, hr⟩ : ∃ r, (List.range w).filter (fun a => !decide (s.2[a]? = t.2[a]?)) = k :: r := by
          rw [← List.head?_filter] at hk
          cases hq : (List.range w).filter (fun a => !decide (s.2[a]? = t.2[a]?)) with
          | nil => rw [hq] at hk; cases hk
          | cons y r => rw [hq] at hk; cases hk; exact ⟨r, rfl⟩
        have hu : uNums w s t = unitL w k := by unfold uNums; rw [if_pos hst, hk]
        have hse : (List.map PyData.int (List.replicate w 0)).set k (.int 1) = (unitL w k).map .int := by rw [← unit_set hkw, List.map_set]
        have hs0 := sto_nat (xs := (List.replicate w (0 : Int)).map .int) (k := k) (by simpa using hkw) (.int 1)
        rw [hse] at hs0
        rw [hu]
        simp -implicitDefEqProofs (disch := trivial) [a1, a2, c1, hfl, r0, if_le_lim, i0, i1, i0', i1', hst, rng1, -List.map_replicate]
        refine wp_eq (lcL_filter (enc := nI) (fun a => !decide (s.2[a]? = t.2[a]?)) nI (ys := List.range w) (acc := []) (fun y hy => of_wp ?_) (by simp; omega)) ?_
        · have hy := List.mem_range.mp hy
          have b1 := getD_map (f := PyData.int) (show y < s.2.length by omega)
          have b2 := getD_map (f := PyData.int) (show y < t.2.length by omega)
          by_cases hq : s.2[y]'(by omega) = t.2[y]'(by omega)
          · simp -implicitDefEqProofs (disch := trivial) [lcT_eq, a1, a2, i0, i1, i0', i1', encI, b1, b2, hq]
          · simp -implicitDefEqProofs (disch := trivial) [lcT_eq, a1, a2, i0, i1, i0', i1', encI, b1, b2, hq]
        rw [hr]
        simp -implicitDefEqProofs (disch := trivial) [hs0, if_le_lim, -List.map_replicate]
      · have hu : uNums w s t = List.replicate w 0 := by unfold uNums; rw [if_neg hst]
        rw [hu]
        simp -implicitDefEqProofs (disch := trivial) [a1, a2, c1, hfl, r0, if_le_lim, i0, i1, i0', i1', hst, -List.map_replicate]
  · rintro e ⟨j2, rfl, hne⟩
    simp only [List.length_map, List.length_range] at hne
    have ha : alikeAt f g = none := alikeAt_none hl hne
    simp -implicitDefEqProofs (disch := trivial) [alikeD, ha, if_le_lim]
theorem law_other_order_ok (n : Nat) (ds : List Int) (hd : Dr ds) (hdl : ds.length = 120) (j : Nat) (h0 : 0 < j) (hj : j ≤ 5) (o : List Nat) (hn : o.Nodup) (ho : ∀ x ∈ o, x < j) :
    ∃ p : List Nat, p.length ≤ 5 ∧ (∀ x ∈ p, x < j) ∧ run P (n + 3) "_law_other_order" [.d (encD ds), .d (encO o), .d (nI j)] = some (.new (.lst (p.map nI)), [some (.d (encD ds)), some (.d (encO o)), some (.d (nI j))]) := by
  have hol : o.length ≤ 5 := Nat.le_trans (nodup_len _ hn ho) hj
  obtain ⟨c, c0, c1, a1⟩ := draw_ex hd 95 (by omega)
  obtain ⟨d, d0, d1, a2⟩ := draw_ex hd 96 (by omega)
  have a1 : at? (ds.map PyData.int) 95 = some (.int c) := a1
  have a2 : at? (ds.map PyData.int) 96 = some (.int d) := a2
  have main : wp (run P (n + 3) "_law_other_order" [.d (encD ds), .d (encO o), .d (nI j)]) fun q => ∃ p : List Nat, (p.length ≤ 5 ∧ ∀ x ∈ p, x < j) ∧ q = (.new (.lst (p.map nI)), [some (.d (encD ds)), some (.d (encO o)), some (.d (nI j))]) := by
    obtain ⟨p, hpn, hpj, e1⟩ := law_some_order_at n ds hd 97 j h0 hj
    have e1 : run P (n + 2) "_law_some_order" [.d (encD ds), .d (.int 97), .d (nI j)] = some (.new (.lst (p.map nI)), [some (.d (encD ds)), some (.d (.int 97)), some (.d (nI j))]) := e1
    have hpl : p.length ≤ 5 := Nat.le_trans (nodup_len _ hpn hpj) hj
    rw [run_at fn__law_other_order rfl]
    by_cases h3 : c % 4 = 0 ∧ 1 < o.length
    · obtain ⟨hc, hol2⟩ := h3
      have hol' : (1 : Int) < o.length := by omega
      obtain ⟨m, hm, hm1⟩ := mod_nat1 (c := d) hol2
      have z1 : (m : Int) + 1 = ((m + 1 : Nat) : Int) := by omega
      have z2 : (m : Int) + 2 = ((m + 2 : Nat) : Int) := by omega
      have b1 := getD_map (f := nI) (show m < o.length by omega)
      have b2 := getD_map (f := nI) (show m + 1 < o.length by omega)
      have k3 := cut_to (o.map nI) m
      have k4 := cut_from (o.map nI) (m + 2)
      have m1 := ho _ (List.getElem_mem (l := o) (n := m) (by omega))
      have m2 := ho _ (List.getElem_mem (l := o) (n := m + 1) (by omega))
      rw [← List.map_take] at k3
      rw [← List.map_drop] at k4
      have l3 : (o.take m).length ≤ 5 := by rw [List.length_take]; omega
      have l4 : (o.drop (m + 2)).length ≤ 5 := by rw [List.length_drop]; omega
      have l5 : (o.take m).length + (o.drop (m + 2)).length + 2 ≤ 5 := by rw [List.length_take, List.length_drop]; omega
      have q3 : ∀ x ∈ o.take m, x < j := fun x hx => ho x (List.mem_of_mem_take hx)
      have q4 : ∀ x ∈ o.drop (m + 2), x < j := fun x hx => ho x (List.mem_of_mem_drop hx)
      generalize o.take m = xa at *
      generalize o.drop (m + 2) = xb at *
      simp -implicitDefEqProofs (disch := trivial) [b__law_other_order, a1, a2, bin_mod, hc, hol', hol2, hm, z1, z2, b1, b2, k3, k4, if_le_lim, catL, -Int.natCast_add]
      refine ⟨xa ++ o[m + 1] :: o[m] :: xb, ⟨by simp; omega, fun x hx => ?_⟩, by simp⟩
      rcases List.mem_append.mp hx with hx | hx
      · exact q3 x hx
      · rcases List.mem_cons.mp hx with rfl | hx
        · exact m2
        · rcases List.mem_cons.mp hx with rfl | hx
          · exact m1
          · exact q4 x hx
    · have cut1 : ∀ {Q : R × En → Prop}, wp ((execs ⟨run P (n + 2), P.io, P.glb⟩ (dropS 2 b__law_other_order) [some (.d (encD ds)), some (.d (encO o)), some (.d (nI j)), some (.d (.int (c % 4))), none]).bind (fin 3)) Q → wp ((execs ⟨run P (n + 2), P.io, P.glb⟩ b__law_other_order [some (.d (encD ds)), some (.d (encO o)), some (.d (nI j)), none, none]).bind (fin 3)) Q := by
        intro Q h
        rw [wp_bind] at h ⊢
        refine wp_cut 2 (fun e => e = [some (.d (encD ds)), some (.d (encO o)), some (.d (nI j)), some (.d (.int (c % 4))), none]) ?_ ?_
        · by_cases hc : c % 4 = 0
          · have hol' : ¬ (1 : Int) < o.length := fun h => h3 ⟨hc, by omega⟩
            simp -implicitDefEqProofs (disch := trivial) [b__law_other_order, a1, bin_mod, hc, hol']
          · simp -implicitDefEqProofs (disch := trivial) [b__law_other_order, a1, bin_mod, hc]
        · rintro _ rfl
          exact h
      refine cut1 ?_
      by_cases hc1 : c % 4 = 1
      · simp -implicitDefEqProofs (disch := trivial) [b__law_other_order, hc1]
        exact ⟨o.reverse, ⟨by simpa using hol, fun x hx => ho x (List.mem_reverse.mp hx)⟩, by simp⟩
      · by_cases hc2 : c % 4 = 2
        · have s1 := blt_sortN (l := o) (by omega)
          simp -implicitDefEqProofs (disch := trivial) [b__law_other_order, hc2, s1]
          exact ⟨srt o, ⟨by rw [(srt_perm o).length_eq]; exact hol, fun x hx => ho x ((srt_perm o).mem_iff.mp hx)⟩, by simp⟩
        · simp -implicitDefEqProofs (disch := trivial) [b__law_other_order, hc1, hc2, e1]
          exact ⟨p, ⟨hpl, hpj⟩, by simp⟩
  obtain ⟨q, h1, h, h2, rfl⟩ := main
  exact ⟨h, h2.1, h2.2, h1⟩
end PL.K

/-! M3: k34's papers. -/
namespace PL.K
open PySem PL.Y
local macro_rules | `(tactic| trivial) => `(tactic| first | omega | (simp -implicitDefEqProofs; done) | (simp -implicitDefEqProofs; omega))
def Q0 (x : D) : Prop := G 1 x ∧ Wd 40 x
def Q1 (x : D) : Prop := G 2 x ∧ Wd 300 x
def Q2 (x : D) : Prop := G 3 x ∧ Wd 2000 x
theorem Q0.up {x : D} (h : Q0 x) : Q1 x := ⟨h.1.up, h.2.up (by decide)⟩
theorem Q1.up {x : D} (h : Q1 x) : Q2 x := ⟨h.1.up, h.2.up (by decide)⟩
theorem Q0_none : Q0 .none := ⟨by simp [G], Wd_none.up (by decide)⟩
theorem Q0_bool (b : Bool) : Q0 (.bool b) := ⟨by simp [G], (Wd_bool b).up (by decide)⟩
theorem Q0_int {v : Int} (h : v.natAbs < 10 ^ 37) : Q0 (.int v) := ⟨by simp [G], (Wd_int (k := 37) (by decide) (by decide) h).up (by decide)⟩
theorem Q0_nat {k : Nat} (h : k < 1000) : Q0 (nI k) := Q0_int (by
  have p37 : (10 : Nat) ^ 37 = 10000000000000000000000000000000000000 := rfl
  rw [p37]; omega)
theorem Q0_str {s : Str} (h : (PyData.str s).shown.length ≤ 40) : Q0 (.str s) := ⟨by simp [G], Wd_str h⟩
theorem Q0_l0 : Q0 (.list [.int 0]) := ⟨by simp [G_list, G], by constructor <;> decide +kernel⟩
theorem Q0_ls {s : Str} (h : (PyData.list [.str s]).shown.length ≤ 40) : Q0 (.list [.str s]) := ⟨by simp [G_list, G], h, rfl⟩
theorem Q1_list {xs : List D} (h : ∀ x ∈ xs, Q0 x) (hl : xs.length ≤ 6) : Q1 (.list xs) := ⟨(G_list _ _).mpr ⟨by omega, fun x hx => (h x hx).1⟩, Wd_list (fun x hx => (h x hx).2) (by omega)⟩
theorem Q1_tup {xs : List D} (h : ∀ x ∈ xs, Q0 x) (hl : xs.length ≤ 6) : Q1 (.tuple xs) := ⟨(G_tup _ _).mpr ⟨by omega, fun x hx => (h x hx).1⟩, Wd_tup (fun x hx => (h x hx).2) (by omega)⟩
theorem Q2_list {xs : List D} (h : ∀ x ∈ xs, Q1 x) (hl : xs.length ≤ 6) : Q2 (.list xs) := ⟨(G_list _ _).mpr ⟨by omega, fun x hx => (h x hx).1⟩, Wd_list (fun x hx => (h x hx).2) (by omega)⟩
theorem Q2_tup {xs : List D} (h : ∀ x ∈ xs, Q1 x) (hl : xs.length ≤ 6) : Q2 (.tuple xs) := ⟨(G_tup _ _).mpr ⟨by omega, fun x hx => (h x hx).1⟩, Wd_tup (fun x hx => (h x hx).2) (by omega)⟩
def All {α : Type} (p : α → Prop) : List α → Prop
  | [] => True
  | x :: xs => p x ∧ All p xs
theorem All.mem {α : Type} {p : α → Prop} : ∀ {xs : List α}, All p xs → ∀ x ∈ xs, p x
  | x :: xs, h, y, hy => by
    rcases List.mem_cons.mp hy with rfl | hy
    · exact h.1
    · exact h.2.mem y hy
/-- numbers of a paper -/
structure Nu (m : Nat) (ns : List Int) : Prop where
  l : ns.length = m
  b : ∀ v ∈ ns, v.natAbs < 10 ^ 37
theorem Nu.q1 {m : Nat} {ns : List Int} (h : Nu m ns) (hm : m ≤ 6) : Q1 (.list (ns.map .int)) := Q1_list (fun x hx => by
  obtain ⟨v, hv, rfl⟩ := List.mem_map.mp hx
  exact Q0_int (h.b v hv)) (by simp [h.l, hm])
theorem Nu.q1t {m : Nat} {ns : List Int} (h : Nu m ns) (hm : m ≤ 6) : Q1 (.tuple (ns.map .int)) := Q1_tup (fun x hx => by
  obtain ⟨v, hv, rfl⟩ := List.mem_map.mp hx
  exact Q0_int (h.b v hv)) (by simp [h.l, hm])
theorem repL1 (x : D) {n : Nat} (h : n ≤ 1000) : binF .Mult (.list [x]) (.int (n : Int)) = some (.new (.lst (List.replicate n x))) := by
  rw [bin_repL ⟨by omega, by omega, by rw [Int.toNat_natCast]; exact le_lim (by simp; omega)⟩, Int.toNat_natCast, rep_one]
theorem rep_mem {n : Nat} {x y : D} (h : y ∈ List.replicate n x) : y = x := (List.mem_replicate.mp h).2
/-- a paper with its parts -/
def pp (ns : List Int) (a : Nat) : D := .tuple [.str "unlike", .list (ns.map .int), nI a]
theorem sh_unl : (PyData.str (Str.ofString "unlike")).shown.length ≤ 40 ∧ (PyData.str (Str.ofString "alike")).shown.length ≤ 40 ∧ (PyData.str (Str.ofString "unlikely")).shown.length ≤ 40 ∧ (PyData.str (Str.ofString "0")).shown.length ≤ 40 ∧ (PyData.list [.str (Str.ofString "unlike")]).shown.length ≤ 40 := by
  refine ⟨?_, ?_, ?_, ?_, ?_⟩ <;> decide +kernel
theorem Q2_pp {m : Nat} {ns : List Int} (h : Nu m ns) (hm : m ≤ 6) {a : Nat} (ha : a < 1000) : Q2 (pp ns a) :=
  Q2_tup (All.mem ⟨(Q0_str sh_unl.1).up, h.q1 hm, (Q0_nat ha).up, trivial⟩) (by simp)
def PapI (m k : Nat) (pre : List D) (ns : List Int) (a : Nat) : Prop := (∀ x ∈ pre, Q2 x) ∧ pre.length ≤ k ∧ Nu m ns ∧ a < m
theorem law_papers_ok (n : Nat) (ds : List Int) (hd : Dr ds) (hdl : ds.length = 120) (m : Nat) (h0 : 0 < m) (hm : m ≤ 5) (told : D)
    (ht : (∃ y, told = .tuple [.str "alike", y]) ∨ ∃ ns a, told = pp ns a ∧ Nu m ns ∧ a < m) :
    ∃ xs : List D, (∀ x ∈ xs, Q2 x) ∧ xs.length ≤ 100 ∧ run P (n + 3) "_law_papers" [.d (encD ds), .d (nI m), .d told] = some (.new (.lst xs), [some (.d (encD ds)), some (.d (nI m)), some (.d told)]) := by
  have main : wp (run P (n + 3) "_law_papers" [.d (encD ds), .d (nI m), .d told]) fun q => ∃ xs : List D, ((∀ x ∈ xs, Q2 x) ∧ xs.length ≤ 100) ∧ q = (.new (.lst xs), [some (.d (encD ds)), some (.d (nI m)), some (.d told)]) := by
    rw [run_at fn__law_papers rfl, wp_bind]
    -- the loop
    refine wp_cut 2 (fun e => ∃ (pre : List D) (ns : List Int) (a : Nat) (j4 : Option D) (j5 : Option D), PapI m 20 pre ns a ∧ e = [some (.d (encD ds)), some (.d (nI m)), some (.d told), some (.own false (.lst (pre ++ [pp ns a]))), jk j4, jk j5, none, none, none]) ?_ ?_
    · have r3 : rngF [.int 3] = some ((List.range 3).map nI) := rng1 (n := 3) (by decide)
      simp -implicitDefEqProofs (disch := trivial) [b__law_papers, r3, if_le_lim]
      refine wp_forI (fun i e => ∃ (xs : List D) (j4 : Option D) (j5 : Option D), ((∀ x ∈ xs, Q2 x) ∧ xs.length ≤ m * i ∧ (0 < i → ∃ pre ns a, xs = pre ++ [pp ns a] ∧ Nu m ns ∧ a < m)) ∧ e = [some (.d (encD ds)), some (.d (nI m)), some (.d told), some (.own false (.lst xs)), jk j4, jk j5, none, none, none]) ⟨[], none, none, ⟨(fun x hx => absurd hx List.not_mem_nil), by simp, (fun h => by omega)⟩, rfl⟩ (fun J hJ => ?_) ?_
      · rintro i x e hx ⟨xs, j4, j5, ⟨hxs, hxl, _⟩, rfl⟩
        obtain ⟨hi, rfl⟩ := get_map hx
        have hi : i < 3 := by simpa using hi
        rw [List.getElem_range]
        have hmi : m * i ≤ 5 * 2 := Nat.mul_le_mul hm (by omega)
        have rm : rngF [.int (m : Int)] = some ((List.range m).map nI) := rng1 (by omega)
        have f1 : ∀ k < m, ∃ c : Int, 0 ≤ c ∧ c < 1000003 ∧ at? (ds.map PyData.int) ((100 + 3 * (i : Int) + (k : Int)) % 120) = some (.int c) := fun k hk => by
          have e : (100 + 3 * (i : Int) + (k : Int)) % 120 = (((100 + 3 * i + k) % 120 : Nat) : Int) := by omega
          rw [e]
          exact draw_ex hd _ (by omega)
        have f2 : ∀ k : Nat, ∃ c : Int, k < m → 0 ≤ c ∧ c < 1000003 ∧ at? (ds.map PyData.int) ((100 + 3 * (i : Int) + (k : Int)) % 120) = some (.int c) := fun k => by
          by_cases hk : k < m
          · obtain ⟨c, h⟩ := f1 k hk
            exact ⟨c, fun _ => h⟩
          · exact ⟨0, fun h => absurd h hk⟩
        obtain ⟨cs, hcs⟩ := Classical.axiomOfChoice f2
        obtain ⟨vs, hvs⟩ := Classical.axiomOfChoice fun k => law_number_b n ds hd (50 + k)
        have p37 : (10 : Nat) ^ 37 = 10000000000000000000000000000000000000 := rfl
        have n1 : Nu m ((List.range m).map fun k => cs k % 5 - 2) := ⟨by simp, fun v hv => by
          obtain ⟨k, hk, rfl⟩ := List.mem_map.mp hv
          have := hcs k (List.mem_range.mp hk)
          rw [p37]; omega⟩
        have n2 : Nu m ((List.range m).map vs) := ⟨by simp, fun v hv => by
          obtain ⟨k, hk, rfl⟩ := List.mem_map.mp hv
          exact (hvs k).1⟩
        have fin : ∀ ns : List Int, Nu m ns → ∃ (xs1 : List D) (j4 : Option D) (j5 : Option D), ((∀ x ∈ xs1, Q2 x) ∧ xs1.length ≤ m * (i + 1) ∧ (0 < i + 1 → ∃ pre ns a, xs1 = pre ++ [pp ns a] ∧ Nu m ns ∧ a < m)) ∧ ([some (.d (encD ds)), some (.d (nI m)), some (.d told), some (.own false (.lst (xs ++ (List.range m).map (pp ns)))), jk (some (nI i)), jk (some (.list (ns.map .int))), none, none, none] : En) = [some (.d (encD ds)), some (.d (nI m)), some (.d told), some (.own false (.lst xs1)), jk j4, jk j5, none, none, none] := fun ns hns => by
          refine ⟨_, some (nI i), some (.list (ns.map .int)), ⟨fun x hx => ?_, by simp [Nat.mul_add]; exact hxl, fun _ => ?_⟩, rfl⟩
          · rcases List.mem_append.mp hx with hx | hx
            · exact hxs x hx
            · obtain ⟨k, hk, rfl⟩ := List.mem_map.mp hx
              have := List.mem_range.mp hk
              exact Q2_pp hns (by omega) (by omega)
          · refine ⟨xs ++ (List.range (m - 1)).map (pp ns), ns, m - 1, ?_, hns, by omega⟩
            conv => lhs; rw [show m = m - 1 + 1 from by omega, List.range_succ]
            simp
        have l1 : ((List.range m).map fun k => PyData.int (cs k % 5 - 2)) = ((List.range m).map fun k => cs k % 5 - 2).map .int := by rw [List.map_map]; rfl
        have l2 : ((List.range m).map fun k => PyData.int (vs k)) = ((List.range m).map vs).map .int := by rw [List.map_map]; rfl
        · simp -implicitDefEqProofs (disch := trivial) [rm]
          refine wp_eq (lcL_rng (fun k => PyData.int (cs k % 5 - 2)) (n := m) (fun k hk => of_wp ?_) (by omega)) ?_
          · have := (hcs k hk).2.2
            simp -implicitDefEqProofs (disch := trivial) [lcT_eq, mulI, bin_mod, this]
          rw [l1]
          by_cases hi2 : i = 2
          · subst hi2
            simp -implicitDefEqProofs (disch := trivial) [rm, -List.map_map]
            refine wp_eq (lcL_rng (fun k => PyData.int (vs k)) (n := m) (fun k hk => of_wp ?_) (by omega)) ?_
            · have c1 : ((50 + k : Nat) : Int) = 50 + (k : Int) := by omega
              have e1 := (hvs k).2
              rw [nI, c1] at e1
              simp -implicitDefEqProofs (disch := trivial) [lcT_eq, e1]
            rw [l2]
            generalize (List.range m).map vs = ns at *
            simp -implicitDefEqProofs (disch := trivial) [rm, -List.map_map]
            refine wp_lcI (fun k acc e => acc = (List.range k).map (pp ns) ∧ e = [some (.d (encD ds)), some (.d (nI m)), some (.d told), some (.own false (.lst xs)), some (.d (nI 2)), some (if k = 0 then .own false (.lst (ns.map .int)) else .d (.list (ns.map .int))), none, none, none]) ⟨rfl, rfl⟩ (fun J2 hJ2 => ?_) ?_
            · rintro k x acc e hx ⟨rfl, rfl⟩
              obtain ⟨hk, rfl⟩ := get_map hx
              have hk : k < m := by simpa using hk
              rw [List.getElem_range]
              have lt := lt_lim (n := k) (by omega)
              by_cases hk0 : k = 0
              · subst hk0
                simp -implicitDefEqProofs (disch := trivial) [lcT_eq, if_le_lim, lt]
                exact hJ2 _ _ _ ⟨rfl, rfl⟩
              · simp -implicitDefEqProofs (disch := trivial) [lcT_eq, if_le_lim, hk0, lt]
                exact hJ2 _ _ _ ⟨by rw [List.range_succ, List.map_append]; rfl, by simp⟩
            rintro acc e ⟨rfl, rfl⟩
            have hm0 : ¬ m = 0 := by omega
            simp -implicitDefEqProofs (disch := trivial) [catL, hm0]
            exact hJ _ _ (fin ns n2)
          · have hi2' : ¬ (i : Int) = 2 := by omega
            generalize ((List.range m).map fun k => cs k % 5 - 2) = ns at *
            simp -implicitDefEqProofs (disch := trivial) [rm, hi2', -List.map_map]
            refine wp_lcI (fun k acc e => acc = (List.range k).map (pp ns) ∧ e = [some (.d (encD ds)), some (.d (nI m)), some (.d told), some (.own false (.lst xs)), some (.d (nI i)), some (if k = 0 then .own false (.lst (ns.map .int)) else .d (.list (ns.map .int))), none, none, none]) ⟨rfl, rfl⟩ (fun J2 hJ2 => ?_) ?_
            · rintro k x acc e hx ⟨rfl, rfl⟩
              obtain ⟨hk, rfl⟩ := get_map hx
              have hk : k < m := by simpa using hk
              rw [List.getElem_range]
              have lt := lt_lim (n := k) (by omega)
              by_cases hk0 : k = 0
              · subst hk0
                simp -implicitDefEqProofs (disch := trivial) [lcT_eq, if_le_lim, lt]
                exact hJ2 _ _ _ ⟨rfl, rfl⟩
              · simp -implicitDefEqProofs (disch := trivial) [lcT_eq, if_le_lim, hk0, lt]
                exact hJ2 _ _ _ ⟨by rw [List.range_succ, List.map_append]; rfl, by simp⟩
            rintro acc e ⟨rfl, rfl⟩
            have hm0 : ¬ m = 0 := by omega
            simp -implicitDefEqProofs (disch := trivial) [catL, hm0]
            exact hJ _ _ (fin ns n1)
      · rintro e ⟨xs, j4, j5, ⟨hxs, hxl, hpp⟩, rfl⟩
        simp only [List.length_map, List.length_range] at hxl hpp
        obtain ⟨pre, ns, a, rfl, hns, ha⟩ := hpp (by decide)
        simp -implicitDefEqProofs (disch := trivial)
        refine ⟨pre, ns, a, ⟨fun x hx => hxs x (List.mem_append_left _ hx), ?_, hns, ha⟩, ⟨rfl, rfl⟩, ⟨j4, rfl⟩, ⟨j5, rfl⟩⟩
        simp at hxl
        omega
    rintro _ ⟨pre, ns, a, j4, j5, ⟨hpre, hpl, hns, ha⟩, rfl⟩
    refine wp_cut 1 (fun e => ∃ (pre : List D) (ns : List Int) (a : Nat), PapI m 21 pre ns a ∧ e = [some (.d (encD ds)), some (.d (nI m)), some (.d told), some (.own false (.lst (pre ++ [pp ns a]))), jk j4, jk j5, none, none, none]) ?_ ?_
    · rcases ht with ⟨y, rfl⟩ | ⟨ns2, a2, rfl, hn2, ha2⟩
      · simp -implicitDefEqProofs (disch := trivial) [b__law_papers]
        exact ⟨pre, ns, a, ⟨hpre, by omega, hns, ha⟩, rfl, rfl⟩
      · have i0 : idxF (pp ns2 a2) (.int 0) = some (.is (.str "unlike")) := rfl
        have p0 : atom (.d (pp ns2 a2)) = false := rfl
        simp -implicitDefEqProofs (disch := trivial) [b__law_papers, i0, appL]
        refine ⟨pre ++ [pp ns a], ns2, a2, ⟨fun x hx => ?_, by simp; omega, hn2, ha2⟩, by simp⟩
        rcases List.mem_append.mp hx with hx | hx
        · exact hpre x hx
        · rw [List.mem_singleton.mp hx]
          exact Q2_pp hns (by omega) (by omega)
    rintro _ ⟨pre, ns, a, ⟨hpre, hpl, hns, ha⟩, rfl⟩
    have hpp := Q2_pp hns (by omega) (a := a) (by omega)
    have hnl := hns.l
    refine wp_cut 1 (fun e => e = [some (.d (encD ds)), some (.d (nI m)), some (.d told), some (.own false (.lst (pre ++ [pp ns a]))), jk j4, some (.d (.list (ns.map .int))), some (.d (.str "unlike")), some (.d (nI a)), none]) ?_ ?_
    · simp -implicitDefEqProofs (disch := trivial) [b__law_papers, at_last, pp]
    rintro _ rfl
    have q1 := hns.q1 (show m ≤ 6 by omega)
    have qa : Q1 (nI a) := (Q0_nat (by omega)).up
    have qm : Q1 (nI m) := (Q0_nat (by omega)).up
    have qw : Q1 (.str "unlike") := (Q0_str sh_unl.1).up
    have qt : ∀ {xs : List D}, xs.length ≤ 6 → All Q1 xs → Q2 (.tuple xs) := fun h1 h2 => Q2_tup h2.mem h1
    refine wp_cut 1 (fun e => ∃ xs, ((∀ x ∈ xs, Q2 x) ∧ xs.length ≤ 40) ∧ e = [some (.d (encD ds)), some (.d (nI m)), some (.d told), some (.own false (.lst xs)), jk j4, some (.d (.list (ns.map .int))), some (.d (.str "unlike")), some (.d (nI a)), none]) ?_ ?_
    · have bl : bltF .list [pp ns a] = some (.new (.lst [.str "unlike", .list (ns.map .int), nI a])) := rfl
      simp -implicitDefEqProofs (disch := trivial) [b__law_papers, at_last, bl, if_le_lim, catL]
      have qs : Q1 (.str "alike") := (Q0_str sh_unl.2.1).up
      refine ⟨?_, by omega⟩
      rintro x (hx | rfl | rfl | rfl | rfl | rfl | rfl | rfl | rfl | rfl | rfl | rfl | rfl)
      · exact hpre x hx
      · exact hpp
      · exact Q0_none.up.up
      · exact (Q0_bool _).up.up
      · exact qw.up
      · exact qt (by simp) True.intro
      · exact Q2_list (fun x hx => by cases hx) (by decide)
      · exact Q2_list (All.mem ⟨qw, q1, qa, True.intro⟩) (by simp)
      · exact qt (by simp) ⟨qw, True.intro⟩
      · exact qt (by simp) ⟨qw, q1, True.intro⟩
      · exact qt (by simp) ⟨qw, q1, qa, qa, True.intro⟩
      · exact qt (by simp) ⟨qs, q1, qa, True.intro⟩
      · exact qt (by simp) ⟨qa, q1, qw, True.intro⟩
    rintro _ ⟨xs, ⟨hxs, hxl⟩, rfl⟩
    refine wp_cut 1 (fun e => ∃ xs, ((∀ x ∈ xs, Q2 x) ∧ xs.length ≤ 50) ∧ e = [some (.d (encD ds)), some (.d (nI m)), some (.d told), some (.own false (.lst xs)), jk j4, some (.d (.list (ns.map .int))), some (.d (.str "unlike")), some (.d (nI a)), none]) ?_ ?_
    · have ct : cut (ns.map PyData.int) none (some (-1)) = (ns.take (ns.length - 1)).map .int := by
        have := cut_neg (ns.map PyData.int) 1 (by decide)
        rw [List.length_map, ← List.map_take] at this
        exact this
      simp -implicitDefEqProofs (disch := trivial) [b__law_papers, if_le_lim, catL, ct]
      refine ⟨?_, by omega⟩
      have k1 : Q1 (.list ((ns.take (ns.length - 1)).map .int)) := Q1_list (fun x hx => by
        obtain ⟨v, hv, rfl⟩ := List.mem_map.mp hx
        exact Q0_int (hns.b v (List.mem_of_mem_take hv))) (by simp; omega)
      rw [List.map_take] at k1
      have k2 : Q1 (.list (ns.map .int ++ [.int 0])) := Q1_list (fun x hx => by
        rcases List.mem_append.mp hx with hx | hx
        · obtain ⟨v, hv, rfl⟩ := List.mem_map.mp hx
          exact Q0_int (hns.b v hv)
        · rw [List.mem_singleton.mp hx]; exact Q0_nat (k := 0) (by decide)) (by simp; omega)
      have k3 : Q1 (.int (-1)) := (Q0_int (by decide)).up
      rintro x (hx | rfl | rfl | rfl | rfl | rfl | rfl)
      · exact hxs x hx
      · exact qt (by simp) ⟨qw, hns.q1t (by omega), qa, True.intro⟩
      · exact qt (by simp) ⟨qw, k1, qa, True.intro⟩
      · exact qt (by simp) ⟨qw, k2, qa, True.intro⟩
      · exact qt (by simp) ⟨qw, q1, k3, True.intro⟩
      · exact qt (by simp) ⟨qw, q1, qm, True.intro⟩
      · exact qt (by simp) ⟨qw, q1, Q0_none.up, True.intro⟩
    rintro _ ⟨xs, ⟨hxs, hxl⟩, rfl⟩
    refine wp_cut 1 (fun e => ∃ xs, ((∀ x ∈ xs, Q2 x) ∧ xs.length ≤ 60) ∧ e = [some (.d (encD ds)), some (.d (nI m)), some (.d told), some (.own false (.lst xs)), jk j4, some (.d (.list (ns.map .int))), some (.d (.str "unlike")), some (.d (nI a)), none]) ?_ ?_
    · have ct : cut (ns.map PyData.int) (some 1) none = (ns.drop 1).map .int := by
        have := cut_from (ns.map PyData.int) 1
        rw [← List.map_drop] at this
        exact this
      simp -implicitDefEqProofs (disch := trivial) [b__law_papers, if_le_lim, catL, ct, repL1]
      refine ⟨?_, by omega⟩
      have k1 : Q1 (.list (.bool true :: (ns.map PyData.int).tail)) := Q1_list (fun x hx => by
        rcases List.mem_cons.mp hx with rfl | hx
        · exact Q0_bool _
        · obtain ⟨v, hv, rfl⟩ := List.mem_map.mp (List.mem_of_mem_tail hx)
          exact Q0_int (hns.b v hv)) (by simp; omega)
      have k2 : Q1 (.list (List.replicate m .none)) := Q1_list (fun x hx => by rw [rep_mem hx]; exact Q0_none) (by simp; omega)
      have k3 : Q1 (.list [nI a]) := Q1_list (All.mem ⟨Q0_nat (by omega), True.intro⟩) (by simp)
      rintro x (hx | rfl | rfl | rfl | rfl | rfl | rfl)
      · exact hxs x hx
      · exact qt (by simp) ⟨qw, k1, qa, True.intro⟩
      · exact qt (by simp) ⟨qw, k2, qa, True.intro⟩
      · exact qt (by simp) ⟨qw, q1, k3, True.intro⟩
      · exact qt (by simp) ⟨qw, qa, q1, True.intro⟩
      · exact qt (by simp) ⟨qw, q1, (Q0_bool _).up, True.intro⟩
      · exact qt (by simp) ⟨qw, Q1_list (fun x hx => by cases hx) (by simp), qa, True.intro⟩
    rintro _ ⟨xs, ⟨hxs, hxl⟩, rfl⟩
    simp -implicitDefEqProofs (disch := trivial) [b__law_papers, if_le_lim, catL, repL1]
    refine ⟨?_, by omega⟩
    have k1 : Q1 (.list (List.replicate m (.str "0"))) := Q1_list (fun x hx => by rw [rep_mem hx]; exact Q0_str sh_unl.2.2.2.1) (by simp; omega)
    have k2 : Q1 (.list (List.replicate m (.list [.int 0]))) := Q1_list (fun x hx => by rw [rep_mem hx]; exact Q0_l0) (by simp; omega)
    have k3 : Q1 (.list [.str "unlike"]) := (Q0_ls sh_unl.2.2.2.2).up
    have k4 : Q1 (.str "unlikely") := (Q0_str sh_unl.2.2.1).up
    rintro x (hx | rfl | rfl | rfl | rfl)
    · exact hxs x hx
    · exact qt (by simp) ⟨qw, k1, qa, True.intro⟩
    · exact qt (by simp) ⟨qw, k2, qa, True.intro⟩
    · exact qt (by simp) ⟨k3, q1, qa, True.intro⟩
    · exact qt (by simp) ⟨k4, q1, qa, True.intro⟩
  obtain ⟨q, h1, h, h2, rfl⟩ := main
  exact ⟨h, h2.1, h2.2, h1⟩
end PL.K

/-! M4: k34's law. -/
namespace PL.K
open PySem PL.Y
local macro_rules | `(tactic| trivial) => `(tactic| first | omega | (simp -implicitDefEqProofs; done) | (simp -implicitDefEqProofs; omega))
theorem unit_nu {w a : Nat} : Nu w (unitL w a) := ⟨by simp [unitL], fun v hv => by
  obtain ⟨k, _, rfl⟩ := List.mem_map.mp hv
  by_cases h : k = a
  · rw [if_pos h]; decide
  · rw [if_neg h]; decide⟩
theorem rep_nu {w : Nat} : Nu w (List.replicate w (0 : Int)) := ⟨by simp, fun v hv => by
  rw [(List.mem_replicate.mp hv).2]; decide⟩
theorem uNums_nu (w : Nat) (s t : Sm) : Nu w (uNums w s t) := by
  unfold uNums
  split
  · split
    · exact unit_nu
    · exact rep_nu
  · exact rep_nu
theorem find_lt {w a : Nat} {p : Nat → Bool} (h : (List.range w).find? p = some a) : a < w := List.mem_range.mp (List.mem_of_find?_eq_some h)
theorem encS_show {w : Nat} {s : Sm} (hs : s.2.length = w) (hw : w ≤ 5) (hb : Bc 1000000000000000000 s) : G 2 (encS s) ∧ Wd 300 (encS s) := by
  have i1 : ∀ v : Int, v.natAbs ≤ 1000000000000000000 → Wd 20 (.int v) := fun v hv => (Wd_int (k := 19) (by decide) (by decide) (by
    have : (10 : Nat) ^ 19 = 10000000000000000000 := rfl
    rw [this]; omega))
  have hl : (s.2.map PyData.int).length ≤ 5 := by simp; omega
  refine ⟨(G_tup _ _).mpr ⟨by simp, All.mem ⟨by simp [G], ?_, True.intro⟩⟩, Wd_tup (k := 114) (All.mem ⟨(i1 _ hb.1).up (by decide), ?_, True.intro⟩) (by simp)⟩
  · exact (G_tup _ _).mpr ⟨by omega, fun x hx => by obtain ⟨v, _, rfl⟩ := List.mem_map.mp hx; simp [G]⟩
  · refine Wd_tup (k := 20) (fun x hx => ?_) (by omega)
    obtain ⟨v, hv, rfl⟩ := List.mem_map.mp hx
    exact i1 v (hb.2 v hv)
theorem alike_cases (w : Nat) (f g : List Sm) (hf : FormOk w f) (hw : w ≤ 5) (hb : ∀ s ∈ f, Bc 1000000000000000000 s) :
    (shp (alikeD w f g) = true ∧ showOk (alikeD w f g) = true) ∧ ((alikeD w f g = .tuple [.str "alike", .list (f.map encS)] ∧ alikeO w f g = .nod .tup [.d (.str "alike"), .own (.lst (f.map encS))]) ∨
      ∃ ns a, alikeD w f g = pp ns a ∧ alikeO w f g = .nod .tup [.d (.str "unlike"), .own (.lst (ns.map .int)), .d (nI a)] ∧ Nu w ns ∧ a < w) := by
  have hfl := hf.l
  unfold alikeD alikeO
  cases h : alikeAt f g with
  | none =>
    refine ⟨?_, .inl ⟨rfl, rfl⟩⟩
    have g3 : G 4 (.tuple [.str "alike", .list (f.map encS)]) := (G_tup _ _).mpr ⟨by simp, All.mem ⟨by simp [G], (G_list _ _).mpr ⟨by simp; omega, fun x hx => by
      obtain ⟨s, hs, rfl⟩ := List.mem_map.mp hx
      exact (encS_show (hf.w s hs) hw (hb s hs)).1⟩, True.intro⟩⟩
    have w3 : Wd 4000 (.tuple [.str "alike", .list (f.map encS)]) := Wd_tup (k := 1800) (All.mem ⟨(Wd_str sh_unl.2.1).up (by decide), Wd_list (k := 300) (fun x hx => by
      obtain ⟨s, hs, rfl⟩ := List.mem_map.mp hx
      exact (encS_show (hf.w s hs) hw (hb s hs)).2) (by simp; omega), True.intro⟩) (by simp)
    exact ⟨g3.shp (by decide), showOk_of g3 (by decide) w3 (by decide)⟩
  | some a =>
    have hn := uNums_nu w (f.getD a (zero w)) (g.getD a (zero w))
    have ha : a < w := by have := find_lt h; omega
    have hq := Q2_pp hn (by omega) (a := a) (by omega)
    exact ⟨⟨hq.1.shp (by decide), showOk_of hq.1 (by decide) hq.2 (by decide)⟩, .inr ⟨_, a, rfl, rfl, hn, ha⟩⟩
theorem fz_alike (w : Nat) (f g : List Sm) : fzO (alikeO w f g) = some (alikeD w f g) := by
  unfold alikeO alikeD
  split <;> simp
theorem start_law (ns : List Int) (hl : ns.length ≤ 63) {Q : Fl → Prop}
    (h : ∀ (ds : List Int) (h : Ho), Dr ds → ds.length = 120 → LawH h → HGen h h.acc.length h.jobs.length → 0 < h.acc.length → h.acc.length ≤ 5 → 0 < h.jobs.length → h.jobs.length ≤ 5 → wp (execs ⟨run P 99, P.io, P.glb⟩ (dropS 4 b_law) [some (.d (klD (ns.map .int))), some (.d (encD ds)), some (.d (encH h)), none, none, none, some (.d (.int h.acc.length)), some (.d (.int h.jobs.length)), none, none, none, none, none, none, none]) Q) :
    wp (execs ⟨run P 99, P.io, P.glb⟩ b_law [some (.d (klD (ns.map .int))), none, none, none, none, none, none, none, none, none, none, none, none, none, none]) Q := by
  refine wp_cut 4 (fun e => ∃ (ds : List Int) (h : Ho), (Dr ds ∧ ds.length = 120 ∧ LawH h ∧ HGen h h.acc.length h.jobs.length ∧ 0 < h.acc.length ∧ h.acc.length ≤ 5 ∧ 0 < h.jobs.length ∧ h.jobs.length ≤ 5) ∧ e = [some (.d (klD (ns.map .int))), some (.d (encD ds)), some (.d (encH h)), none, none, none, some (.d (.int h.acc.length)), some (.d (.int h.jobs.length)), none, none, none, none, none, none, none]) ?_ ?_
  · obtain ⟨⟨q1, q2⟩, e1, ds, h1, hdl, hdr, o1, o2, h2⟩ := draws_ok fn__law_draws 98 ns hl 120 (by decide)
    simp only at h1 h2
    subst h1; subst h2
    have e1 : run P 99 "_law_draws" [.d (klD (ns.map .int)), .d (.int 120)] = some (.new (.lst (ds.map .int)), [o1, o2]) := e1
    have hd : Dr ds := ⟨by omega, by omega, hdr⟩
    obtain ⟨c0, _, _, a0⟩ := draw_ex hd 0 (by omega)
    obtain ⟨c1, _, _, a1⟩ := draw_ex hd 1 (by omega)
    obtain ⟨c2, _, _, a2⟩ := draw_ex hd 2 (by omega)
    obtain ⟨c3, _, _, a3⟩ := draw_ex hd 93 (by omega)
    have a0 : at? (ds.map PyData.int) 0 = some (.int c0) := a0
    have a1 : at? (ds.map PyData.int) 1 = some (.int c1) := a1
    have a2 : at? (ds.map PyData.int) 2 = some (.int c2) := a2
    have a3 : at? (ds.map PyData.int) 93 = some (.int c3) := a3
    obtain ⟨m, hm, e2⟩ := law_menu_ok 98 c3
    have go : ∀ a j : Nat, 0 < a → a ≤ 5 → 0 < j → j ≤ 5 → ∃ h : Ho, LawH h ∧ HGen h h.acc.length h.jobs.length ∧ h.acc.length = a ∧ h.jobs.length = j ∧ run P 99 "_law_linear_house" [.d (encD ds), .d (.int 3), .d (nI a), .d (nI j), .d (.int 6), .d (.list (m.map .int))] = some (.d (encH h), [some (.d (encD ds)), some (.d (.int 3)), some (.d (nI a)), some (.d (nI j)), some (.d (.int 6)), some (.d (.list (m.map .int)))]) := by
      intro a j ha ha5 hj hj5
      obtain ⟨h, hg, e⟩ := law_linear_house_ok 95 ds hd a j ha ha5 hj5 6 (by decide) m hm
      have hal : h.acc.length = a := by
        have := congrArg List.length hg.nm
        simpa [names, aN, ha5] using this
      refine ⟨h, hg.law ha5, ?_, hal, hg.jl, e⟩
      rw [hal, hg.jl]; exact hg
    by_cases h5 : c2 % 8 = 5
    · obtain ⟨k, hk, hk2⟩ := mod_nat (c := c0) (m := 2) (by decide)
      have hk : c0 % 2 = (k : Int) := hk
      obtain ⟨a, ca, ha0⟩ : ∃ a : Nat, 4 + (k : Int) = (a : Int) ∧ a = 4 + k := ⟨4 + k, by omega, rfl⟩
      obtain ⟨h, hh, hg, ha, hj, e3⟩ := go a 5 (by omega) (by omega) (by omega) (by omega)
      rw [show nI 5 = .int 5 from rfl] at e3
      have e2 : run P 99 "_law_menu" [.d (.int c3)] = _ := e2
      simp -implicitDefEqProofs (disch := trivial) [b_law, e1, a0, a1, a2, a3, bin_mod, h5, hk, e2, e3, ca]
      exact ⟨ds, h, ⟨hd, hdl, hh, hg, by omega, by omega, by omega, by omega⟩, by simp [ha, hj]⟩
    · obtain ⟨k, hk, hk2⟩ := mod_nat (c := c0) (m := 3) (by decide)
      obtain ⟨l, hl1, hl2⟩ := mod_nat (c := c1) (m := 4) (by decide)
      have hk : c0 % 3 = (k : Int) := hk
      have hl1 : c1 % 4 = (l : Int) := hl1
      obtain ⟨a, ca, ha0⟩ : ∃ a : Nat, 1 + (k : Int) = (a : Int) ∧ a = 1 + k := ⟨1 + k, by omega, rfl⟩
      obtain ⟨b, cb, hb0⟩ : ∃ b : Nat, 1 + (l : Int) = (b : Int) ∧ b = 1 + l := ⟨1 + l, by omega, rfl⟩
      obtain ⟨h, hh, hg, ha, hj, e3⟩ := go a b (by omega) (by omega) (by omega) (by omega)
      have e2 : run P 99 "_law_menu" [.d (.int c3)] = _ := e2
      simp -implicitDefEqProofs (disch := trivial) [b_law, e1, a0, a1, a2, a3, bin_mod, h5, hk, hl1, e2, e3, ca, cb]
      exact ⟨ds, h, ⟨hd, hdl, hh, hg, by omega, by omega, by omega, by omega⟩, by simp [ha, hj]⟩
  · rintro e ⟨ds, ho, ⟨h1, h2, h3, h4, h5, h6, h7, h8⟩, rfl⟩
    exact h ds ho h1 h2 h3 h4 h5 h6 h7 h8
@[simp] theorem puS_mo (i : Nat) (v : SV) (e : En) (o : Option OD) : puS i v e (some (o.map (SV.own false))) = some (e.set i (some v)) := by cases o <;> rfl
def eK (ns ds : List Int) (h : Ho) (s3 : SV) (os : List (List Nat)) (j5 j8 j9 j10 j11 : Option D) (o12 : Option OD) (j13 j14 : Option D) : En := [some (.d (klD (ns.map .int))), some (.d (encD ds)), some (.d (encH h)), some s3, some (.own false (.lst (os.map encO))), jk j5, some (.d (.int h.acc.length)), some (.d (.int h.jobs.length)), jk j8, jk j9, jk j10, jk j11, o12.map (.own false), jk j13, jk j14]
theorem turn_law (ns ds : List Int) (hd : Dr ds) (hdl : ds.length = 120) (h : Ho) (hh : LawH h) (hg : HGen h h.acc.length h.jobs.length) (ha : 0 < h.acc.length) (ha5 : h.acc.length ≤ 5) (h0 : 0 < h.jobs.length) (h5 : h.jobs.length ≤ 5) (o : List Nat) (hol : o.length ≤ 5) (hoj : ∀ x ∈ o, x < h.jobs.length) (os : List (List Nat)) (hos : os.length = 3) (hoq : ∀ q ∈ os, q.length ≤ 5 ∧ ∀ x ∈ q, x < h.jobs.length) :
    wp (execs ⟨run P 99, P.io, P.glb⟩ (dropS 6 b_law) (eK ns ds h (.d (encO o)) os none none none none none none none none)) fun fl => ∃ e, fl = .ret (.d (.bool true)) e := by
  have r3 : rngF [.int 3] = some ((List.range 3).map nI) := rng1 (n := 3) (by decide)
  have hlo : ∀ {q : List Nat}, q.length ≤ 5 → (∀ x ∈ q, x < h.jobs.length) → ∀ t ∈ orderForm h q, Bc 1000000000000000000 t := fun h1 h2 => hg.orders ha5 h2 h1
  have lo1 : ∀ j < h.jobs.length, ∀ t ∈ jobForm h j, Lo t := fun j hj t ht f hf => by
    have := (hg.bc hj t ht).2 f hf
    omega
  have sb : ∀ b, run P 99 "_law_same" [.d (.bool b), .d (.bool b)] = _ := fun b => law_same_bool 98 b
  simp -implicitDefEqProofs (disch := trivial) [b_law, eK, r3]
  refine wp_forI (fun i e => ∃ (s3 : SV) (j5 j8 j9 j10 j11 : Option D) (o12 : Option OD) (j13 j14 : Option D), s3 = .d (encO o) ∧ e = eK ns ds h s3 os j5 j8 j9 j10 j11 o12 j13 j14) ⟨_, none, none, none, none, none, none, none, none, rfl, rfl⟩ (fun J hJ => ?_) ?_
  · rintro i x e hx ⟨s3, j5, j8, j9, j10, j11, o12, j13, j14, hs3, rfl⟩
    obtain ⟨hi, rfl⟩ := get_map hx
    have hi : i < 3 := by simpa using hi
    rw [List.getElem_range]
    have a1 := getD_map (f := encO) (xs := os) (i := i) (by omega)
    have hq := hoq _ (List.getElem_mem (l := os) (n := i) (by omega))
    obtain ⟨q, hqe⟩ : ∃ q, os[i]'(by omega) = q := ⟨_, rfl⟩
    rw [hqe] at a1 hq
    obtain ⟨hql, hqj⟩ := hq
    have f1 := oForm_ok h o
    have f2 := oForm_ok h q
    have b1 := hlo hol hoj
    have b2 := hlo hql hqj
    have l1 : ∀ t ∈ orderForm h o, Lo t := fun t ht f hf => by have := (b1 t ht).2 f hf; omega
    have l2 : ∀ t ∈ orderForm h q, Lo t := fun t ht f hf => by have := (b2 t ht).2 f hf; omega
    have e1 : run P 99 "_law_order_form" [.d (encH h), .d (encO o)] = _ := law_order_form_ok 96 h hh o hoj
    have e2 : run P 99 "_law_order_form" [.d (encH h), .d (encO q)] = _ := law_order_form_ok 96 h hh q hqj
    have e3 : run P 99 "_law_alike_due" _ = _ := law_alike_due_ok 98 h.acc.length _ _ f1 f2 hh.lin.w
    have e4 : run P 99 "orders_alike" [.d (encH h), .d (encO o), .d (encO q)] = _ := orders_alike_ok 93 h hh.lin lo1 o q hoj hqj
    obtain ⟨⟨c1, c2⟩, hal⟩ := alike_cases h.acc.length (orderForm h o) (orderForm h q) f1 ha5 b1
    have fz := fz_alike h.acc.length (orderForm h o) (orderForm h q)
    have e5 : run P 99 "_law_same" [.d (alikeD h.acc.length (orderForm h o) (orderForm h q)), .d (alikeD h.acc.length (orderForm h o) (orderForm h q))] = _ := law_same_refl 98 _ c1 c2
    have e6 : ∀ x, G 3 x → run P 99 "shows_unlike" [.d (encH h), .d (encO o), .d (encO q), .d x] = _ := fun x hx => shows_unlike_ok 93 h hh.lin lo1 o q hoj hqj l1 l2 x hx
    have e7 : ∀ x, G 3 x → run P 99 "_law_is_unlike" [.d (.tuple [.list ((orderForm h o).map encS), .list ((orderForm h q).map encS)]), .d x] = _ := fun x hx => law_is_unlike_ok 96 h.acc.length _ _ f1 f2 hh.lin.w l1 l2 x hx
    obtain ⟨xs, hxs, hxl, e8⟩ := law_papers_ok 96 ds hd hdl h.acc.length ha ha5 (alikeD h.acc.length (orderForm h o) (orderForm h q)) (by
      rcases hal with ⟨h1, _⟩ | ⟨ns, a, h1, _, h2, h3⟩
      · exact .inl ⟨_, h1⟩
      · exact .inr ⟨ns, a, h1, h2, h3⟩)
    have e8 : run P 99 "_law_papers" [.d (encD ds), .d (nI h.acc.length), .d (alikeD h.acc.length (orderForm h o) (orderForm h q))] = _ := e8
    obtain ⟨k, hk, a2⟩ : ∃ k : Int, k ≠ 0 ∧ at? [PyData.int 1, .int 5, .int 5] (i : Int) = some (.int k) := by
      have : i = 0 ∨ i = 1 ∨ i = 2 := by omega
      rcases this with rfl | rfl | rfl
      · exact ⟨1, by decide, rfl⟩
      · exact ⟨5, by decide, rfl⟩
      · exact ⟨5, by decide, rfl⟩
    have eq1 : cmpF .NotEq (.tuple [encO o, encO q]) (.tuple [encO o, encO q]) = some false := by
      have hs : shp (.tuple [encO o, encO q]) = true := by
        have : G 2 (.tuple [encO o, encO q]) := (G_tup _ _).mpr ⟨by simp, All.mem ⟨G_encO (by omega), G_encO (by omega), True.intro⟩⟩
        exact this.shp (by decide)
      rw [cmp_ne hs hs, SeqAt.eqv_refl_plain _ (shp_plain hs).1]; rfl
    have hal2 : ∀ x ∈ pickL xs k, Q2 x := fun x hx => hxs x (pickL_mem hx)
    generalize orderForm h o = f at *
    generalize orderForm h q = g at *
    generalize alikeD h.acc.length f g = due at *
    generalize alikeO h.acc.length f g = told at *
    have hfl := f1.l
    have ix1 : L2.ixN 2 1 = some 1 := rfl
    have ix2 : L2.ixN 3 1 = some 1 := rfl
    have e9 : ∀ x, G 3 x → run P 99 "_law_same" [.d (.bool (unlB h.acc.length f g x)), .d (.bool (unlB h.acc.length f g x))] = _ := fun x _ => sb _
    subst hs3
    all_goals
      simp -implicitDefEqProofs (disch := trivial) [eK, a1, e1, e2, e3, e4, fz, e5, eq1, if_le_lim]
    all_goals
      rcases hal with ⟨hdue, rfl⟩ | ⟨ns2, m2, hdue, rfl, hn2, _⟩
    all_goals
      try have hn2l := hn2.l
      simp -implicitDefEqProofs (disch := trivial) [ix1, ix2, appL, e4, fz, e5, e8, a2, hk, if_le_lim]
    all_goals
      refine wp_forI (fun l e => ∃ (o12 : OD) (j13 j14 : Option D), e = eK ns ds h (.d (encO o)) os (some (nI i)) (some (encO q)) (some (.tuple [.list (f.map encS), .list (g.map encS)])) (some due) (some (.tuple [encO o, encO q])) (some o12) j13 j14) ⟨_, j13, j14, rfl⟩ (fun J2 hJ2 => ?_) ?_
      · rintro l x e hx ⟨o12, j13, j14, rfl⟩
        have hx2 := hal2 x (List.mem_of_getElem? hx)
        have c6 := e6 x hx2.1
        have c7 := e7 x hx2.1
        have c8 := blt_repr (showOk_of hx2.1 (by decide) hx2.2 (by decide))
        simp -implicitDefEqProofs (disch := trivial) [eK, c6, c7, c8, sb]
        exact hJ2 _ _ ⟨o12, some x, some (.str x.shown), rfl⟩
      · rintro e ⟨o12, j13, j14, rfl⟩
        simp -implicitDefEqProofs (disch := trivial)
        exact hJ _ _ ⟨_, some (nI i), some (encO q), _, some due, _, some o12, j13, j14, rfl, rfl⟩
  · rintro e ⟨s3, j5, j8, j9, j10, j11, o12, j13, j14, hs3, rfl⟩
    simp -implicitDefEqProofs (disch := trivial) [eK]
theorem mid_law (ns ds : List Int) (hd : Dr ds) (hdl : ds.length = 120) (h : Ho) (hh : LawH h) (hg : HGen h h.acc.length h.jobs.length) (ha : 0 < h.acc.length) (ha5 : h.acc.length ≤ 5) (h0 : 0 < h.jobs.length) (h5 : h.jobs.length ≤ 5) :
    wp (execs ⟨run P 99, P.io, P.glb⟩ (dropS 4 b_law) [some (.d (klD (ns.map .int))), some (.d (encD ds)), some (.d (encH h)), none, none, none, some (.d (.int h.acc.length)), some (.d (.int h.jobs.length)), none, none, none, none, none, none, none]) fun fl => ∃ e, fl = .ret (.d (.bool true)) e := by
  obtain ⟨o, hon, hoj, e2⟩ := law_some_order_ok 97 ds hd h.jobs.length h0 h5
  have hol : o.length ≤ 5 := Nat.le_trans (nodup_len _ hon hoj) h5
  obtain ⟨p, hpl, hpj, e3⟩ := law_other_order_ok 96 ds hd hdl h.jobs.length h0 h5 o hon hoj
  have e2 : run P 99 "_law_some_order" [.d (encD ds), .d (.int 70), .d (nI h.jobs.length)] = _ := e2
  have e3 : run P 99 "_law_other_order" [.d (encD ds), .d (encO o), .d (nI h.jobs.length)] = _ := e3
  have ct : cut (o.map nI) (some 1) none = (o.drop 1).map nI := by
    have := cut_from (o.map nI) 1
    rw [← List.map_drop] at this
    exact this
  refine wp_cut 2 (fun e => e = eK ns ds h (.d (encO o)) [p, o, o.drop 1] none none none none none none none none) ?_ ?_
  · simp -implicitDefEqProofs (disch := trivial) [b_law, e2, e3, ct, if_le_lim, eK]
  rintro _ rfl
  refine turn_law ns ds hd hdl h hh hg ha ha5 h0 h5 o hol hoj _ rfl fun q hq => ?_
  have := All.mem (p := fun q : List Nat => q.length ≤ 5 ∧ ∀ x ∈ q, x < h.jobs.length) (xs := [p, o, o.drop 1]) ⟨⟨hpl, hpj⟩, ⟨hol, hoj⟩, ⟨by rw [List.length_drop]; omega, fun x hx => hoj x (List.mem_of_mem_drop hx)⟩, True.intro⟩
  exact this q hq
theorem pure (ns : List Int) (hl : ns.length ≤ 63) : ∃ outs, run P 100 "law" [.d (klD (ns.map .int))] = some (.d (.bool true), outs) := by
  have main : wp (run P 100 "law" [.d (klD (ns.map .int))]) fun q => q.1 = .d (.bool true) := by
    rw [run_at fn_law rfl, wp_bind]
    refine wp_mono (start_law ns hl (Q := fun fl => ∃ e, fl = .ret (.d (.bool true)) e) fun ds h hd hdl hh hg ha ha5 h0 h5 => mid_law ns ds hd hdl h hh hg ha ha5 h0 h5) ?_
    rintro _ ⟨e, rfl⟩
    simp
  obtain ⟨⟨r, e⟩, h1, h2⟩ := main
  simp only at h2
  subst h2
  exact ⟨e, h1⟩
end PL.K

namespace PL.K
open PySem PySem.Spec
open PyProof.Rows L2 PL
abbrev R : PySem.W.OpenRow := PySem.W.OpenLaw.row PySem.Challenge.rw_ledgerhouse_k34_orders_alike_and_their_j
abbrev hk : PySem.W.Hook := He.hookX 4 (PL.fasD P) (PL.fnsD sts) [] [] (PL.glbB P)
def loose : List Str := ((P.fns.map fun f => f.name).filter fun x => !(decide (x = ("law" : Str)))) ++ P.glbs.map fun q => q.1
def ob (s : PySem.W.SharedT) : He.AlX := He.obsX 4 (PL.fasD P) (PL.fnsD sts) [] [] (PL.glbB P) (HandSHeadRun.getT s)
theorem ob_eq (s : PySem.W.SharedT) : ob s = hk.obs s.abs := He.obsX_eq (HandSHeadRun.getT_eq s)
theorem run_head (w : World) : HandSHeadRun.RunEq R (PySem.W.view R.prog [55]) hk ob 20000 loose w := by
  intro os
  kernel_rfl
end PL.K

open PySem PySem.W PySem.Calls PyProof.Rows
theorem PySem.Challenge.cw_ledgerhouse_k34_orders_alike_and_their_j_holds : PySem.Challenge.rw_ledgerhouse_k34_orders_alike_and_their_j.Holds := by
  w_on; o_law
  refine HandSHeadRun.head_any (r := OpenLaw.row PySem.Challenge.rw_ledgerhouse_k34_orders_alike_and_their_j) (q := view (OpenLaw.row PySem.Challenge.rw_ledgerhouse_k34_orders_alike_and_their_j).prog [55]) (H := PL.K.hk) (ob := PL.K.ob) (M := 20000) (loose := PL.K.loose) (d := HandSHeadRun.topDef (OpenLaw.row PySem.Challenge.rw_ledgerhouse_k34_orders_alike_and_their_j).prog 55) (kwd := []) PL.K.ob_eq
    (by kernel_rfl) (fun s => by kernel_rfl) PL.K.run_head (by kernel_rfl) (by kernel_rfl) (by kernel_rfl) (by rfl) (by first | assumption | decide +kernel) (by decide +kernel) ⟨rfl, rfl, rfl, rfl, rfl, by decide +kernel⟩ ?hw ?hc
  case hw => w_witness2
  case hc => exact PL.law_end (l := PySem.Challenge.rw_ledgerhouse_k34_orders_alike_and_their_j) (P := PL.K.P) (sts := PL.K.sts) (k := 100) (x := "script") rfl (by kernel_rfl) ⟨rfl, by decide, by decide⟩ PL.K.chk PL.K.fn_law (by kernel_rfl) rfl rfl PL.K.pure

