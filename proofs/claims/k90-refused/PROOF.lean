import PyProof.Rows.All
import Wide.All
import OpenK.AllK
import Wide.FinOn
import HandS.ForExc
import HandS.Comp
import HandS.Iter
import HandS.Zip
import HandS.Flow
import HandS.Wide
import HandS.IsInst
import HandS.TupAny
import HandS.TupMul
import HandS.TryMany
import HandS.ExcOwn
import HandS.WordsExc
import HandS.Conv
import HandS.Style
import HandS.Walk
import HandS.ExcIs
import HandS.Defaults
import HandS.Strs
import HandS.SetFor
import HandS.Set
import HandS.Text
import HandS.HeadHook2
import HandS.HeadEnd
import HandS.HeadHook4
import HandS.Head2
import HandS.Head0
import HandS.Head1
import PySem.Challenge.RW_looksfororder_k90_whole_refused_of_nets
set_option Elab.async false
set_option linter.all false
set_option maxRecDepth 100000
/-! Vi, part A: plain values, the interpreter's syntax, the interpreter. -/
namespace Vi
open PySem L2
inductive D where
  | non | bl (b : Bool) | int (i : Int) | str (x : Str) | tup (xs : List D) | lst (xs : List D) | fn (f : Nat) | ro (xs : List D)
  deriving Inhabited
mutual
def D.eqv : D → D → Bool
  | .non, .non => true
  | .bl a, .bl b => a == b
  | .bl a, .int j => (if a then 1 else 0) == j
  | .int i, .bl b => i == (if b then 1 else 0)
  | .int i, .int j => i == j
  | .str x, .str y => x == y
  | .lst xs, .lst ys => D.eqvs xs ys
  | .tup xs, .tup ys => D.eqvs xs ys
  | _, _ => false
def D.eqvs : List D → List D → Bool
  | [], [] => true
  | x :: xs, y :: ys => D.eqv x y && D.eqvs xs ys
  | _, _ => false
end
/-- plain data (no function in it), not too deep -/
def D.ok : Nat → D → Bool
  | _, .non => true
  | _, .bl _ => true
  | _, .int _ => true
  | _, .str _ => true
  | _, .fn _ => false
  | _, .ro _ => false
  | 0, .tup _ => false
  | 0, .lst _ => false
  | n + 1, .tup xs => xs.all (D.ok n)
  | n + 1, .lst xs => xs.all (D.ok n)
abbrev deep : Nat := 40
/-- the most items of a list, a tuple -/
abbrev lim : Nat := 1000000
inductive Op where
  | add | sub | mul | fdiv | mod | pow | eq | ne | lt | le | gt | ge | isin | notin | ix
inductive Pr where
  | len | abs | int | str | list | tuple | listR | tupleR | sorted | sum | any | all | min | max | lenSet | sortedSet
  deriving DecidableEq
inductive Ty where
  | int | bool | str | list | tuple | listTuple | boolStr
inductive Me where
  | index | join | split
inductive Mu where
  | append | extend | pop
mutual
inductive E where
  | var (i : Nat)
  | lit (d : D)
  | glb (x : Str) (d : D)
  | fnv (f : Nat)
  | op (o : Op) (a b : E)
  | neg (a : E)
  | not (a : E)
  | and (a b : E)
  | or (a b : E)
  | ite (c a b : E)
  | isN (a : E) (no : Bool)
  | chain (o1 o2 : Op) (a b c : E)
  | chain3 (o1 o2 o3 : Op) (a b c d : E)
  | prim (p : Pr) (as : Es)
  | isi (a : E) (t : Ty)
  | sli (a : E) (lo hi : Eo)
  | sls (a : E) (lo : Option Nat) (st : Int)
  | tup (as : Es)
  | lst (as : Es)
  | lc (own tg : List Nat) (tp : Bool) (it : It) (c : Eo) (elt : E)
  | lc2 (own tg1 : List Nat) (tp1 : Bool) (it1 : It) (own2 tg2 : List Nat) (tp2 : Bool) (it2 : It) (elt : E)
  | call (f : Nat) (as : Es)
  | callv (i : Nat) (as : Es)
  | meth (m : Me) (o : E) (as : Es)
  | mut (m : Mu) (i : Nat) (as : Es)
  | never
inductive Es where
  | nil
  | cons (e : E) (r : Es)
inductive Eo where
  | no
  | so (e : E)
inductive It where
  | ov (e : E)
  | rng (as : Es)
  | zip (a b : E)
  | enm (e : E)
end
inductive Tg where
  | nm (i : Nat)
  | sub (i : Nat) (e : E)
mutual
inductive S where
  | skip
  | ex (e : E)
  | asg (t : Tg) (e : E)
  | unp (ts : List Tg) (e : E)
  | par (is : List Nat) (es : Es)
  | ret (e : E)
  | retN
  | ite (c : E) (a b : Ss)
  | for_ (tg : List Nat) (tp : Bool) (it : It) (b : Ss)
  | whl (n : Nat) (c : E) (b : Ss)
  | raise (c : Nat) (as : Es)
  | tri (b : Ss) (hs : List Hd)
  | aug (i : Nat) (o : Op) (e : E)
  | brk
  | cont
  | never
inductive Ss where
  | nil
  | cons (s : S) (r : Ss)
inductive Hd where
  | mk (c : Nat) (n : Nat) (t : Nat) (word : Str) (line : Bool) (base : Str)
end
/-- an exception: its class by number, its line -/
structure Xc where
  c : Nat
  ln : Option Int
/-- a slot: a value that is shared, or a list of its own -/
inductive Sl where
  | sh (d : D)
  | ow (xs : List D)
abbrev Env := List (Option Sl)
/-- what an expression gives: a shared value, a new list, the list of a slot -/
inductive R where
  | v (d : D)
  | nw (xs : List D)
  | sl (i : Nat)
inductive Out (α : Type) where
  | ok (a : α) (ρ : Env)
  | ex (x : Xc) (ρ : Env)
abbrev Ev (α : Type) := Option (Out α)
def bnd {α β : Type} (o : Ev α) (k : α → Env → Ev β) : Ev β := match o with
  | none => none
  | some (.ex x ρ) => some (.ex x ρ)
  | some (.ok a ρ) => k a ρ
/-- read, leaving the slots as they are -/
def pk (ρ : Env) : R → Option D
  | .v d => some d
  | .nw xs => some (.lst xs)
  | .sl i => match ρ[i]? with
    | some (some (.sh d)) => some d
    | some (some (.ow xs)) => some (.lst xs)
    | _ => none
/-- read as a value that stays: a list of its own becomes a shared one -/
def esc (ρ : Env) : R → Option (D × Env)
  | .v d => some (d, ρ)
  | .nw xs => some (.lst xs, ρ)
  | .sl i => match ρ[i]? with
    | some (some (.sh d)) => some (d, ρ)
    | some (some (.ow xs)) => some (.lst xs, ρ.set i (some (.sh (.lst xs))))
    | _ => none
def escs : Env → List R → Option (List D × Env)
  | ρ, [] => some ([], ρ)
  | ρ, r :: rs => match esc ρ r with
    | none => none
    | some (d, ρ1) => match escs ρ1 rs with
      | none => none
      | some (ds, ρ2) => some (d :: ds, ρ2)
def truth : D → Option Bool
  | .non => some false
  | .bl b => some b
  | .int i => some (i != 0)
  | .lst xs => some (!xs.isEmpty)
  | .tup xs => some (!xs.isEmpty)
  | _ => none
def dInts : List D → Option (List Int)
  | [] => some []
  | .int i :: r => (dInts r).map (i :: ·)
  | _ :: _ => none
def dBools : List D → Option (List Bool)
  | [] => some []
  | .bl i :: r => (dBools r).map (i :: ·)
  | _ :: _ => none
def dStrs : List D → Option (List Str)
  | [] => some []
  | .str i :: r => (dStrs r).map (i :: ·)
  | _ :: _ => none
def fit (xs : List D) : Bool := Nat.ble xs.length lim
def mkT (xs : List D) : Option R := if fit xs then some (.v (.tup xs)) else none
def mkL (xs : List D) : Option R := if fit xs then some (.nw xs) else none
def small (i : Int) : Bool := decide (-(2 ^ 62) ≤ i) && decide (i < 2 ^ 62)
/-- the factors are not too great -/
def mulOk (i j : Int) : Bool := (decide (-(2 ^ 64) < i) && decide (i < 2 ^ 64)) || (decide (-(2 ^ 64) < j) && decide (j < 2 ^ 64))
def evB (o : Op) (i j : Int) : Option Bool := match o with
  | .lt => some (decide (i < j))
  | .le => some (decide (i ≤ j))
  | .gt => some (decide (j < i))
  | .ge => some (decide (j ≤ i))
  | _ => none
def isIn (d : D) (xs : List D) : Bool := xs.any fun z => D.eqv z d
def evOp (o : Op) (a b : D) : Option R := match o, a, b with
  | .add, .int i, .int j => some (.v (.int (i + j)))
  | .sub, .int i, .int j => some (.v (.int (i - j)))
  | .mul, .int i, .int j => if mulOk i j then some (.v (.int (i * j))) else none
  | .fdiv, .int i, .int j => if decide (0 < j) && decide (j < 1073741824) then some (.v (.int (i / j))) else none
  | .mod, .int i, .int j => if decide (0 < j) then some (.v (.int (i % j))) else none
  | .pow, .int i, .int j => if decide (0 ≤ j) && decide (j ≤ 1000) && decide (i.natAbs < 2 ^ 64) then some (.v (.int (i ^ j.toNat))) else none
  | .add, .tup xs, .tup ys => mkT (xs ++ ys)
  | .add, .lst xs, .lst ys => mkL (xs ++ ys)
  | .mul, .tup xs, .int k => if small k && Nat.ble (xs.length * k.toNat) lim then some (.v (.tup (List.replicate k.toNat xs).flatten)) else none
  | .mul, .lst xs, .int k => if small k && Nat.ble (xs.length * k.toNat) lim then some (.nw (List.replicate k.toNat xs).flatten) else none
  | .eq, a, b => if D.ok deep a && D.ok deep b then some (.v (.bl (D.eqv a b))) else none
  | .ne, a, b => if D.ok deep a && D.ok deep b then some (.v (.bl (!D.eqv a b))) else none
  | .lt, .int i, .int j => some (.v (.bl (decide (i < j))))
  | .le, .int i, .int j => some (.v (.bl (decide (i ≤ j))))
  | .gt, .int i, .int j => some (.v (.bl (decide (j < i))))
  | .ge, .int i, .int j => some (.v (.bl (decide (j ≤ i))))
  | .lt, .tup xs, .tup ys => match dInts xs, dInts ys with
    | some is, some js => some (.v (.bl (HT.lexLt is js)))
    | _, _ => none
  | .isin, d, .lst xs => if D.ok deep d && D.ok deep (.lst xs) then some (.v (.bl (isIn d xs))) else none
  | .notin, d, .lst xs => if D.ok deep d && D.ok deep (.lst xs) then some (.v (.bl (!isIn d xs))) else none
  | .isin, d, .tup xs => if D.ok deep d && D.ok deep (.tup xs) then some (.v (.bl (isIn d xs))) else none
  | .notin, d, .tup xs => if D.ok deep d && D.ok deep (.tup xs) then some (.v (.bl (!isIn d xs))) else none
  | .ix, .lst xs, .int i => (atI xs i).map .v
  | .ix, .tup xs, .int i => (atI xs i).map .v
  | _, _, _ => none
/-- the ints i, i + c, .. -/
def rgC (i c : Int) (n : Nat) : List D := (List.range n).map fun (k : Nat) => .int (i + (k : Int) * c)
def rgU (a b : Int) : List D := rgC a 1 (b - a).toNat
def rgN (a b : Int) : List D := rgC a (-1) (a - b).toNat
def rangeD : List D → Option (List D)
  | [.int b] => if small b then some (rgU 0 b) else none
  | [.int a, .int b] => if small a && small b then some (rgU a b) else none
  | [.int a, .int b, .int c] => if small a && small b && (decide (c = -1)) then some (rgN a b) else none
  | _ => none
def rangeOk (as : List D) : Option (List D) := match rangeD as with
  | some xs => if fit xs then some xs else none
  | none => none
/-- into a rising list, no number twice -/
def insU (k : Int) : List Int → List Int
  | [] => [k]
  | x :: r => if k < x then k :: x :: r else if x < k then x :: insU k r else x :: r
def sortU : List Int → List Int
  | [] => []
  | k :: r => insU k (sortU r)
def evPr (p : Pr) (as : List D) : Option R := match p, as with
  | .len, [.lst xs] => some (.v (.int xs.length))
  | .len, [.tup xs] => some (.v (.int xs.length))
  | .abs, [.int i] => some (.v (.int (if i < 0 then -i else i)))
  | .int, [.int i] => some (.v (.int i))
  | .int, [.bl b] => some (.v (.int (if b then 1 else 0)))
  | .list, [.lst xs] => mkL xs
  | .list, [.tup xs] => mkL xs
  | .tuple, [.lst xs] => mkT xs
  | .tuple, [.tup xs] => mkT xs
  | .listR, as => match rangeOk as with
    | some xs => some (.nw xs)
    | none => none
  | .tupleR, as => match rangeOk as with
    | some xs => some (.v (.tup xs))
    | none => none
  | .any, [.lst xs] => (dBools xs).map fun bs => .v (.bl (bs.any id))
  | .all, [.lst xs] => (dBools xs).map fun bs => .v (.bl (bs.all id))
  | .min, [.int i, .int j] => some (.v (.int (if j < i then j else i)))
  | .max, [.int i, .int j] => some (.v (.int (if j > i then j else i)))
  | .sortedSet, [.tup xs] => match dInts xs with
    | some is => if Nat.blt is.length 64 then some (.nw ((sortU is).map .int)) else none
    | none => none
  | .lenSet, [.tup xs] => match dInts xs with
    | some is => if Nat.blt is.length 64 then some (.v (.int (sortU is).length)) else none
    | none => none
  | .sum, [.lst xs] => (dInts xs).map fun is => .v (.int is.sum)
  | _, _ => none
def evTy (t : Ty) (d : D) : Option Bool := match t, d with
  | _, .fn _ => none
  | _, .ro _ => none
  | .int, .int _ => some true
  | .int, .bl _ => some true
  | .int, _ => some false
  | .bool, .bl _ => some true
  | .bool, _ => some false
  | .str, .str _ => some true
  | .str, _ => some false
  | .list, .lst _ => some true
  | .list, _ => some false
  | .tuple, .tup _ => some true
  | .tuple, _ => some false
  | .listTuple, .lst _ => some true
  | .listTuple, .tup _ => some true
  | .listTuple, _ => some false
  | .boolStr, .bl _ => some true
  | .boolStr, .str _ => some true
  | .boolStr, _ => some false
/-- a slice's bound -/
def cutD (xs : List D) (lo hi : Option Int) : List D := (xs.drop (HT.sIx xs.length 0 lo)).take (HT.sIx xs.length xs.length hi - HT.sIx xs.length 0 lo)
def evSli (d : D) (lo hi : Option Int) : Option R := match d with
  | .lst xs => some (.nw (cutD xs lo hi))
  | .tup xs => some (.v (.tup (cutD xs lo hi)))
  | .ro xs => some (.nw (cutD xs lo hi))
  | _ => none
def pickL {α : Type} (xs : List α) (lo : Option Int) (st : Int) : List α :=
  (sliceRange (sliceBounds lo none (some st) xs.length).1 (sliceBounds lo none (some st) xs.length).2.1 (sliceBounds lo none (some st) xs.length).2.2).filterMap (xs[·]?)
def evSls (d : D) (lo : Option Nat) (st : Int) : Option R := match d with
  | .lst xs => if st = 0 then none else some (.nw (pickL xs (lo.map Int.ofNat) st))
  | .tup xs => if st = -1 then (match lo with
    | none => some (.v (.tup xs.reverse))
    | some _ => none) else none
  | _ => none
def findD (d : D) : List D → Nat → Option Nat
  | [], _ => none
  | x :: r, k => if D.eqv x d then some k else findD d r (k + 1)
def evMe (m : Me) (o : D) (as : List D) : Option R := match m, o, as with
  | .index, .lst xs, [d] => if D.ok deep d && D.ok deep (.lst xs) then (findD d xs 0).map fun k => .v (.int k) else none
  | .index, .tup xs, [d] => if D.ok deep d && D.ok deep (.tup xs) then (findD d xs 0).map fun k => .v (.int k) else none
  | _, _, _ => none
def evMu (m : Mu) (xs : List D) (as : List D) : Option (R × List D) := match m, as with
  | .append, [d] => if Nat.blt xs.length lim then some (.v .non, xs ++ [d]) else none
  | .extend, [.lst ys] => if Nat.ble (xs.length + ys.length) lim then some (.v .non, xs ++ ys) else none
  | .pop, [] => match xs[xs.length - 1]? with
    | some y => some (.v y, xs.dropLast)
    | none => none
  | .pop, [.int i] => if small i then (match seqIndex? i xs.length with
    | some k => (match xs[k]? with
      | some y => some (.v y, xs.eraseIdx k)
      | none => none)
    | none => none) else none
  | _, _ => none
def setS (ρ : Env) (i : Nat) (d : D) : Env := ρ.set i (some (.sh d))
/-- the target's slots hold the item -/
def setTg (ρ : Env) (tg : List Nat) (tp : Bool) (d : D) : Option Env := match tp, tg, d with
  | false, [i], d => some (setS ρ i d)
  | true, is, .tup ds => if is.length = ds.length then some ((is.zip ds).foldl (fun ρ p => setS ρ p.1 p.2) ρ) else none
  | _, _, _ => none
def wipeE (ρ : Env) : List Nat → Env
  | [] => ρ
  | v :: vs => (wipeE ρ vs).set v none
/-- the slots vs as they are in ρ0 -/
def backE (ρ0 ρ : Env) : List Nat → Env
  | [] => ρ
  | v :: vs => (backE ρ0 ρ vs).set v ((ρ0[v]?).getD none)
def lcLoop (f : Env → D → Option (List D × Env)) : Env → List D → Option (List D × Env)
  | ρ, [] => some ([], ρ)
  | ρ, d :: ds => match f ρ d with
    | none => none
    | some (o, ρ1) => match lcLoop f ρ1 ds with
      | none => none
      | some (r, ρ2) => some (o ++ r, ρ2)
/-- a call's end; out: what the list that was handed in holds then -/
inductive CRes where
  | ok (r : R) (out : Option (List D))
  | ex (x : Xc) (out : Option (List D))
/-- a def: whether it may change the list that its first parameter is; how many parameters, slots; its body -/
structure Def where
  io : Bool
  np : Nat
  n : Nat
  body : Ss
/-- the arguments: the slot whose list is handed in, values -/
def args (io : Bool) (ρ : Env) (rs : List R) : Option (Option (Nat × List D) × List D × Env) := match io with
  | false => match escs ρ rs with
    | some (ds, ρ1) => some (none, ds, ρ1)
    | none => none
  | true => match rs with
    | .sl i :: rs => match escs ρ rs with
      | some (ds, ρ1) => (match ρ1[i]? with
        | some (some (.ow xs)) => some (some (i, xs), ds, ρ1)
        | _ => none)
      | none => none
    | _ => none
structure Ctx where
  defs : Nat → Option Def
  run : Nat → Option (List D) → List D → Option CRes
/-- behind a call -/
def back (i : Option Nat) (ρ : Env) : CRes → Ev R
  | .ok r out => match r with
    | .sl _ => none
    | r => match i, out with
      | none, none => some (.ok r ρ)
      | some i, some ys => some (.ok r (ρ.set i (some (.ow ys))))
      | _, _ => none
  | .ex x out => match i, out with
    | none, none => some (.ex x ρ)
    | some i, some ys => some (.ex x (ρ.set i (some (.ow ys))))
    | _, _ => none
def doCall (C : Ctx) (f : Nat) (rs : List R) (ρ : Env) : Ev R := match C.defs f with
  | none => none
  | some df => match args df.io ρ rs with
    | none => none
    | some (io, ds, ρ1) => match C.run f (io.map (·.2)) ds with
      | none => none
      | some c => back (io.map (·.1)) ρ1 c
def asOk {α : Type} : Ev α → Option (α × Env)
  | some (.ok a ρ) => some (a, ρ)
  | _ => none
def liftR (ρ : Env) (o : Option R) : Ev R := match o with
  | some r => some (.ok r ρ)
  | none => none
def peek (ρ : Env) (r : R) (k : D → Ev R) : Ev R := match pk ρ r with
  | some d => k d
  | none => none
def tru (ρ : Env) (r : R) (k : Bool → Ev R) : Ev R := match pk ρ r with
  | some d => (match truth d with
    | some b => k b
    | none => none)
  | none => none
def pks (ρ : Env) : List R → Option (List D)
  | [] => some []
  | r :: rs => match pk ρ r with
    | some d => (match pks ρ rs with
      | some ds => some (d :: ds)
      | none => none)
    | none => none
def peeks (ρ : Env) (rs : List R) (k : List D → Ev R) : Ev R := match pks ρ rs with
  | some ds => k ds
  | none => none
mutual
def evE (C : Ctx) : E → Env → Ev R
  | .var i, ρ => match ρ[i]? with
    | some (some (.sh d)) => some (.ok (.v d) ρ)
    | some (some (.ow _)) => some (.ok (.sl i) ρ)
    | _ => none
  | .lit d, ρ => some (.ok (.v d) ρ)
  | .glb _ d, ρ => some (.ok (.v d) ρ)
  | .fnv f, ρ => some (.ok (.v (.fn f)) ρ)
  | .op o a b, ρ => bnd (evE C a ρ) fun r1 ρ1 => bnd (evE C b ρ1) fun r2 ρ2 => peek ρ2 r1 fun d1 => peek ρ2 r2 fun d2 => liftR ρ2 (evOp o d1 d2)
  | .neg a, ρ => bnd (evE C a ρ) fun r1 ρ1 => peek ρ1 r1 fun d1 => match d1 with
    | .int i => some (.ok (.v (.int (-i))) ρ1)
    | _ => none
  | .not a, ρ => bnd (evE C a ρ) fun r1 ρ1 => tru ρ1 r1 fun b => some (.ok (.v (.bl (!b))) ρ1)
  | .and a b, ρ => bnd (evE C a ρ) fun r1 ρ1 => tru ρ1 r1 fun t => if t then evE C b ρ1 else some (.ok r1 ρ1)
  | .or a b, ρ => bnd (evE C a ρ) fun r1 ρ1 => tru ρ1 r1 fun t => if t then some (.ok r1 ρ1) else evE C b ρ1
  | .ite c a b, ρ => bnd (evE C c ρ) fun r1 ρ1 => tru ρ1 r1 fun t => if t then evE C a ρ1 else evE C b ρ1
  | .isN a no, ρ => bnd (evE C a ρ) fun r1 ρ1 => peek ρ1 r1 fun d1 => match d1 with
    | .non => some (.ok (.v (.bl (!no))) ρ1)
    | _ => some (.ok (.v (.bl no)) ρ1)
  | .chain o1 o2 a b c, ρ => bnd (evE C a ρ) fun r1 ρ1 => bnd (evE C b ρ1) fun r2 ρ2 => match r1, r2 with
    | .v d1, .v d2 => (match evOp o1 d1 d2 with
      | some (.v (.bl true)) => bnd (evE C c ρ2) fun r3 ρ3 => (match r3 with
        | .v d3 => liftR ρ3 (evOp o2 d2 d3)
        | _ => none)
      | some (.v (.bl false)) => some (.ok (.v (.bl false)) ρ2)
      | _ => none)
    | _, _ => none
  | .chain3 o1 o2 o3 a b c d, ρ => bnd (evE C a ρ) fun r1 ρ1 => bnd (evE C b ρ1) fun r2 ρ2 => match r1, r2 with
    | .v d1, .v d2 => (match evOp o1 d1 d2 with
      | some (.v (.bl true)) => bnd (evE C c ρ2) fun r3 ρ3 => (match r3 with
        | .v d3 => (match evOp o2 d2 d3 with
          | some (.v (.bl true)) => bnd (evE C d ρ3) fun r4 ρ4 => (match r4 with
            | .v d4 => liftR ρ4 (evOp o3 d3 d4)
            | _ => none)
          | some (.v (.bl false)) => some (.ok (.v (.bl false)) ρ3)
          | _ => none)
        | _ => none)
      | some (.v (.bl false)) => some (.ok (.v (.bl false)) ρ2)
      | _ => none)
    | _, _ => none
  | .prim p as, ρ => bnd (evEs C as ρ) fun rs ρ1 => peeks ρ1 rs fun ds => liftR ρ1 (evPr p ds)
  | .isi a t, ρ => bnd (evE C a ρ) fun r1 ρ1 => peek ρ1 r1 fun d1 => match evTy t d1 with
    | some b => some (.ok (.v (.bl b)) ρ1)
    | none => none
  | .sli a lo hi, ρ => bnd (evE C a ρ) fun r1 ρ1 => bnd (evEo C lo ρ1) fun l ρ2 => bnd (evEo C hi ρ2) fun h ρ3 => peek ρ3 r1 fun d => liftR ρ3 (evSli d l h)
  | .sls a lo st, ρ => bnd (evE C a ρ) fun r1 ρ1 => peek ρ1 r1 fun d => liftR ρ1 (evSls d lo st)
  | .tup as, ρ => bnd (evEs C as ρ) fun rs ρ1 => match escs ρ1 rs with
    | some (ds, ρ2) => liftR ρ2 (mkT ds)
    | none => none
  | .lst as, ρ => bnd (evEs C as ρ) fun rs ρ1 => match escs ρ1 rs with
    | some (ds, ρ2) => liftR ρ2 (mkL ds)
    | none => none
  | .lc own tg tp it c elt, ρ => bnd (evI C it ρ) fun items ρ1 =>
    match lcLoop (fun ρa d => match setTg ρa tg tp d with
      | none => none
      | some ρb => match asOk (evC C c ρb) with
        | none => none
        | some (false, ρc) => some ([], wipeE ρc own)
        | some (true, ρc) => match asOk (evE C elt ρc) with
          | none => none
          | some (r, ρd) => match esc ρd r with
            | none => none
            | some (y, ρe) => some ([y], wipeE ρe own)) (wipeE ρ1 own) items with
    | none => none
    | some (ys, ρ2) => if fit ys then some (.ok (.nw ys) (backE ρ1 ρ2 own)) else none
  | .lc2 own tg1 tp1 it1 own2 tg2 tp2 it2 elt, ρ => bnd (evI C it1 ρ) fun items ρ1 =>
    match lcLoop (fun ρa d => match setTg ρa tg1 tp1 d with
      | none => none
      | some ρb => match asOk (evI C it2 ρb) with
        | none => none
        | some (items2, ρc) => match lcLoop (fun ρd d2 => match setTg ρd tg2 tp2 d2 with
            | none => none
            | some ρe => match asOk (evE C elt ρe) with
              | none => none
              | some (r, ρf) => match esc ρf r with
                | none => none
                | some (y, ρg) => some ([y], wipeE ρg own2)) (wipeE ρc own2) items2 with
          | none => none
          | some (ys, ρh) => some (ys, wipeE ρh own)) (wipeE ρ1 own) items with
    | none => none
    | some (ys, ρ2) => if fit ys then some (.ok (.nw ys) (backE ρ1 ρ2 own)) else none
  | .call f as, ρ => bnd (evEs C as ρ) fun rs ρ1 => doCall C f rs ρ1
  | .callv i as, ρ => match ρ[i]? with
    | some (some (.sh (.fn f))) => (match C.defs f with
      | some _ => bnd (evEs C as ρ) fun rs ρ1 => doCall C f rs ρ1
      | none => none)
    | _ => none
  | .meth m o as, ρ => bnd (evE C o ρ) fun r1 ρ1 => bnd (evEs C as ρ1) fun rs ρ2 => peek ρ2 r1 fun d => peeks ρ2 rs fun ds => liftR ρ2 (evMe m d ds)
  | .mut m i as, ρ => match ρ[i]? with
    | some (some (.ow _)) => bnd (evEs C as ρ) fun rs ρ1 => match escs ρ1 rs with
      | none => none
      | some (ds, ρ2) => (match ρ2[i]? with
        | some (some (.ow xs)) => (match evMu m xs ds with
          | some (r, ys) => some (.ok r (ρ2.set i (some (.ow ys))))
          | none => none)
        | _ => none)
    | _ => none
  | .never, _ => none
def evEs (C : Ctx) : Es → Env → Ev (List R)
  | .nil, ρ => some (.ok [] ρ)
  | .cons e r, ρ => bnd (evE C e ρ) fun r1 ρ1 => bnd (evEs C r ρ1) fun rs ρ2 => some (.ok (r1 :: rs) ρ2)
/-- a slice's part -/
def evEo (C : Ctx) : Eo → Env → Ev (Option Int)
  | .no, ρ => some (.ok none ρ)
  | .so e, ρ => bnd (evE C e ρ) fun r ρ1 => match r with
    | .v (.int i) => some (.ok (some i) ρ1)
    | _ => none
/-- a comprehension's test -/
def evC (C : Ctx) : Eo → Env → Ev Bool
  | .no, ρ => some (.ok true ρ)
  | .so e, ρ => bnd (evE C e ρ) fun r ρ1 => match pk ρ1 r with
    | some d => (match truth d with
      | some b => some (.ok b ρ1)
      | none => none)
    | none => none
def evI (C : Ctx) : It → Env → Ev (List D)
  | .ov e, ρ => bnd (evE C e ρ) fun r ρ1 => match esc ρ1 r with
    | some (.lst xs, ρ2) => some (.ok xs ρ2)
    | some (.tup xs, ρ2) => some (.ok xs ρ2)
    | _ => none
  | .rng as, ρ => bnd (evEs C as ρ) fun rs ρ1 => match pks ρ1 rs with
    | some ds => (match rangeD ds with
      | some xs => some (.ok xs ρ1)
      | none => none)
    | none => none
  | .zip a b, ρ => bnd (evE C a ρ) fun r1 ρ1 => bnd (evE C b ρ1) fun r2 ρ2 => match escs ρ2 [r1, r2] with
    | some ([.lst xs, .lst ys], ρ3) => some (.ok (xs.zipWith (fun x y => .tup [x, y]) ys) ρ3)
    | some ([.tup xs, .tup ys], ρ3) => some (.ok (xs.zipWith (fun x y => .tup [x, y]) ys) ρ3)
    | _ => none
  | .enm e, ρ => bnd (evE C e ρ) fun r ρ1 => match esc ρ1 r with
    | some (.lst xs, ρ2) => some (.ok (xs.zipIdx.map fun p => .tup [.int p.2, p.1]) ρ2)
    | _ => none
end
/-- a statement's end -/
inductive Fl where
  | nx (ρ : Env)
  | rt (r : R) (ρ : Env)
  | bk (ρ : Env)
  | ct (ρ : Env)
  | ex (x : Xc) (ρ : Env)
def bndS {α : Type} (o : Ev α) (k : α → Env → Option Fl) : Option Fl := match o with
  | none => none
  | some (.ex x ρ) => some (.ex x ρ)
  | some (.ok a ρ) => k a ρ
/-- as a slot's content: a new list is the slot's own -/
def slOf (ρ : Env) (r : R) : Option (Sl × Env) := match r with
  | .nw xs => some (.ow xs, ρ)
  | r => match esc ρ r with
    | some (d, ρ1) => some (.sh d, ρ1)
    | none => none
def slsOf : Env → List R → Option (List Sl × Env)
  | ρ, [] => some ([], ρ)
  | ρ, r :: rs => match slOf ρ r with
    | none => none
    | some (s, ρ1) => match slsOf ρ1 rs with
      | none => none
      | some (ss, ρ2) => some (s :: ss, ρ2)
def putS (ρ : Env) : List Nat → List Sl → Option Env
  | [], [] => some ρ
  | i :: is, s :: ss => putS (ρ.set i (some s)) is ss
  | _, _ => none
def put (io : List Nat) (ρ : Env) (i : Nat) (r : R) : Option Env := if io.contains i then none else match slOf ρ r with
  | some (s, ρ1) => some (ρ1.set i (some s))
  | none => none
def putAll (io : List Nat) (ρ : Env) (is : List Nat) (rs : List R) : Option Env := if is.any (io.contains ·) then none else match slsOf ρ rs with
  | some (ss, ρ1) => putS ρ1 is ss
  | none => none
/-- slot i's list at k becomes d -/
def putIx (ρ : Env) (i : Nat) (k d : D) : Option Env := match ρ[i]?, k with
  | some (some (.ow xs)), .int j => (match L2.ixN xs.length j with
    | some n => some (ρ.set i (some (.ow (xs.set n d))))
    | none => none)
  | _, _ => none
def stTg (C : Ctx) (io : List Nat) (t : Tg) (d : D) (ρ : Env) : Option Fl := match t with
  | .nm i => if io.contains i then none else some (.nx (setS ρ i d))
  | .sub i e => match ρ[i]? with
    | some (some (.ow _)) => bndS (evE C e ρ) fun r ρ1 => (match pk ρ1 r with
      | some k => (match putIx ρ1 i k d with
        | some ρ2 => some (.nx ρ2)
        | none => none)
      | none => none)
    | _ => none
def stTgs (C : Ctx) (io : List Nat) : List Tg → List D → Env → Option Fl
  | [], [], ρ => some (.nx ρ)
  | t :: ts, d :: ds, ρ => match stTg C io t d ρ with
    | some (.nx ρ1) => stTgs C io ts ds ρ1
    | some fl => some fl
    | none => none
  | _, _, _ => none
def forLoop (f : Env → D → Option Fl) : Env → List D → Option Fl
  | ρ, [] => some (.nx ρ)
  | ρ, d :: ds => match f ρ d with
    | some (.nx ρ1) => forLoop f ρ1 ds
    | some (.ct ρ1) => forLoop f ρ1 ds
    | some (.bk ρ1) => some (.nx ρ1)
    | some fl => some fl
    | none => none
def setTgIo (io : List Nat) (ρ : Env) (tg : List Nat) (tp : Bool) (d : D) : Option Env := if tg.any (io.contains ·) then none else setTg ρ tg tp d
def whileLoop (f : Env → Option Fl) : Nat → Env → Option Fl
  | 0, _ => none
  | n + 1, ρ => match f ρ with
    | some (.nx ρ1) => whileLoop f n ρ1
    | some (.ct ρ1) => whileLoop f n ρ1
    | some (.bk ρ1) => some (.nx ρ1)
    | some fl => some fl
    | none => none
/-- what is known of the classes: whether the first is below the second, below a built-in one -/
structure Cls where
  isA : Nat → Nat → Option Bool
  isB : Nat → Str → Option Bool
/-- the clauses of a try, by the exception -/
def handle (L : Cls) (io : List Nat) : List Hd → Xc → Env → Option Fl
  | [], x, ρ => some (.ex x ρ)
  | .mk c n t w ln b :: hs, x, ρ => match L.isA x.c c with
    | some true => if io.contains t || io.contains n || t == n then none else (match L.isB x.c b, ln, x.ln with
      | some k, false, none => some (.nx ((ρ.set t (some (.ow [.str w, .bl k]))).set n none))
      | _, _, _ => none)
    | some false => handle L io hs x ρ
    | none => none
mutual
def evS (C : Ctx) (L : Cls) (io : List Nat) : S → Env → Option Fl
  | .skip, ρ => some (.nx ρ)
  | .ex e, ρ => bndS (evE C e ρ) fun _ ρ1 => some (.nx ρ1)
  | .asg (.nm i) e, ρ => bndS (evE C e ρ) fun r ρ1 => match put io ρ1 i r with
    | some ρ2 => some (.nx ρ2)
    | none => none
  | .asg (.sub i k) e, ρ => bndS (evE C e ρ) fun r ρ1 => match esc ρ1 r with
    | some (d, ρ2) => stTg C io (.sub i k) d ρ2
    | none => none
  | .unp ts e, ρ => bndS (evE C e ρ) fun r ρ1 => match r with
    | .v (.tup ds) => if ts.length = ds.length then stTgs C io ts ds ρ1 else none
    | _ => none
  | .par is es, ρ => bndS (evEs C es ρ) fun rs ρ1 => match putAll io ρ1 is rs with
    | some ρ2 => some (.nx ρ2)
    | none => none
  | .ret e, ρ => bndS (evE C e ρ) fun r ρ1 => some (.rt r ρ1)
  | .retN, ρ => some (.rt (.v .non) ρ)
  | .ite c a b, ρ => bndS (evE C c ρ) fun r ρ1 => match pk ρ1 r with
    | some d => (match truth d with
      | some true => evSs C L io a ρ1
      | some false => evSs C L io b ρ1
      | none => none)
    | none => none
  | .for_ tg tp it b, ρ => bndS (evI C it ρ) fun items ρ1 => forLoop (fun ρa d => match setTgIo io ρa tg tp d with
    | some ρb => evSs C L io b ρb
    | none => none) ρ1 items
  | .whl n c b, ρ => whileLoop (fun ρa => bndS (evE C c ρa) fun r ρb => match pk ρb r with
    | some d => (match truth d with
      | some true => evSs C L io b ρb
      | some false => some (.bk ρb)
      | none => none)
    | none => none) n ρ
  | .raise c as, ρ => bndS (evEs C as ρ) fun rs ρ1 => match pks ρ1 rs with
    | some [] => some (.ex ⟨c, none⟩ ρ1)
    | some [.int l] => some (.ex ⟨c, some l⟩ ρ1)
    | _ => none
  | .tri b hs, ρ => match evSs C L io b ρ with
    | some (.ex x ρ1) => handle L io hs x ρ1
    | r => r
  | .aug i o e, ρ => match ρ[i]? with
    | some (some (.sh d)) => bndS (evE C e ρ) fun r ρ1 => (match pk ρ1 r with
      | some d2 => (match evOp o d d2 with
        | some (.v y) => if io.contains i then none else some (.nx (setS ρ1 i y))
        | _ => none)
      | none => none)
    | _ => none
  | .brk, ρ => some (.bk ρ)
  | .cont, ρ => some (.ct ρ)
  | .never, _ => none
def evSs (C : Ctx) (L : Cls) (io : List Nat) : Ss → Env → Option Fl
  | .nil, ρ => some (.nx ρ)
  | .cons s r, ρ => match evS C L io s ρ with
    | some (.nx ρ1) => evSs C L io r ρ1
    | o => o
end
def ioIx (b : Bool) : List Nat := if b then [0] else []
/-- the list handed in, at the end -/
def outOf (io : Bool) (ρ : Env) : Option (Option (List D)) := match io with
  | false => some none
  | true => match ρ[(0 : Nat)]? with
    | some (some (.ow xs)) => some (some xs)
    | _ => none
def fin (io : Bool) (fl : Fl) : Option CRes := match fl with
  | .nx ρ => (outOf io ρ).map (.ok (.v .non))
  | .rt (.sl i) ρ => if io && i == 0 then none else (match ρ[i]? with
    | some (some (.ow xs)) => (outOf io ρ).map (.ok (.nw xs))
    | some (some (.sh d)) => (outOf io ρ).map (.ok (.v d))
    | _ => none)
  | .rt r ρ => (outOf io ρ).map (.ok r)
  | .ex x ρ => (outOf io ρ).map (.ex x)
  | _ => none
def begin_ (n : Nat) (io : Option (List D)) (ds : List D) : Env := match io with
  | none => ds.map (fun d => some (.sh d)) ++ List.replicate (n - ds.length) none
  | some xs => some (.ow xs) :: (ds.map (fun d => some (.sh d)) ++ List.replicate (n - (ds.length + 1)) none)
/-- the interpreter, by the depth of calls -/
def call (defs : Nat → Option Def) (L : Cls) : Nat → Nat → Option (List D) → List D → Option CRes
  | 0, _, _, _ => none
  | n + 1, f, io, ds => match defs f with
    | none => none
    | some df => if df.io == io.isSome && df.np == ds.length + (if df.io then 1 else 0) then
        (match evSs ⟨defs, call defs L n⟩ L (ioIx df.io) df.body (begin_ df.n io ds) with
        | some fl => fin df.io fl
        | none => none)
      else none
end Vi
set_option Elab.async false
set_option linter.all false
set_option maxRecDepth 100000
set_option maxHeartbeats 2000000
/-! Vi, part B: what a value stands for; the operators. -/
namespace Vi
open PySem PySem.Spec PyProof.Rows L2
/-- all that the first knows the second knows -/
def Le (H H' : Hp) : Prop := ∀ a o, H a = some o → H' a = some o
theorem Le.rf {H : Hp} : Le H H := fun _ _ h => h
theorem Le.tr {H H1 H2 : Hp} (p : Le H H1) (q : Le H1 H2) : Le H H2 := fun a o h => q a o (p a o h)
theorem Le.put {H : Hp} {p : Addr} {o : HO} (h : H p = none) : Le H (upd H p o) := fun a u e => by
  rw [upd_ne (ne_of_none e h)]
  exact e
theorem Le.put2 {S H : Hp} {p : Addr} {o : HO} (l : Le S H) : Le (upd S p o) (upd H p o) := fun a u e => by
  by_cases q : a = p
  · subst q
    rw [upd_same] at e ⊢
    exact e
  · rw [upd_ne q] at e ⊢
    exact l a u e
theorem Le.none_of {S H : Hp} (l : Le S H) {a : Addr} (h : H a = none) : S a = none := by
  cases e : S a with
  | none => rfl
  | some o =>
    rw [l a o e] at h
    cases h
theorem Le.rd {H H' : Hp} (l : Le H H') {a : Addr} {u : HO} (h : Rd H a u) : Rd H' a u := by
  rcases h with h | ⟨o, h⟩
  · exact .inl (l _ _ h)
  · exact .inr ⟨o, l _ _ h⟩
theorem Le.sqL {K : PySem.W.Frag} {H H' : Hp} (l : Le H H') {a : Addr} {xs : List V} (h : SqL K H a xs) : SqL K H' a xs := h.elim (fun z => .inl (l.rd z)) .inr
theorem Le.sqT {K : PySem.W.Frag} {H H' : Hp} (l : Le H H') {a : Addr} {xs : List V} (h : SqT K H a xs) : SqT K H' a xs := h.elim (fun z => .inl (l.rd z)) .inr

mutual
inductive RV (K : PySem.W.Frag) (adr : Nat → Addr) (S : Hp) : V → D → Prop
  | non : RV K adr S .non .non
  | bl (b : Bool) : RV K adr S (.bl b) (.bl b)
  | int (i : Int) : RV K adr S (.int i) (.int i)
  | str (x : Str) (h : PyData.canLay0 (.str x) = true) : RV K adr S (.str x) (.str x)
  | tup {a : Addr} {xs : List V} {ds : List D} (h : SqT K S a xs) (r : RVs K adr S xs ds) : RV K adr S (.ref a) (.tup ds)
  | lst {a : Addr} {xs : List V} {ds : List D} (h : S a = some (.lst xs)) (r : RVs K adr S xs ds) : RV K adr S (.ref a) (.lst ds)
  | fn (f : Nat) : RV K adr S (.ref (adr f)) (.fn f)
  | ro {a : Addr} {xs : List V} {ds : List D} (h : SqL K S a xs) (r : RVs K adr S xs ds) : RV K adr S (.ref a) (.ro ds)
inductive RVs (K : PySem.W.Frag) (adr : Nat → Addr) (S : Hp) : List V → List D → Prop
  | nil : RVs K adr S [] []
  | cons {v : V} {d : D} {vs : List V} {ds : List D} (h : RV K adr S v d) (r : RVs K adr S vs ds) : RVs K adr S (v :: vs) (d :: ds)
end
section
variable {K : PySem.W.Frag} {adr : Nat → Addr} {S S' H H' : Hp}
mutual
theorem RV.mono (l : Le S S') : ∀ {v : V} {d : D}, RV K adr S v d → RV K adr S' v d
  | _, _, .non => .non
  | _, _, .bl b => .bl b
  | _, _, .int i => .int i
  | _, _, .str x h => .str x h
  | _, _, .tup h r => .tup (l.sqT h) (RVs.mono l r)
  | _, _, .lst h r => .lst (l _ _ h) (RVs.mono l r)
  | _, _, .fn f => .fn f
  | _, _, .ro h r => .ro (l.sqL h) (RVs.mono l r)
theorem RVs.mono (l : Le S S') : ∀ {vs : List V} {ds : List D}, RVs K adr S vs ds → RVs K adr S' vs ds
  | _, _, .nil => .nil
  | _, _, .cons h r => .cons (RV.mono l h) (RVs.mono l r)
end
theorem RVs.len : ∀ {vs : List V} {ds : List D}, RVs K adr S vs ds → vs.length = ds.length
  | _, _, .nil => rfl
  | _, _, .cons _ r => congrArg Nat.succ (RVs.len r)
theorem RVs.at : ∀ {vs : List V} {ds : List D} {i : Nat} {d : D}, RVs K adr S vs ds → ds[i]? = some d → ∃ v, vs[i]? = some v ∧ RV K adr S v d
  | _, _, _, _, .nil, e => by simp at e
  | _, _, 0, _, .cons h _, e => by
    simp at e
    subst e
    exact ⟨_, rfl, h⟩
  | _, _, i + 1, _, .cons _ r, e => by
    obtain ⟨v, e1, h⟩ := RVs.at (i := i) r (by simpa using e)
    exact ⟨v, by simpa using e1, h⟩
theorem RVs.atV : ∀ {vs : List V} {ds : List D} {i : Nat} {v : V}, RVs K adr S vs ds → vs[i]? = some v → ∃ d, ds[i]? = some d ∧ RV K adr S v d
  | _, _, _, _, .nil, e => by simp at e
  | _, _, 0, _, .cons h _, e => by
    simp at e
    subst e
    exact ⟨_, rfl, h⟩
  | _, _, i + 1, _, .cons _ r, e => by
    obtain ⟨v, e1, h⟩ := RVs.atV (i := i) r (by simpa using e)
    exact ⟨v, by simpa using e1, h⟩
theorem RVs.of : ∀ {vs : List V} {ds : List D}, vs.length = ds.length → (∀ (i : Nat) v d, vs[i]? = some v → ds[i]? = some d → RV K adr S v d) → RVs K adr S vs ds
  | [], [], _, _ => .nil
  | [], _ :: _, h, _ => by cases h
  | _ :: _, [], h, _ => by cases h
  | v :: vs, d :: ds, h, f => .cons (f 0 v d rfl rfl) (RVs.of (Nat.succ.inj h) fun i v d a b => f (i + 1) v d (by simpa using a) (by simpa using b))
theorem RVs.app : ∀ {vs ws : List V} {ds es : List D}, RVs K adr S vs ds → RVs K adr S ws es → RVs K adr S (vs ++ ws) (ds ++ es)
  | _, _, _, _, .nil, q => q
  | _, _, _, _, .cons h r, q => .cons h (RVs.app r q)
theorem RVs.take : ∀ {vs : List V} {ds : List D} (n : Nat), RVs K adr S vs ds → RVs K adr S (vs.take n) (ds.take n)
  | _, _, 0, _ => .nil
  | _, _, _ + 1, .nil => .nil
  | _, _, n + 1, .cons h r => .cons h (RVs.take n r)
theorem RVs.drop : ∀ {vs : List V} {ds : List D} (n : Nat), RVs K adr S vs ds → RVs K adr S (vs.drop n) (ds.drop n)
  | _, _, 0, r => r
  | _, _, _ + 1, .nil => .nil
  | _, _, n + 1, .cons _ r => RVs.drop n r
theorem RVs.set {v : V} {d : D} (h : RV K adr S v d) : ∀ {vs : List V} {ds : List D} (n : Nat), RVs K adr S vs ds → RVs K adr S (vs.set n v) (ds.set n d)
  | _, _, _, .nil => .nil
  | _, _, 0, .cons _ r => .cons h r
  | _, _, n + 1, .cons q r => .cons q (RVs.set h n r)
theorem RVs.erase : ∀ {vs : List V} {ds : List D} (n : Nat), RVs K adr S vs ds → RVs K adr S (vs.eraseIdx n) (ds.eraseIdx n)
  | _, _, _, .nil => .nil
  | _, _, 0, .cons _ r => r
  | _, _, n + 1, .cons q r => .cons q (RVs.erase n r)
theorem RVs.init : ∀ {vs : List V} {ds : List D}, RVs K adr S vs ds → RVs K adr S vs.dropLast ds.dropLast
  | _, _, .nil => .nil
  | _, _, .cons h .nil => .nil
  | _, _, .cons h (.cons h2 r) => .cons h (RVs.init (.cons h2 r))
theorem RVs.rev : ∀ {vs : List V} {ds : List D}, RVs K adr S vs ds → RVs K adr S vs.reverse ds.reverse
  | _, _, .nil => .nil
  | _, _, .cons h r => by
    rw [List.reverse_cons, List.reverse_cons]
    exact (RVs.rev r).app (.cons h .nil)
theorem RVs.rep {vs : List V} {ds : List D} (r : RVs K adr S vs ds) : ∀ n : Nat, RVs K adr S (List.replicate n vs).flatten (List.replicate n ds).flatten
  | 0 => .nil
  | n + 1 => by
    rw [List.replicate_succ, List.replicate_succ, List.flatten_cons, List.flatten_cons]
    exact r.app (RVs.rep r n)
theorem RVs.emp {vs : List V} {ds : List D} (r : RVs K adr S vs ds) : vs.isEmpty = ds.isEmpty := by cases r <;> rfl
theorem RVs.nilL {vs : List V} {ds : List D} (r : RVs K adr S vs ds) (e : vs = []) : ds = [] := by
  subst e
  cases r
  rfl
theorem RVs.nilR {vs : List V} {ds : List D} (r : RVs K adr S vs ds) (e : ds = []) : vs = [] := by
  subst e
  cases r
  rfl
theorem RVs.intsOf : ∀ {vs : List V} {ds : List D} {is : List Int}, RVs K adr S vs ds → dInts ds = some is → vs = is.map V.int
  | _, _, _, .nil, e => by
    cases e
    rfl
  | _, _, is, .cons (d := d) h r, e => by
    cases d with
    | int i =>
      cases h
      unfold dInts at e
      obtain ⟨js, e1, e2⟩ := Option.map_eq_some_iff.mp e
      subst e2
      rw [RVs.intsOf r e1]
      rfl
    | _ => cases e
theorem RVs.boolsOf : ∀ {vs : List V} {ds : List D} {is : List Bool}, RVs K adr S vs ds → dBools ds = some is → vs = is.map V.bl
  | _, _, _, .nil, e => by
    cases e
    rfl
  | _, _, is, .cons (d := d) h r, e => by
    cases d with
    | bl i =>
      cases h
      unfold dBools at e
      obtain ⟨js, e1, e2⟩ := Option.map_eq_some_iff.mp e
      subst e2
      rw [RVs.boolsOf r e1]
      rfl
    | _ => cases e
theorem RVs.ofInts : ∀ is : List Int, RVs K adr S (is.map V.int) (is.map D.int)
  | [] => .nil
  | i :: is => .cons (.int i) (RVs.ofInts is)

/-! ### read as it stands -/
/-- a shared value, or a list that is known -/
def RH (K : PySem.W.Frag) (adr : Nat → Addr) (S H : Hp) (v : V) (d : D) : Prop := RV K adr S v d ∨ ∃ a vs xs, v = .ref a ∧ d = .lst xs ∧ H a = some (.lst vs) ∧ RVs K adr S vs xs
theorem RH.lst {v : V} {xs : List D} (l : Le S H) (h : RH K adr S H v (.lst xs)) : ∃ a vs, v = .ref a ∧ H a = some (.lst vs) ∧ RVs K adr S vs xs := by
  rcases h with h | ⟨a, vs, ys, rfl, e, h, r⟩
  · cases h with
    | lst h r => exact ⟨_, _, rfl, l _ _ h, r⟩
  · cases e
    exact ⟨a, vs, rfl, h, r⟩
theorem RH.tup {v : V} {xs : List D} (l : Le S H) (h : RH K adr S H v (.tup xs)) : ∃ a vs, v = .ref a ∧ SqT K H a vs ∧ RVs K adr S vs xs := by
  rcases h with h | ⟨a, vs, ys, rfl, e, h, r⟩
  · cases h with
    | tup h r => exact ⟨_, _, rfl, l.sqT h, r⟩
  · cases e
theorem RH.ro {v : V} {xs : List D} (l : Le S H) (h : RH K adr S H v (.ro xs)) : ∃ a vs, v = .ref a ∧ SqL K H a vs ∧ RVs K adr S vs xs := by
  rcases h with h | ⟨a, vs, ys, rfl, e, h, r⟩
  · cases h with
    | ro h r => exact ⟨_, _, rfl, l.sqL h, r⟩
  · cases e
theorem RH.int {v : V} {i : Int} (h : RH K adr S H v (.int i)) : v = .int i := by
  rcases h with h | ⟨a, vs, ys, rfl, e, h, r⟩
  · cases h
    rfl
  · cases e
theorem RH.bl {v : V} {i : Bool} (h : RH K adr S H v (.bl i)) : v = .bl i := by
  rcases h with h | ⟨a, vs, ys, rfl, e, h, r⟩
  · cases h
    rfl
  · cases e
theorem RH.non {v : V} (h : RH K adr S H v .non) : v = .non := by
  rcases h with h | ⟨a, vs, ys, rfl, e, h, r⟩
  · cases h
    rfl
  · cases e
theorem RH.str {v : V} {x : Str} (h : RH K adr S H v (.str x)) : v = .str x := by
  rcases h with h | ⟨a, vs, ys, rfl, e, h, r⟩
  · cases h
    rfl
  · cases e

/-! ### == -/
mutual
def D.py : D → PyData
  | .non => .none
  | .bl b => .bool b
  | .int i => .int i
  | .str x => .str x
  | .tup xs => .tuple (D.pys xs)
  | .lst xs => .list (D.pys xs)
  | .fn _ => .none
  | .ro _ => .none
def D.pys : List D → List PyData
  | [] => []
  | x :: xs => D.py x :: D.pys xs
end
mutual
theorem eqv_py : ∀ (n m : Nat) (a b : D), D.ok n a = true → D.ok m b = true → PyData.eqv a.py b.py = D.eqv a b
  | n, m, a, b, ha, hb => by
    cases a with
    | fn _ => cases n <;> cases ha
    | ro _ => cases n <;> cases ha
    | tup xs =>
      cases n with
      | zero => cases ha
      | succ n =>
        cases b with
        | fn _ => cases m <;> cases hb
        | ro _ => cases m <;> cases hb
        | tup ys =>
          cases m with
          | zero => cases hb
          | succ m =>
            show PyData.eqv (.tuple (D.pys xs)) (.tuple (D.pys ys)) = D.eqvs xs ys
            simp only [PyData.eqv]
            exact eqvs_py n m xs ys (by simpa [D.ok] using ha) (by simpa [D.ok] using hb)
        | _ => simp [D.py, PyData.eqv, D.eqv]
    | lst xs =>
      cases n with
      | zero => cases ha
      | succ n =>
        cases b with
        | fn _ => cases m <;> cases hb
        | ro _ => cases m <;> cases hb
        | lst ys =>
          cases m with
          | zero => cases hb
          | succ m =>
            show PyData.eqv (.list (D.pys xs)) (.list (D.pys ys)) = D.eqvs xs ys
            simp only [PyData.eqv]
            exact eqvs_py n m xs ys (by simpa [D.ok] using ha) (by simpa [D.ok] using hb)
        | _ => simp [D.py, PyData.eqv, D.eqv]
    | _ => cases b with
      | fn _ => cases m <;> cases hb
      | ro _ => cases m <;> cases hb
      | _ => simp [D.py, PyData.eqv, D.eqv]
theorem eqvs_py : ∀ (n m : Nat) (xs ys : List D), (∀ x ∈ xs, D.ok n x = true) → (∀ y ∈ ys, D.ok m y = true) → PyData.eqvAll (D.pys xs) (D.pys ys) = D.eqvs xs ys
  | _, _, [], [], _, _ => by simp [D.pys, PyData.eqvAll, D.eqvs]
  | _, _, [], _ :: _, _, _ => by simp [D.pys, PyData.eqvAll, D.eqvs]
  | _, _, _ :: _, [], _, _ => by simp [D.pys, PyData.eqvAll, D.eqvs]
  | n, m, x :: xs, y :: ys, hx, hy => by
    simp only [D.pys, PyData.eqvAll, D.eqvs]
    rw [eqv_py n m x y (hx x (List.mem_cons_self ..)) (hy y (List.mem_cons_self ..)), eqvs_py n m xs ys (fun z h => hx z (List.mem_cons_of_mem _ h)) fun z h => hy z (List.mem_cons_of_mem _ h)]
end
mutual
theorem dp_of (l : Le S H) : ∀ (n : Nat) (d : D) (v : V), D.ok n d = true → RV K adr S v d → Dp K H v d.py ∧ d.py.canLay0 = true ∧ d.py.depth ≤ n
  | n, d, v, h, r => by
    cases r with
    | non => exact ⟨.non, by simp [D.py, PyData.canLay0], by simp [D.py, PyData.depth]⟩
    | bl b => exact ⟨.bl b, by simp [D.py, PyData.canLay0], by simp [D.py, PyData.depth]⟩
    | int i => exact ⟨.int i, by simp [D.py, PyData.canLay0], by simp [D.py, PyData.depth]⟩
    | str x hx => exact ⟨.str x, hx, by simp [D.py, PyData.depth]⟩
    | fn f => cases n <;> cases h
    | ro _ _ => cases n <;> cases h
    | tup hq r =>
      cases n with
      | zero => cases h
      | succ n =>
        obtain ⟨a, b, c⟩ := dps_of l n _ _ (by simpa [D.ok] using h) r
        exact ⟨.tup (l.sqT hq) a, by simpa [D.py, PyData.canLay0] using b, by simp only [D.py, PyData.depth]; omega⟩
    | lst hq r =>
      cases n with
      | zero => cases h
      | succ n =>
        obtain ⟨a, b, c⟩ := dps_of l n _ _ (by simpa [D.ok] using h) r
        exact ⟨.lst (.inl (.inl (l _ _ hq))) a, by simpa [D.py, PyData.canLay0] using b, by simp only [D.py, PyData.depth]; omega⟩
theorem dps_of (l : Le S H) : ∀ (n : Nat) (ds : List D) (vs : List V), (∀ d ∈ ds, D.ok n d = true) → RVs K adr S vs ds → DpAll K H vs (D.pys ds) ∧ PyData.canLayAll0 (D.pys ds) = true ∧ PyData.depthAll (D.pys ds) ≤ n
  | _, [], _, _, r => by
    cases r
    exact ⟨.nil, by simp [D.pys, PyData.canLayAll0], by simp [D.pys, PyData.depthAll]⟩
  | n, d :: ds, _, h, r => by
    cases r with
    | cons hv r =>
      obtain ⟨a, b, c⟩ := dp_of l n d _ (h d (List.mem_cons_self ..)) hv
      obtain ⟨a2, b2, c2⟩ := dps_of l n ds _ (fun z hz => h z (List.mem_cons_of_mem _ hz)) r
      exact ⟨.cons a a2, by simp [D.pys, PyData.canLayAll0, b, b2], by simp only [D.pys, PyData.depthAll]; omega⟩
end
theorem RH.dp (l : Le S H) {n : Nat} {d : D} {v : V} (hn : n ≤ 60) (h : D.ok n d = true) (r : RH K adr S H v d) : Dp K H v d.py ∧ SeqAt.shaped d.py = true := by
  have fin : ∀ {e : PyData}, e.canLay0 = true → e.depth ≤ n → SeqAt.shaped e = true := fun {e} a b => by
    unfold SeqAt.shaped
    rw [a, decide_eq_true (show e.depth ≤ 64 by omega)]
    rfl
  rcases r with r | ⟨a, vs, xs, rfl, rfl, hq, r⟩
  · obtain ⟨x, y, z⟩ := dp_of l n d v h r
    exact ⟨x, fin y z⟩
  · cases n with
    | zero => cases h
    | succ n =>
      obtain ⟨x, y, z⟩ := dps_of l n _ _ (by simpa [D.ok] using h) r
      refine ⟨.lst (.inl (.inl hq)) x, fin (by simpa [D.py, PyData.canLay0] using y) (by simp only [D.py, PyData.depth]; omega)⟩
end
end Vi
set_option Elab.async false
set_option linter.all false
set_option maxRecDepth 100000
set_option maxHeartbeats 4000000
/-! Vi, part C: the operators keep to the interpreter's. -/
namespace Vi
open PySem PySem.Spec PyProof.Rows L2
/-- the heap and its shared part have grown -/
structure Grow (S H S' H' : Hp) : Prop where
  s : Le S S'
  h : Le H H'
  sh : Le S' H'
  fr : ∀ a o, S' a = some o → S a = some o ∨ H a = none
theorem Grow.rf {S H : Hp} (l : Le S H) : Grow S H S H := ⟨Le.rf, Le.rf, l, fun _ _ e => .inl e⟩
theorem Grow.tr {S H S1 H1 S2 H2 : Hp} (p : Grow S H S1 H1) (q : Grow S1 H1 S2 H2) : Grow S H S2 H2 :=
  ⟨p.s.tr q.s, p.h.tr q.h, q.sh, fun a o e => by
    rcases q.fr a o e with z | z
    · exact p.fr a o z
    · refine .inr ?_
      cases e1 : H a with
      | none => rfl
      | some u =>
        rw [p.h a u e1] at z
        cases z⟩
theorem Grow.obj {S H : Hp} {p : Addr} {o : HO} (l : Le S H) (hp : H p = none) : Grow S H (upd S p o) (upd H p o) :=
  ⟨Le.put (l.none_of hp), Le.put hp, Le.put2 l, fun a u e => by
    by_cases q : a = p
    · subst q
      exact .inr hp
    · rw [upd_ne q] at e
      exact .inl e⟩
theorem Grow.own {S H : Hp} {p : Addr} {o : HO} (l : Le S H) (hp : H p = none) : Grow S H S (upd H p o) :=
  ⟨Le.rf, Le.put hp, l.tr (Le.put hp), fun _ _ e => .inl e⟩
section
variable (K : PySem.W.Frag) (adr : Nat → Addr)
/-- what has come stands for r; H: the heap ahead of it -/
def NR (H S' H' : Hp) (v : V) : R → Prop
  | .v d => RV K adr S' v d
  | .nw xs => ∃ a vs, v = .ref a ∧ H' a = some (.lst vs) ∧ S' a = none ∧ RVs K adr S' vs xs ∧ H a = none
  | .sl _ => False
def FinR (S H : Hp) (r : R) (Q : VK) : Prop := ∀ v S' H', Grow S H S' H' → NR K adr H S' H' v r → Q v H'
/-- an operator's reading -/
def tO (o : Op) : R2 := fun x y H Q => ∃ S d1 d2 r, Le S H ∧ RH K adr S H x d1 ∧ RH K adr S H y d2 ∧ evOp o d1 d2 = some r ∧ FinR K adr S H r Q
end
section
variable {K : PySem.W.Frag} {adr : Nat → Addr} {S H : Hp} {Q : VK}
theorem FinR.val {r : R} {v : V} {d : D} (e : r = .v d) (q : FinR K adr S H r Q) (l : Le S H) (h : RV K adr S v d) : Q v H := by
  subst e
  exact q v S H (.rf l) h
theorem FinR.newT {r : R} {p : Addr} {vs : List V} {ds : List D} (e : r = .v (.tup ds)) (q : FinR K adr S H r Q) (l : Le S H) (h : RVs K adr S vs ds) (hp : H p = none) : Q (.ref p) (upd H p (.tup vs)) := by
  subst e
  exact q _ (upd S p (.tup vs)) _ (.obj l hp) (.tup (.inl (.inl upd_same)) (h.mono (Le.put (l.none_of hp))))
theorem FinR.newL {r : R} {p : Addr} {vs : List V} {ds : List D} (e : r = .nw ds) (q : FinR K adr S H r Q) (l : Le S H) (h : RVs K adr S vs ds) (hp : H p = none) : Q (.ref p) (upd H p (.lst vs)) := by
  subst e
  exact q _ S _ (.own l hp) ⟨p, vs, rfl, upd_same, l.none_of hp, h, hp⟩
theorem fit_le {xs : List D} (h : fit xs = true) : xs.length ≤ sizeLine := by
  have h1 : xs.length ≤ 1000000 := Nat.le_of_ble_eq_true h
  rw [sizeLine_eq]
  omega
theorem mkT_ok {xs : List D} {r : R} (e : mkT xs = some r) : r = .v (.tup xs) ∧ xs.length ≤ sizeLine := by
  unfold mkT at e
  by_cases h : fit xs = true
  · rw [if_pos h] at e
    exact ⟨(Option.some.inj e).symm, fit_le h⟩
  · rw [if_neg h] at e
    cases e
theorem mkL_ok {xs : List D} {r : R} (e : mkL xs = some r) : r = .nw xs ∧ xs.length ≤ sizeLine := by
  unfold mkL at e
  by_cases h : fit xs = true
  · rw [if_pos h] at e
    exact ⟨(Option.some.inj e).symm, fit_le h⟩
  · rw [if_neg h] at e
    cases e
theorem ifSome {c : Bool} {α : Type} {x r : α} (e : (if c = true then some x else none) = some r) : c = true ∧ r = x := by
  cases c with
  | true => exact ⟨rfl, (Option.some.inj e).symm⟩
  | false => cases e
end
section
variable {X : Cx} {adr : Nat → Addr}
theorem op_addV : OpR X (binaryOp .Add) (tO X.K adr .add) := by
  intro pins s σ H x y v u Q I rx ry h
  obtain ⟨S, d1, d2, r, l, h1, h2, e, q⟩ := h
  cases d1 with
  | int i =>
    cases d2 with
    | int j =>
      have e' : some (R.v (.int (i + j))) = some r := e
      refine op_add pins s σ H x y v u Q I rx ry ⟨i, j, h1.int, h2.int, q.val (Option.some.inj e').symm l (.int _)⟩
    | _ => cases (show (none : Option R) = some r from e)
  | tup xs =>
    cases d2 with
    | tup ys =>
      obtain ⟨rfl, hz⟩ := mkT_ok (show mkT (xs ++ ys) = some r from e)
      obtain ⟨a, vs, rfl, ha, ra⟩ := h1.tup l
      obtain ⟨b, ws, rfl, hb, rb⟩ := h2.tup l
      rw [List.length_append] at hz
      refine op_catA pins s σ H _ _ v u Q I rx ry ⟨a, b, vs, ws, rfl, rfl, ha, hb, by rw [ra.len, rb.len]; exact hz, fun e0 => ?_, fun _ e0 => ?_, fun _ _ p hp => q.newT rfl l (ra.app rb) hp⟩
      · have := ra.nilL e0
        subst this
        rcases h2 with h2 | ⟨_, _, _, _, z, _⟩
        · exact q.val rfl l h2
        · cases z
      · have := rb.nilL e0
        subst this
        rw [List.append_nil] at q
        rcases h1 with h1 | ⟨_, _, _, _, z, _⟩
        · exact q.val rfl l h1
        · cases z
    | _ => cases (show (none : Option R) = some r from e)
  | lst xs =>
    cases d2 with
    | lst ys =>
      obtain ⟨rfl, hz⟩ := mkL_ok (show mkL (xs ++ ys) = some r from e)
      obtain ⟨a, vs, rfl, ha, ra⟩ := h1.lst l
      obtain ⟨b, ws, rfl, hb, rb⟩ := h2.lst l
      rw [List.length_append] at hz
      exact op_cat pins s σ H _ _ v u Q I rx ry ⟨a, b, vs, ws, rfl, rfl, ha, hb, by rw [ra.len, rb.len]; exact hz, fun p hp => q.newL rfl l (ra.app rb) hp⟩
    | _ => cases (show (none : Option R) = some r from e)
  | _ => cases d2 <;> cases (show (none : Option R) = some r from e)
theorem op_subV : OpR X (binaryOp .Sub) (tO X.K adr .sub) := by
  intro pins s σ H x y v u Q I rx ry h
  obtain ⟨S, d1, d2, r, l, h1, h2, e, q⟩ := h
  cases d1 with
  | int i =>
    cases d2 with
    | int j =>
      have e' : some (R.v (.int (i - j))) = some r := e
      refine op_sub pins s σ H x y v u Q I rx ry ⟨i, j, h1.int, h2.int, q.val (Option.some.inj e').symm l (.int _)⟩
    | _ => cases (show (none : Option R) = some r from e)
  | _ => cases d2 <;> cases (show (none : Option R) = some r from e)
theorem op_fdivV : OpR X (binaryOp .FloorDiv) (tO X.K adr .fdiv) := by
  intro pins s σ H x y v u Q I rx ry h
  obtain ⟨S, d1, d2, r, l, h1, h2, e, q⟩ := h
  cases d1 with
  | int i =>
    cases d2 with
    | int j =>
      obtain ⟨c, rfl⟩ := ifSome (show (if (decide (0 < j) && decide (j < 1073741824)) = true then some (R.v (.int (i / j))) else none) = some r from e)
      rw [Bool.and_eq_true, decide_eq_true_eq, decide_eq_true_eq] at c
      exact op_fdiv pins s σ H x y v u Q I rx ry ⟨i, j, h1.int, h2.int, c, q.val rfl l (.int _)⟩
    | _ => cases (show (none : Option R) = some r from e)
  | _ => cases d2 <;> cases (show (none : Option R) = some r from e)
theorem op_modV : OpR X (binaryOp .Mod) (tO X.K adr .mod) := by
  intro pins s σ H x y v u Q I rx ry h
  obtain ⟨S, d1, d2, r, l, h1, h2, e, q⟩ := h
  cases d1 with
  | int i =>
    cases d2 with
    | int j =>
      obtain ⟨c, rfl⟩ := ifSome (show (if decide (0 < j) = true then some (R.v (.int (i % j))) else none) = some r from e)
      rw [decide_eq_true_eq] at c
      exact op_mod pins s σ H x y v u Q I rx ry ⟨i, j, h1.int, h2.int, c, q.val rfl l (.int _)⟩
    | _ => cases (show (none : Option R) = some r from e)
  | _ => cases d2 <;> cases (show (none : Option R) = some r from e)
theorem op_powV : OpR X (binaryOp .Pow) (tO X.K adr .pow) := by
  intro pins s σ H x y v u Q I rx ry h
  obtain ⟨S, d1, d2, r, l, h1, h2, e, q⟩ := h
  cases d1 with
  | int i =>
    cases d2 with
    | int j =>
      obtain ⟨c, rfl⟩ := ifSome (show (if (decide (0 ≤ j) && decide (j ≤ 1000) && decide (i.natAbs < 2 ^ 64)) = true then some (R.v (.int (i ^ j.toNat))) else none) = some r from e)
      rw [Bool.and_eq_true, Bool.and_eq_true, decide_eq_true_eq, decide_eq_true_eq, decide_eq_true_eq] at c
      exact op_pow pins s σ H x y v u Q I rx ry ⟨i, j, h1.int, h2.int, ⟨c.1.1, by omega, c.2⟩, q.val rfl l (.int _)⟩
    | _ => cases (show (none : Option R) = some r from e)
  | _ => cases d2 <;> cases (show (none : Option R) = some r from e)
/-! ### tuple * int, of any number -/
theorem tuple_mul_same (l : Addr) (items : Array Value) (n : Nat) (sl : Array (Option Value)) (dd : Option Addr) (x : Int) (u : Tok) (c0 : (decide (x < -(2 ^ 63)) || decide (x ≥ 2 ^ 63)) = false) (c1 : (items.isEmpty || x == 1) = true) :
    Meets (Builtin.«tuple.__mul__» ⟨[.ref l, .int x u], []⟩) (fun _ G s => s.heap.get? l = some { cls := .type "tuple", dict := dd, data := .seq items n, slots := sl } ∧
      G (.ok (.ret (Value.ref l))) s) :=
  .of_wp fun prog w A G s h => by
    obtain ⟨hp, g, d, tk, os⟩ := s
    obtain ⟨hl, h⟩ := h
    have f1 := AutoSeq1.idx_int
    wp_walk using AutoSeq1.wpAny_loadPart' hl
    repeat (first
      | (refine wpAny_ite_false (decide_eq_false (by rw [c0]; exact Bool.false_ne_true)) ?_; wp_walk using AutoSeq1.wpAny_loadPart' hl)
      | (refine wpAny_ite_true (decide_eq_true (by rw [c1])) ?_; wp_walk using AutoSeq1.wpAny_loadPart' hl))
    exact ⟨_, rfl, h⟩
theorem tuple_mul_zero (l : Addr) (items : Array Value) (n : Nat) (sl : Array (Option Value)) (dd : Option Addr) (x : Int) (u : Tok) (c0 : (decide (x < -(2 ^ 63)) || decide (x ≥ 2 ^ 63)) = false) (c1 : (items.isEmpty || x == 1) = false) (c2 : (decide (x ≤ 0) || items.isEmpty) = true) :
    Meets (Builtin.«tuple.__mul__» ⟨[.ref l, .int x u], []⟩) (fun _ G s => s.heap.get? l = some { cls := .type "tuple", dict := dd, data := .seq items n, slots := sl } ∧
      G (.ok (.ret (Value.ref s.heap.objs.size))) { s with heap := s.heap.push { cls := Value.type "tuple", data := Data.seq #[] }, toks := s.toks }) :=
  .of_wp fun prog w A G s h => by
    obtain ⟨hp, g, d, tk, os⟩ := s
    obtain ⟨hl, h⟩ := h
    have f1 := AutoSeq1.idx_int
    wp_walk using AutoSeq1.wpAny_loadPart' hl
    repeat (first
      | (refine wpAny_ite_false (decide_eq_false (by rw [c0]; exact Bool.false_ne_true)) ?_; wp_walk using AutoSeq1.wpAny_loadPart' hl)
      | (refine wpAny_ite_false (decide_eq_false (by rw [c1]; exact Bool.false_ne_true)) ?_; wp_walk using AutoSeq1.wpAny_loadPart' hl)
      | (refine wpAny_ite_true (decide_eq_true (by rw [c2])) ?_; wp_walk using AutoSeq1.wpAny_loadPart' hl))
    exact ⟨_, rfl, h⟩
theorem op_mulV : OpR X (binaryOp .Mult) (tO X.K adr .mul) := by
  intro pins s σ H x y v u Q I rx ry h
  obtain ⟨S, d1, d2, r, l, h1, h2, e, q⟩ := h
  cases d1 with
  | int i =>
    cases d2 with
    | int j =>
      obtain ⟨c, rfl⟩ := ifSome (show (if mulOk i j = true then some (R.v (.int (i * j))) else none) = some r from e)
      unfold mulOk at c
      rw [Bool.or_eq_true, Bool.and_eq_true, Bool.and_eq_true, decide_eq_true_eq, decide_eq_true_eq, decide_eq_true_eq, decide_eq_true_eq] at c
      exact op_mul pins s σ H x y v u Q I rx ry ⟨i, j, h1.int, h2.int, c, q.val rfl l (.int _)⟩
    | _ => cases (show (none : Option R) = some r from e)
  | lst xs =>
    cases d2 with
    | int k =>
      obtain ⟨c, rfl⟩ := ifSome (show (if (small k && Nat.ble (xs.length * k.toNat) lim) = true then some (R.nw (List.replicate k.toNat xs).flatten) else none) = some r from e)
      rw [Bool.and_eq_true] at c
      obtain ⟨c1, c2⟩ := c
      unfold small at c1
      rw [Bool.and_eq_true, decide_eq_true_eq, decide_eq_true_eq] at c1
      have c3 : xs.length * k.toNat ≤ 1000000 := Nat.le_of_ble_eq_true c2
      obtain ⟨a, vs, rfl, ha, ra⟩ := h1.lst l
      exact op_rep pins s σ H _ _ v u Q I rx ry ⟨a, k, vs, rfl, h2.int, ha, by omega, by omega, by rw [ra.len, sizeLine_eq]; omega, fun p hp => q.newL rfl l (ra.rep _) hp⟩
    | _ => cases (show (none : Option R) = some r from e)
  | tup xs =>
    cases d2 with
    | int k =>
      obtain ⟨c, rfl⟩ := ifSome (show (if (small k && Nat.ble (xs.length * k.toNat) lim) = true then some (R.v (.tup (List.replicate k.toNat xs).flatten)) else none) = some r from e)
      rw [Bool.and_eq_true] at c
      obtain ⟨ck, c2⟩ := c
      unfold small at ck
      rw [Bool.and_eq_true, decide_eq_true_eq, decide_eq_true_eq] at ck
      have c3 : xs.length * k.toNat ≤ 1000000 := Nat.le_of_ble_eq_true c2
      obtain ⟨a, vs, rfl, ha, ra⟩ := h1.tup l
      have e2 := h2.int
      subst e2
      cases rx
      obtain ⟨t, rfl⟩ := ry
      obtain ⟨its, rv, ⟨⟨cls, dd, data, sl⟩, ho, hc, n, hd⟩, hs⟩ := I.tuple ha
      simp only at hc hd
      subst hc hd
      have hle : its.length = vs.length := rv.length.symm
      have hl2 : vs.length = xs.length := ra.len
      have c0 : (decide (k < -(2 ^ 63)) || decide (k ≥ 2 ^ 63)) = false := by
        rw [decide_eq_false (by omega), decide_eq_false (by omega)] <;> rfl
      have go : ∀ {G : Value → Shared → Prop}, (wpAny (model X.prog X.w) X.A (PySem.call (.builtin "tuple.__mul__") [.ref a, .int k t]) G X.xe s) → wpAny (model X.prog X.w) X.A (binaryOp .Mult (.ref a) (.int k t)) G X.xe s := fun {G} hG =>
        wpAny_binaryOp_repeat_ref (T := "tuple") (U := "int") (by decide) ⟨_, ho, rfl⟩ (fun s' => typeIs_int s' k t) noFill_tuple_mul F.fills_int_mul F.slot_int_rmul repeat_tuple F.slot_int_index.lookup
          (call_meets F.slot_int_rmul (typeIs_int s k t) F.entry_int_rmul (F.args_int_rmul_2 _ _) (int_rmul_tuple k t a its.toArray n dd sl) ⟨ho, rfl, ⟨_, ho, rfl⟩, hG⟩)
      have hn : ∀ p, H p = none → Q (.ref p) (upd H p (.tup (List.replicate k.toNat vs).flatten)) := fun p hp => q.newT rfl l (ra.rep _) hp
      have hsame : (List.replicate k.toNat xs).flatten = xs → Q (.ref a) H := fun z => by
        rw [z] at q
        rcases h1 with h1 | ⟨_, _, _, _, z, _⟩
        · exact q.val rfl l h1
        · cases z
      refine go ?_
      cases c1 : (its.toArray.isEmpty || k == 1) with
      | true =>
        refine call_meets F.slot_tuple_mul ⟨_, ho, rfl⟩ F.entry_tuple_mul (F.args_tuple_mul_2 _ _) (tuple_mul_same a its.toArray n sl dd k t c0 c1) ⟨ho, ⟨.ref a, H, I, rfl, hsame ?_⟩⟩
        rw [Bool.or_eq_true] at c1
        rcases c1 with z | z
        · have z1 : its = [] := by cases its with
            | nil => rfl
            | cons _ _ => cases z
          have z2 : xs = [] := by
            refine List.eq_nil_of_length_eq_zero ?_
            rw [← hl2, ← hle, z1]
            rfl
          rw [z2]
          exact List.eq_nil_of_length_eq_zero (by simp)
        · have z1 : k = 1 := eq_of_beq z
          subst z1
          show (List.replicate 1 xs).flatten = xs
          simp
      | false =>
        have hi : its.toArray.isEmpty = false := (Bool.or_eq_false_iff.mp c1).1
        by_cases kz : k ≤ 0
        · have c2 : (decide (k ≤ 0) || its.toArray.isEmpty) = true := by rw [decide_eq_true kz, Bool.true_or]
          refine call_meets F.slot_tuple_mul ⟨_, ho, rfl⟩ F.entry_tuple_mul (F.args_tuple_mul_2 _ _) (tuple_mul_zero a its.toArray n sl dd k t c0 c1 c2) ⟨ho, ?_⟩
          have z : k.toNat = 0 := by omega
          rw [z] at hn
          refine ⟨.ref s.heap.objs.size, _, I.laid (t' := s.toks) (o := .tup []) (fun b ob q => Heap.get?_push_of_some _ q) (Nat.le_refl _) ?_, rfl, hn _ (I.hok.fresh (Nat.le_refl _))⟩
          exact ⟨Nat.zero_le _, [], .nil, IsTup.new _ _⟩
        · have c2 : (decide (k ≤ 0) || its.toArray.isEmpty) = false := by rw [hi, Bool.or_false, decide_eq_false kz]
          have hnat : its.toArray.size * k.toNat ≤ 1000000 := by rw [List.size_toArray, hle, hl2]; exact c3
          have hint : ((its.toArray.size : Nat) : Int) * k ≤ 1000000 := by
            have z : ((k.toNat : Nat) : Int) = k := Int.toNat_of_nonneg (by omega)
            rw [← z, ← Int.natCast_mul]
            omega
          have flen : (List.replicate k.toNat its).flatten.length ≤ sizeLine := by
            rw [PyProof.Rows.lm_len_rep_flat, sizeLine_eq]
            rw [List.size_toArray] at hnat
            rw [Nat.mul_comm]
            omega
          have c4 : Builtin.Tuple.tupleTooMany (((its.toArray.size : Nat) : Int) * k) = false := by
            unfold Builtin.Tuple.tupleTooMany
            rw [sizeLine_eq]
            exact decide_eq_false (by omega)
          refine call_meets F.slot_tuple_mul ⟨_, ho, rfl⟩ F.entry_tuple_mul (F.args_tuple_mul_2 _ _) (tuple_mulW a its.toArray n dd sl k t c0 c1 c2 (by omega) c4 (by rw [size_rep, List.size_toArray]; exact flen)) ⟨ho, ?_⟩
          rw [size_rep]
          refine ⟨.ref s.heap.objs.size, _, I.laid (t' := s.toks) (o := .tup (List.replicate k.toNat vs).flatten) (fun b ob q => Heap.get?_push_of_some _ q) (Nat.le_refl _) ?_, rfl, hn _ (I.hok.fresh (Nat.le_refl _))⟩
          exact ⟨by rw [PyProof.Rows.lm_len_rep_flat, sizeLine_eq, hl2, Nat.mul_comm]; omega, _, rv.rep k.toNat, IsTup.new _ _⟩
    | _ => cases (show (none : Option R) = some r from e)
  | _ => cases d2 <;> cases (show (none : Option R) = some r from e)
/-! ### comparisons -/
theorem op_eqV (hu : X.A.units + 64 < cLine) : OpR X (compareOp .Eq) (tO X.K adr .eq) := by
  intro pins s σ H x y v u Q I rx ry h
  obtain ⟨S, d1, d2, r, l, h1, h2, e, q⟩ := h
  obtain ⟨c, rfl⟩ := ifSome (show (if (D.ok deep d1 && D.ok deep d2) = true then some (R.v (.bl (D.eqv d1 d2))) else none) = some r from e)
  rw [Bool.and_eq_true] at c
  obtain ⟨p1, s1⟩ := h1.dp l (by decide) c.1
  obtain ⟨p2, s2⟩ := h2.dp l (by decide) c.2
  refine op_eqD hu pins s σ H x y v u Q I rx ry ⟨_, _, p1, p2, s1, s2, ?_⟩
  rw [eqv_py _ _ d1 d2 c.1 c.2]
  exact q.val rfl l (.bl _)
theorem op_neV (hu : X.A.units + 64 < cLine) : OpR X (compareOp .NotEq) (tO X.K adr .ne) := by
  intro pins s σ H x y v u Q I rx ry h
  obtain ⟨S, d1, d2, r, l, h1, h2, e, q⟩ := h
  obtain ⟨c, rfl⟩ := ifSome (show (if (D.ok deep d1 && D.ok deep d2) = true then some (R.v (.bl (!D.eqv d1 d2))) else none) = some r from e)
  rw [Bool.and_eq_true] at c
  obtain ⟨p1, s1⟩ := h1.dp l (by decide) c.1
  obtain ⟨p2, s2⟩ := h2.dp l (by decide) c.2
  refine op_neD hu pins s σ H x y v u Q I rx ry ⟨_, _, p1, p2, s1, s2, ?_⟩
  rw [eqv_py _ _ d1 d2 c.1 c.2]
  exact q.val rfl l (.bl _)
theorem op_cmpV {op : CmpOp} {o : Op} {p : Int → Int → Bool} (hop : OpR X (compareOp op) (rI0 fun i j => .bl (p i j))) (hint : ∀ i j, evOp o (.int i) (.int j) = some (.v (.bl (p i j))))
    (hno : ∀ a b r, evOp o a b = some r → ∃ i j, a = .int i ∧ b = .int j) : OpR X (compareOp op) (tO X.K adr o) := by
  intro pins s σ H x y v u Q I rx ry h
  obtain ⟨S, d1, d2, r, l, h1, h2, e, q⟩ := h
  obtain ⟨i, j, rfl, rfl⟩ := hno _ _ _ e
  rw [hint] at e
  exact hop pins s σ H x y v u Q I rx ry ⟨i, j, h1.int, h2.int, q.val (Option.some.inj e).symm l (.bl _)⟩
theorem op_leV : OpR X (compareOp .LtE) (tO X.K adr .le) := op_cmpV op_le (fun _ _ => rfl) fun a b r e => by
  cases a <;> cases b <;> first | exact ⟨_, _, rfl, rfl⟩ | cases (show (none : Option R) = some r from e)
theorem op_gtV : OpR X (compareOp .Gt) (tO X.K adr .gt) := op_cmpV op_gt (fun _ _ => rfl) fun a b r e => by
  cases a <;> cases b <;> first | exact ⟨_, _, rfl, rfl⟩ | cases (show (none : Option R) = some r from e)
theorem op_geV : OpR X (compareOp .GtE) (tO X.K adr .ge) := op_cmpV op_ge (fun _ _ => rfl) fun a b r e => by
  cases a <;> cases b <;> first | exact ⟨_, _, rfl, rfl⟩ | cases (show (none : Option R) = some r from e)
theorem op_ltV (hu : X.A.units < cLine) : OpR X (compareOp .Lt) (tO X.K adr .lt) := by
  intro pins s σ H x y v u Q I rx ry h
  obtain ⟨S, d1, d2, r, l, h1, h2, e, q⟩ := h
  cases d1 with
  | int i =>
    cases d2 with
    | int j =>
      have e' : some (R.v (.bl (decide (i < j)))) = some r := e
      exact op_lt pins s σ H x y v u Q I rx ry ⟨i, j, h1.int, h2.int, q.val (Option.some.inj e').symm l (.bl _)⟩
    | _ => cases (show (none : Option R) = some r from e)
  | tup xs =>
    cases d2 with
    | tup ys =>
      have e' : (match dInts xs, dInts ys with
        | some is, some js => some (R.v (.bl (HT.lexLt is js)))
        | _, _ => none) = some r := e
      cases ex : dInts xs with
      | none =>
        rw [ex] at e'
        cases e'
      | some is =>
        cases ey : dInts ys with
        | none =>
          rw [ex, ey] at e'
          cases e'
        | some js =>
          rw [ex, ey] at e'
          obtain ⟨a, vs, rfl, ha, ra⟩ := h1.tup l
          obtain ⟨b, ws, rfl, hb, rb⟩ := h2.tup l
          have z1 := ra.intsOf ex
          have z2 := rb.intsOf ey
          subst z1 z2
          exact op_ltT hu pins s σ H _ _ v u Q I rx ry ⟨a, b, is, js, rfl, rfl, ha, hb, q.val (Option.some.inj e').symm l (.bl _)⟩
    | _ => cases (show (none : Option R) = some r from e)
  | _ => cases d2 <;> cases (show (none : Option R) = some r from e)
theorem isIn_py {n m : Nat} {d : D} (hd : D.ok n d = true) : ∀ {xs : List D}, (∀ x ∈ xs, D.ok m x = true) → ((D.pys xs).any fun z => PyData.eqv z d.py) = isIn d xs
  | [], _ => rfl
  | x :: xs, h => by
    unfold isIn
    simp only [D.pys, List.any_cons]
    rw [eqv_py m n x d (h x (List.mem_cons_self ..)) hd]
    have := isIn_py hd (xs := xs) fun z hz => h z (List.mem_cons_of_mem _ hz)
    unfold isIn at this
    rw [this]
theorem op_inV (hu : X.A.units + 65 < cLine) (no : Bool) : OpR X (compareOp (if no then .NotIn else .In)) (tO X.K adr (if no then .notin else .isin)) := by
  intro pins s σ H x y v u Q I rx ry h
  obtain ⟨S, d1, d2, r, l, h1, h2, e, q⟩ := h
  have key : ∀ (xs : List D), (d2 = .lst xs ∨ d2 = .tup xs) → evOp (if no then .notin else .isin) d1 d2 = some r → D.ok deep d1 = true ∧ D.ok deep d2 = true ∧ r = .v (.bl (if no then !isIn d1 xs else isIn d1 xs)) := fun xs hx e => by
    rcases hx with rfl | rfl <;> cases no
    · obtain ⟨c, rfl⟩ := ifSome (show (if (D.ok deep d1 && D.ok deep (.lst xs)) = true then some (R.v (.bl (isIn d1 xs))) else none) = some r from e)
      rw [Bool.and_eq_true] at c
      exact ⟨c.1, c.2, rfl⟩
    · obtain ⟨c, rfl⟩ := ifSome (show (if (D.ok deep d1 && D.ok deep (.lst xs)) = true then some (R.v (.bl (!isIn d1 xs))) else none) = some r from e)
      rw [Bool.and_eq_true] at c
      exact ⟨c.1, c.2, rfl⟩
    · obtain ⟨c, rfl⟩ := ifSome (show (if (D.ok deep d1 && D.ok deep (.tup xs)) = true then some (R.v (.bl (isIn d1 xs))) else none) = some r from e)
      rw [Bool.and_eq_true] at c
      exact ⟨c.1, c.2, rfl⟩
    · obtain ⟨c, rfl⟩ := ifSome (show (if (D.ok deep d1 && D.ok deep (.tup xs)) = true then some (R.v (.bl (!isIn d1 xs))) else none) = some r from e)
      rw [Bool.and_eq_true] at c
      exact ⟨c.1, c.2, rfl⟩
  have any_eq : ∀ (xs : List D), D.ok deep d1 = true → (∀ x ∈ xs, D.ok 39 x = true) → ((D.pys xs).any fun z => PyData.eqv z d1.py) = isIn d1 xs := fun xs a b => isIn_py a b
  cases d2 with
  | lst xs =>
    obtain ⟨k1, k2, rfl⟩ := key xs (.inl rfl) e
    obtain ⟨p1, s1⟩ := h1.dp l (by decide) k1
    obtain ⟨p2, s2⟩ := h2.dp l (by decide) k2
    obtain ⟨as, r1⟩ := Dp.reads I d1.py x v p1 rx
    obtain ⟨bs, r2⟩ := Dp.reads I (.list (D.pys xs)) y u p2 ry
    have ea := any_eq xs k1 (by simpa [D.ok, deep] using k2)
    cases no with
    | false => exact SeqAt.in_list_reads r2 r1 (SeqAt.canLay_of_shaped s2) (SeqAt.canLay_of_shaped s1) (room_in_shaped s1 hu) ⟨.bl _, H, I, rfl, q.val rfl l (by rw [ea]; exact .bl _)⟩
    | true => exact SeqAt.notIn_list_reads r2 r1 (SeqAt.canLay_of_shaped s2) (SeqAt.canLay_of_shaped s1) (room_in_shaped s1 hu) ⟨.bl _, H, I, rfl, q.val rfl l (by rw [ea]; exact .bl _)⟩
  | tup xs =>
    obtain ⟨k1, k2, rfl⟩ := key xs (.inr rfl) e
    obtain ⟨p1, s1⟩ := h1.dp l (by decide) k1
    obtain ⟨p2, s2⟩ := h2.dp l (by decide) k2
    obtain ⟨as, r1⟩ := Dp.reads I d1.py x v p1 rx
    obtain ⟨bs, r2⟩ := Dp.reads I (.tuple (D.pys xs)) y u p2 ry
    have ea := any_eq xs k1 (by simpa [D.ok, deep] using k2)
    cases no with
    | false => exact SeqAt.in_tuple_reads r2 r1 (SeqAt.canLay_of_shaped s2) (SeqAt.canLay_of_shaped s1) (room_in_shaped s1 hu) ⟨.bl _, H, I, rfl, q.val rfl l (by rw [ea]; exact .bl _)⟩
    | true => exact SeqAt.notIn_tuple_reads r2 r1 (SeqAt.canLay_of_shaped s2) (SeqAt.canLay_of_shaped s1) (room_in_shaped s1 hu) ⟨.bl _, H, I, rfl, q.val rfl l (by rw [ea]; exact .bl _)⟩
  | _ => cases no <;> cases d1 <;> cases (show (none : Option R) = some r from e)
theorem ix_V : IxR X (tO X.K adr .ix) := by
  intro value slice pins s σ H x y v u Q I rx ry h hs
  obtain ⟨S, d1, d2, r, l, h1, h2, e, q⟩ := h
  cases d1 with
  | lst xs =>
    cases d2 with
    | int i =>
      obtain ⟨d, e1, rfl⟩ := Option.map_eq_some_iff.mp (show (atI xs i).map R.v = some r from e)
      obtain ⟨a, vs, rfl, ha, ra⟩ := h1.lst l
      have e1' : (ixN xs.length i).bind (fun j => xs[j]?) = some d := e1
      obtain ⟨j, ej, eg⟩ := Option.bind_eq_some_iff.mp e1'
      obtain ⟨w, ew, rw'⟩ := ra.at eg
      refine ix_list value slice pins s σ H _ _ v u Q I rx ry ⟨a, vs, i, w, rfl, h2.int, .inl (.inl ha), ?_, q.val rfl l rw'⟩ hs
      unfold atI
      rw [ra.len, ej]
      exact ew
    | _ => cases (show (none : Option R) = some r from e)
  | tup xs =>
    cases d2 with
    | int i =>
      obtain ⟨d, e1, rfl⟩ := Option.map_eq_some_iff.mp (show (atI xs i).map R.v = some r from e)
      obtain ⟨a, vs, rfl, ha, ra⟩ := h1.tup l
      have e1' : (ixN xs.length i).bind (fun j => xs[j]?) = some d := e1
      obtain ⟨j, ej, eg⟩ := Option.bind_eq_some_iff.mp e1'
      obtain ⟨w, ew, rw'⟩ := ra.at eg
      refine ix_tup value slice pins s σ H _ _ v u Q I rx ry ⟨a, vs, i, w, rfl, h2.int, ha, ?_, q.val rfl l rw'⟩ hs
      unfold atI
      rw [ra.len, ej]
      exact ew
    | _ => cases (show (none : Option R) = some r from e)
  | _ => cases d2 <;> cases (show (none : Option R) = some r from e)
end
end Vi
set_option Elab.async false
set_option linter.all false
set_option maxRecDepth 100000
set_option maxHeartbeats 4000000
/-! Vi, part D: slots and heap; a step's end; what an expression's reading is. -/
namespace Vi
open PySem PySem.Spec PyProof.Rows L2
/-- a list of a slot's own stands at a -/
def Own (ρ : Env) (σ : L2.St) (a : Addr) : Prop := ∃ (i : Nat) (xs : List D), ρ[i]? = some (some (.ow xs)) ∧ σ[i]? = some (some (.ref a))
section
variable (K : PySem.W.Frag) (adr : Nat → Addr)
/-- the slots as the interpreter has them -/
structure Rep (S H : Hp) (ρ : Env) (σ : L2.St) : Prop where
  sub : Le S H
  len : ρ.length = σ.length
  sh : ∀ (i : Nat) (d : D), ρ[i]? = some (some (.sh d)) → ∃ v, σ[i]? = some (some v) ∧ RV K adr S v d
  ow : ∀ (i : Nat) (xs : List D), ρ[i]? = some (some (.ow xs)) → ∃ a vs, σ[i]? = some (some (.ref a)) ∧ H a = some (.lst vs) ∧ S a = none ∧ RVs K adr S vs xs
  dj : ∀ (i j : Nat) (xs ys : List D) (a : Addr), ρ[i]? = some (some (.ow xs)) → ρ[j]? = some (some (.ow ys)) → σ[i]? = some (some (.ref a)) → σ[j]? = some (some (.ref a)) → i = j
/-- a step that leaves the names as they are -/
structure Ext (S H : Hp) (ρ : Env) (σ : L2.St) (S' H' : Hp) (ρ' : Env) : Prop where
  s : Le S S'
  kp : ∀ a o, H a = some o → ¬ Own ρ σ a → H' a = some o
  th : ∀ a o, H a = some o → ∃ o', H' a = some o'
  rp : Rep K adr S' H' ρ' σ
  ow : ∀ a, Own ρ' σ a → Own ρ σ a
  fr : ∀ a o, S' a = some o → S a = some o ∨ H a = none ∨ Own ρ σ a
  dm : ∀ (i : Nat) s, ρ[i]? = some (some s) → ∃ s', ρ'[i]? = some (some s')
/-- what has come stands for r; H0: the heap at the step's start -/
def RR (H0 S H : Hp) (ρ : Env) (σ : L2.St) (v : V) : R → Prop
  | .v d => RV K adr S v d
  | .nw xs => ∃ a vs, v = .ref a ∧ H a = some (.lst vs) ∧ S a = none ∧ RVs K adr S vs xs ∧ ¬ Own ρ σ a ∧ H0 a = none
  | .sl i => σ[i]? = some (some v) ∧ ∃ s, ρ[i]? = some (some s)
/-- an exception in the air: its class, its own dict -/
def RX (cls : Nat → Addr) (x : Xc) (c : Value) (d : Option Addr) (H : Hp) : Prop := c = .ref (cls x.c) ∧ match x.ln with
  | none => d = none
  | some l => ∃ a, d = some a ∧ H a = some (.xd [("line", .int l)])
end
section
variable {K : PySem.W.Frag} {adr : Nat → Addr} {S H S' H' S1 H1 S2 H2 H0 : Hp} {ρ ρ' ρ1 ρ2 : Env} {σ : L2.St}
theorem Rep.nOwn (r : Rep K adr S H ρ σ) {a : Addr} (h : Own ρ σ a) : S a = none ∧ ∃ vs, H a = some (.lst vs) := by
  obtain ⟨i, xs, e, e2⟩ := h
  obtain ⟨b, vs, f, g, k, _⟩ := r.ow i xs e
  rw [e2] at f
  cases f
  exact ⟨k, vs, g⟩
theorem Ext.rf (r : Rep K adr S H ρ σ) : Ext K adr S H ρ σ S H ρ := ⟨Le.rf, fun _ _ e _ => e, fun _ o e => ⟨o, e⟩, r, fun _ h => h, fun _ _ e => .inl e, fun _ s e => ⟨s, e⟩⟩
theorem Ext.tr (p : Ext K adr S H ρ σ S1 H1 ρ1) (q : Ext K adr S1 H1 ρ1 σ S2 H2 ρ2) : Ext K adr S H ρ σ S2 H2 ρ2 where
  s := p.s.tr q.s
  kp := fun a o e n => q.kp a o (p.kp a o e n) fun h => n (p.ow a h)
  th := fun a o e => by
    obtain ⟨o1, e1⟩ := p.th a o e
    exact q.th a o1 e1
  rp := q.rp
  ow := fun a h => p.ow a (q.ow a h)
  fr := fun a o e => by
    rcases q.fr a o e with z | z | z
    · exact p.fr a o z
    · refine .inr (.inl ?_)
      cases e1 : H a with
      | none => rfl
      | some u =>
        obtain ⟨o1, e2⟩ := p.th a u e1
        rw [z] at e2
        cases e2
    · exact .inr (.inr (p.ow a z))
  dm := fun i s e => by
    obtain ⟨s1, e1⟩ := p.dm i s e
    exact q.dm i s1 e1
theorem Rep.grow (r : Rep K adr S H ρ σ) (g : Grow S H S' H') : Rep K adr S' H' ρ σ where
  sub := g.sh
  len := r.len
  sh := fun i d e => by
    obtain ⟨v, a, b⟩ := r.sh i d e
    exact ⟨v, a, b.mono g.s⟩
  ow := fun i xs e => by
    obtain ⟨a, vs, b, c, d, f⟩ := r.ow i xs e
    refine ⟨a, vs, b, g.h _ _ c, ?_, f.mono g.s⟩
    cases z : S' a with
    | none => rfl
    | some o =>
      rcases g.fr a o z with y | y
      · rw [d] at y
        cases y
      · rw [c] at y
        cases y
  dj := r.dj
theorem Ext.grow (r : Rep K adr S H ρ σ) (g : Grow S H S' H') : Ext K adr S H ρ σ S' H' ρ :=
  ⟨g.s, fun a o e _ => g.h a o e, fun a o e => ⟨o, g.h a o e⟩, r.grow g, fun _ h => h, fun a o e => (g.fr a o e).elim .inl fun z => .inr (.inl z), fun _ s e => ⟨s, e⟩⟩
theorem RR.step {v : V} {r : R} (h : RR K adr H0 S H ρ σ v r) (q : Ext K adr S H ρ σ S' H' ρ') : RR K adr H0 S' H' ρ' σ v r := by
  cases r with
  | v d => exact RV.mono q.s h
  | nw xs =>
    obtain ⟨a, vs, e, b, c, d, n, f⟩ := h
    refine ⟨a, vs, e, q.kp a _ b n, ?_, d.mono q.s, fun z => n (q.ow a z), f⟩
    cases z : S' a with
    | none => rfl
    | some o =>
      rcases q.fr a o z with y | y | y
      · rw [c] at y
        cases y
      · rw [b] at y
        cases y
      · exact absurd y n
  | sl i =>
    obtain ⟨e, s, e2⟩ := h
    exact ⟨e, q.dm i s e2⟩
theorem RR.early {v : V} {r : R} (h : RR K adr H1 S H ρ σ v r) (t : ∀ a o, H0 a = some o → ∃ o', H1 a = some o') : RR K adr H0 S H ρ σ v r := by
  cases r with
  | nw xs =>
    obtain ⟨a, vs, e, b, c, d, n, f⟩ := h
    refine ⟨a, vs, e, b, c, d, n, ?_⟩
    cases z : H0 a with
    | none => rfl
    | some o =>
      obtain ⟨o', y⟩ := t a o z
      rw [f] at y
      cases y
  | _ => exact h
theorem NR.rr {v : V} {r : R} (rp : Rep K adr S H ρ σ) (h : NR K adr H S' H' v r) : RR K adr H S' H' ρ σ v r := by
  cases r with
  | v d => exact h
  | nw xs =>
    obtain ⟨a, vs, e, b, c, d, f⟩ := h
    refine ⟨a, vs, e, b, c, d, fun z => ?_, f⟩
    obtain ⟨_, vs, y⟩ := rp.nOwn z
    rw [f] at y
    cases y
  | sl i => exact h.elim
/-- read, as it stands -/
theorem RR.pk {v : V} {r : R} {d : D} (rp : Rep K adr S H ρ σ) (h : RR K adr H0 S H ρ σ v r) (e : pk ρ r = some d) : RH K adr S H v d := by
  cases r with
  | v d' =>
    cases e
    exact .inl h
  | nw xs =>
    cases e
    obtain ⟨a, vs, rfl, b, c, f, n, _⟩ := h
    exact .inr ⟨a, vs, xs, rfl, rfl, b, f⟩
  | sl i =>
    obtain ⟨e1, s, e2⟩ := h
    unfold Vi.pk at e
    simp only [e2] at e
    cases s with
    | sh d' =>
      cases e
      obtain ⟨w, e3, q⟩ := rp.sh i _ e2
      rw [e1] at e3
      cases e3
      exact .inl q
    | ow xs =>
      cases e
      obtain ⟨a, vs, e3, b, c, q⟩ := rp.ow i _ e2
      rw [e1] at e3
      cases e3
      exact .inr ⟨a, vs, xs, rfl, rfl, b, q⟩
/-- a list becomes a shared one -/
theorem Rep.share (rp : Rep K adr S H ρ σ) {a : Addr} {vs : List V} (hH : H a = some (.lst vs)) (hS : S a = none) (n : ¬ Own ρ σ a) : Rep K adr (upd S a (.lst vs)) H ρ σ where
  sub := fun b o e => by
    by_cases q : b = a
    · subst q
      rw [upd_same] at e
      cases e
      exact hH
    · rw [upd_ne q] at e
      exact rp.sub b o e
  len := rp.len
  sh := fun i d e => by
    obtain ⟨v, p, q⟩ := rp.sh i d e
    exact ⟨v, p, q.mono (Le.put hS)⟩
  ow := fun i xs e => by
    obtain ⟨b, ws, p, q, r, t⟩ := rp.ow i xs e
    have ne : b ≠ a := fun z => n ⟨i, xs, e, by rw [← z]; exact p⟩
    exact ⟨b, ws, p, q, by rw [upd_ne ne]; exact r, t.mono (Le.put hS)⟩
  dj := rp.dj
theorem set_get {ρ : Env} {i j : Nat} {s : Option Sl} (e : (ρ.set i s)[j]? = some (some x)) : (i = j ∧ s = some x) ∨ (i ≠ j ∧ ρ[j]? = some (some x)) := by
  by_cases q : i = j
  · subst q
    by_cases lt : i < ρ.length
    · rw [List.getElem?_set_self lt] at e
      exact .inl ⟨rfl, Option.some.inj e⟩
    · rw [List.getElem?_eq_none (by simpa using lt)] at e
      cases e
  · rw [List.getElem?_set_ne q] at e
    exact .inr ⟨q, e⟩
/-- an own list of a slot becomes a shared one -/
theorem Rep.freeze (rp : Rep K adr S H ρ σ) {i : Nat} {xs : List D} (e : ρ[i]? = some (some (.ow xs))) : ∃ a vs, σ[i]? = some (some (.ref a)) ∧ S a = none ∧ H a = some (.lst vs) ∧ RV K adr (upd S a (.lst vs)) (.ref a) (.lst xs) ∧
    Rep K adr (upd S a (.lst vs)) H (ρ.set i (some (.sh (.lst xs)))) σ := by
  obtain ⟨a, vs, p, q, r, t⟩ := rp.ow i xs e
  have rv : RV K adr (upd S a (.lst vs)) (.ref a) (.lst xs) := .lst upd_same (t.mono (Le.put r))
  refine ⟨a, vs, p, r, q, rv, ⟨fun b o z => ?_, by simpa using rp.len, fun j d z => ?_, fun j ys z => ?_, fun j k ys zs b z1 z2 z3 z4 => ?_⟩⟩
  · by_cases y : b = a
    · subst y
      rw [upd_same] at z
      cases z
      exact q
    · rw [upd_ne y] at z
      exact rp.sub b o z
  · rcases set_get z with ⟨rfl, y⟩ | ⟨_, y⟩
    · cases y
      exact ⟨_, p, rv⟩
    · obtain ⟨v, x1, x2⟩ := rp.sh j d y
      exact ⟨v, x1, x2.mono (Le.put r)⟩
  · rcases set_get z with ⟨rfl, y⟩ | ⟨nj, y⟩
    · cases y
    · obtain ⟨b, ws, x1, x2, x3, x4⟩ := rp.ow j ys y
      have ne : b ≠ a := fun w => nj (rp.dj i j xs ys a e y p (by rw [← w]; exact x1))
      exact ⟨b, ws, x1, x2, by rw [upd_ne ne]; exact x3, x4.mono (Le.put r)⟩
  · rcases set_get z1 with ⟨rfl, y⟩ | ⟨_, y1⟩
    · cases y
    · rcases set_get z2 with ⟨rfl, y⟩ | ⟨_, y2⟩
      · cases y
      · exact rp.dj j k ys zs b y1 y2 z3 z4
theorem Ext.freeze (rp : Rep K adr S H ρ σ) {i : Nat} {xs : List D} (e : ρ[i]? = some (some (.ow xs))) : ∃ S' v, Ext K adr S H ρ σ S' H (ρ.set i (some (.sh (.lst xs)))) ∧ σ[i]? = some (some v) ∧ RV K adr S' v (.lst xs) := by
  obtain ⟨a, vs, p, q, r, t, u⟩ := rp.freeze e
  refine ⟨_, _, ⟨Le.put q, fun _ _ z _ => z, fun _ o z => ⟨o, z⟩, u, fun b ⟨j, ys, z1, z2⟩ => ?_, fun b o z => ?_, fun j s z => ?_⟩, p, t⟩
  · rcases set_get z1 with ⟨rfl, y⟩ | ⟨_, y⟩
    · cases y
    · exact ⟨j, ys, y, z2⟩
  · by_cases y : b = a
    · subst y
      exact .inr (.inr ⟨i, xs, e, p⟩)
    · rw [upd_ne y] at z
      exact .inl z
  · by_cases y : i = j
    · subst y
      have lt : i < ρ.length := (List.getElem?_eq_some_iff.mp e).1
      exact ⟨_, List.getElem?_set_self lt⟩
    · exact ⟨s, by rw [List.getElem?_set_ne y]; exact z⟩
def isNw : R → Bool
  | .nw _ => true
  | _ => false
/-- some lists have become shared ones; H0: the heap ahead of all -/
structure Shr (K : PySem.W.Frag) (adr : Nat → Addr) (H0 S H : Hp) (ρ : Env) (σ : L2.St) (S' : Hp) (ρ' : Env) : Prop where
  rp : Rep K adr S' H ρ' σ
  s : Le S S'
  ow : ∀ a, Own ρ' σ a → Own ρ σ a
  fr : ∀ a o, S' a = some o → S a = some o ∨ H0 a = none ∨ Own ρ σ a
  dm : ∀ (i : Nat) s, ρ[i]? = some (some s) → ∃ s', ρ'[i]? = some (some s')
theorem Shr.rf (rp : Rep K adr S H ρ σ) : Shr K adr H0 S H ρ σ S ρ := ⟨rp, Le.rf, fun _ z => z, fun _ _ z => .inl z, fun _ s z => ⟨s, z⟩⟩
theorem Shr.tr {Sa Sb : Hp} {ρa ρb : Env} (p : Shr K adr H0 S H ρ σ Sa ρa) (q : Shr K adr H0 Sa H ρa σ Sb ρb) : Shr K adr H0 S H ρ σ Sb ρb :=
  ⟨q.rp, p.s.tr q.s, fun a z => p.ow a (q.ow a z), fun a o z => by
    rcases q.fr a o z with y | y | y
    · exact p.fr a o y
    · exact .inr (.inl y)
    · exact .inr (.inr (p.ow a y)), fun i s z => by
    obtain ⟨s1, y⟩ := p.dm i s z
    exact q.dm i s1 y⟩
theorem Ext.shr {Sb : Hp} {ρb : Env} (x : Ext K adr S H ρ σ S1 H1 ρ1) (q : Shr K adr H S1 H1 ρ1 σ Sb ρb) : Ext K adr S H ρ σ Sb H1 ρb where
  s := x.s.tr q.s
  kp := x.kp
  th := x.th
  rp := q.rp
  ow := fun a z => x.ow a (q.ow a z)
  fr := fun a o z => by
    rcases q.fr a o z with y | y | y
    · exact x.fr a o y
    · exact .inr (.inl y)
    · exact .inr (.inr (x.ow a y))
  dm := fun i s z => by
    obtain ⟨s1, y⟩ := x.dm i s z
    exact q.dm i s1 y
/-- as a value that stays -/
theorem RR.esc {v : V} {r : R} {d : D} (rp : Rep K adr S H ρ σ) (h : RR K adr H0 S H ρ σ v r) (e : esc ρ r = some (d, ρ')) :
    ∃ S', Shr K adr H0 S H ρ σ S' ρ' ∧ RV K adr S' v d ∧ ∀ a o, S' a = some o → S a = some o ∨ (v = .ref a ∧ isNw r = true) ∨ Own ρ σ a := by
  cases r with
  | v d' =>
    cases e
    exact ⟨S, .rf rp, h, fun _ _ z => .inl z⟩
  | nw xs =>
    cases e
    obtain ⟨a, vs, rfl, b, c, f, n, g⟩ := h
    refine ⟨upd S a (.lst vs), ⟨rp.share b c n, Le.put c, fun _ z => z, fun x o z => ?_, fun _ s z => ⟨s, z⟩⟩, .lst upd_same (f.mono (Le.put c)), fun x o z => ?_⟩
    all_goals
      by_cases y : x = a
      · subst y
        first
          | exact .inr (.inl g)
          | exact .inr (.inl ⟨rfl, rfl⟩)
      · rw [upd_ne y] at z
        exact .inl z
  | sl i =>
    obtain ⟨e1, s, e2⟩ := h
    unfold Vi.esc at e
    simp only [e2] at e
    cases s with
    | sh d' =>
      cases e
      obtain ⟨w, e3, q⟩ := rp.sh i _ e2
      rw [e1] at e3
      cases e3
      exact ⟨S, .rf rp, q, fun _ _ z => .inl z⟩
    | ow xs =>
      cases e
      obtain ⟨a, vs, p, q, rr, t, u⟩ := rp.freeze e2
      rw [e1] at p
      cases p
      refine ⟨_, ⟨u, Le.put q, fun b ⟨j, ys, z1, z2⟩ => ?_, fun x o z => ?_, fun j s z => ?_⟩, t, fun x o z => ?_⟩
      · rcases set_get z1 with ⟨rfl, y⟩ | ⟨_, y⟩
        · cases y
        · exact ⟨j, ys, y, z2⟩
      · by_cases y : x = a
        · subst y
          exact .inr (.inr ⟨i, xs, e2, e1⟩)
        · rw [upd_ne y] at z
          exact .inl z
      · by_cases y : i = j
        · subst y
          exact ⟨_, List.getElem?_set_self (List.getElem?_eq_some_iff.mp e2).1⟩
        · exact ⟨s, by rw [List.getElem?_set_ne y]; exact z⟩
      · by_cases y : x = a
        · subst y
          exact .inr (.inr ⟨i, xs, e2, e1⟩)
        · rw [upd_ne y] at z
          exact .inl z
/-- the others behind that -/
theorem RR.beside {v w : V} {r t : R} {Sb H9 : Hp} {ρb : Env} (h : RR K adr H9 S H ρ σ w t) (q : Shr K adr H0 S H ρ σ Sb ρb) (f : ∀ a o, Sb a = some o → S a = some o ∨ (v = .ref a ∧ isNw r = true) ∨ Own ρ σ a)
    (nd : isNw r = true → isNw t = true → w ≠ v) : RR K adr H9 Sb H ρb σ w t := by
  cases t with
  | v d => exact RV.mono q.s h
  | nw xs =>
    obtain ⟨a, vs, e, b, c, d, n, g⟩ := h
    refine ⟨a, vs, e, b, ?_, d.mono q.s, fun z => n (q.ow a z), g⟩
    cases z : Sb a with
    | none => rfl
    | some o =>
      rcases f a o z with y | ⟨y, y2⟩ | y
      · rw [c] at y
        cases y
      · exact absurd (e.trans y.symm) (nd y2 rfl)
      · exact absurd y n
  | sl i =>
    obtain ⟨e, s, e2⟩ := h
    exact ⟨e, q.dm i s e2⟩
end
end Vi
set_option Elab.async false
set_option linter.all false
set_option maxRecDepth 100000
set_option maxHeartbeats 4000000
/-! Vi, part E: an expression's reading; one rule a construct. -/
namespace Vi
open PySem PySem.Spec PyProof.Rows L2
section
variable (K : PySem.W.Frag) (adr cls : Nat → Addr) (W : WX)
def Post {α : Type} (o : Ev α) (S H : Hp) (ρ : Env) (σ : L2.St) (k : α → Hp → Hp → Env → Prop) : Prop := match o with
  | none => False
  | some (.ok a ρ') => ∀ S' H', Ext K adr S H ρ σ S' H' ρ' → k a S' H' ρ'
  | some (.ex x ρ') => ∀ c d S' H', Ext K adr S H ρ σ S' H' ρ' → RX cls x c d H' → W c d σ H'
def tE (C : Ctx) (e : E) : TE := fun σ H Q => ∃ S ρ, Rep K adr S H ρ σ ∧ Post K adr cls W (evE C e ρ) S H ρ σ fun r S' H' ρ' => ∀ v, RR K adr H S' H' ρ' σ v r → Q v H'
/-- a test -/
def evT (C : Ctx) (e : E) (ρ : Env) : Ev Bool := bnd (evE C e ρ) fun r ρ1 => match pk ρ1 r with
  | some d => (match truth d with
    | some b => some (.ok b ρ1)
    | none => none)
  | none => none
def tT (C : Ctx) (e : E) : TT := fun σ H Q => ∃ S ρ, Rep K adr S H ρ σ ∧ Post K adr cls W (evT C e ρ) S H ρ σ fun b _ H' _ => Q b H'
/-- values for results, from the left -/
inductive RRs (H0 S H : Hp) (ρ : Env) (σ : L2.St) : List V → List R → Prop
  | nil : RRs H0 S H ρ σ [] []
  | cons {v : V} {r : R} {vs : List V} {rs : List R} (h : RR K adr H0 S H ρ σ v r) (t : RRs H0 S H ρ σ vs rs) (nd : isNw r = true → ∀ (i : Nat) w u, vs[i]? = some w → rs[i]? = some u → isNw u = true → w ≠ v) : RRs H0 S H ρ σ (v :: vs) (r :: rs)
def tEs (C : Ctx) (es : Es) : TA := fun σ H Q => ∃ S ρ, Rep K adr S H ρ σ ∧ Post K adr cls W (evEs C es ρ) S H ρ σ fun rs S' H' ρ' => ∀ vs, RRs K adr H S' H' ρ' σ vs rs → Q vs H'
end
section
variable {K : PySem.W.Frag} {adr cls : Nat → Addr} {W : WX} {S H S' H' S1 H1 S2 H2 H0 : Hp} {ρ ρ' ρ1 ρ2 : Env} {σ : L2.St} {α β : Type}
theorem Post.imp {o : Ev α} {k k' : α → Hp → Hp → Env → Prop} (h : Post K adr cls W o S H ρ σ k) (f : ∀ a S' H' ρ', Ext K adr S H ρ σ S' H' ρ' → k a S' H' ρ' → k' a S' H' ρ') : Post K adr cls W o S H ρ σ k' := by
  unfold Post at h ⊢
  split
  · exact h
  · exact fun S' H' e => f _ S' H' _ e (h S' H' e)
  · exact h
theorem Post.first {o : Ev α} {f : α → Env → Ev β} {k : β → Hp → Hp → Env → Prop} {k' : α → Hp → Hp → Env → Prop} (h : Post K adr cls W (bnd o f) S H ρ σ k)
    (g : ∀ a S1 H1 ρ1, Ext K adr S H ρ σ S1 H1 ρ1 → Post K adr cls W (f a ρ1) S H ρ σ k → k' a S1 H1 ρ1) : Post K adr cls W o S H ρ σ k' := by
  cases o with
  | none => exact h
  | some z => cases z with
    | ex x ρ' => exact h
    | ok a ρ' => exact fun S' H' e => g a S' H' ρ' e h
theorem Post.seq {o : Ev α} {f : α → Env → Ev β} {k : β → Hp → Hp → Env → Prop} {k' : α → Hp → Hp → Env → Prop} (h : Post K adr cls W (bnd o f) S H ρ σ k) (x : Ext K adr S H ρ σ S1 H1 ρ1)
    (g : ∀ a S2 H2 ρ2, Ext K adr S H ρ σ S2 H2 ρ2 → Ext K adr S1 H1 ρ1 σ S2 H2 ρ2 → Post K adr cls W (f a ρ2) S H ρ σ k → k' a S2 H2 ρ2) : Post K adr cls W o S1 H1 ρ1 σ k' := by
  cases o with
  | none => exact h
  | some z => cases z with
    | ex x' ρ' => exact fun c d S' H' e => h c d S' H' (x.tr e)
    | ok a ρ' => exact fun S' H' e => g a S' H' ρ' (x.tr e) e h
theorem Post.later {o : Ev α} {k : α → Hp → Hp → Env → Prop} (h : Post K adr cls W o S H ρ σ k) (x : Ext K adr S H ρ σ S1 H1 ρ1) : Post K adr cls W o S1 H1 ρ1 σ k := by
  unfold Post at h ⊢
  split
  · exact h
  · exact fun S' H' e => h S' H' (x.tr e)
  · exact fun c d S' H' e => h c d S' H' (x.tr e)
theorem tE_later {C : Ctx} {e : E} {Q : VK} (p : Post K adr cls W (evE C e ρ1) S H ρ σ fun r S' H' ρ' => ∀ v, RR K adr H S' H' ρ' σ v r → Q v H') (x : Ext K adr S H ρ σ S1 H1 ρ1) : tE K adr cls W C e σ H1 Q :=
  ⟨S1, ρ1, x.rp, (p.later x).imp fun r S' H' ρ' _ f v h => f v (h.early x.th)⟩
theorem tT_later {C : Ctx} {e : E} {Q : Bool → Hp → Prop} (p : Post K adr cls W (evT C e ρ1) S H ρ σ fun b _ H' _ => Q b H') (x : Ext K adr S H ρ σ S1 H1 ρ1) : tT K adr cls W C e σ H1 Q := ⟨S1, ρ1, x.rp, p.later x⟩
theorem Post.end_ {a : α} {k : α → Hp → Hp → Env → Prop} (h : Post K adr cls W (some (.ok a ρ')) S H ρ σ k) (x : Ext K adr S H ρ σ S' H' ρ') : k a S' H' ρ' := h S' H' x
theorem Post.no {k : α → Hp → Hp → Env → Prop} {P : Prop} (h : Post K adr cls W (none : Ev α) S H ρ σ k) : P := False.elim h
/-- the last step grows the heap -/
theorem Post.fin {r : R} {Q : VK} (h : Post K adr cls W (some (.ok r ρ1)) S H ρ σ fun r S' H' ρ' => ∀ v, RR K adr H S' H' ρ' σ v r → Q v H') (x : Ext K adr S H ρ σ S1 H1 ρ1) : FinR K adr S1 H1 r Q := fun v S' H' g n =>
  h S' H' (x.tr (.grow x.rp g)) v ((NR.rr x.rp n).early x.th)
theorem RRs.step {vs : List V} {rs : List R} (q : Ext K adr S H ρ σ S' H' ρ') : RRs K adr H0 S H ρ σ vs rs → RRs K adr H0 S' H' ρ' σ vs rs
  | .nil => .nil
  | .cons h t nd => .cons (h.step q) (RRs.step q t) nd
theorem RRs.early {vs : List V} {rs : List R} (t : ∀ a o, H0 a = some o → ∃ o', H1 a = some o') : RRs K adr H1 S H ρ σ vs rs → RRs K adr H0 S H ρ σ vs rs
  | .nil => .nil
  | .cons h r nd => .cons (h.early t) (RRs.early t r) nd
inductive RHs (K : PySem.W.Frag) (adr : Nat → Addr) (S H : Hp) : List V → List D → Prop
  | nil : RHs K adr S H [] []
  | cons {v : V} {d : D} {vs : List V} {ds : List D} (h : RH K adr S H v d) (t : RHs K adr S H vs ds) : RHs K adr S H (v :: vs) (d :: ds)
theorem RRs.pks (rp : Rep K adr S H ρ σ) : ∀ {vs : List V} {rs : List R} {ds : List D}, RRs K adr H0 S H ρ σ vs rs → Vi.pks ρ rs = some ds → RHs K adr S H vs ds
  | _, _, _, .nil, e => by
    cases e
    exact .nil
  | _, _, ds, .cons (r := r) (rs := rs) h t _, e => by
    unfold Vi.pks at e
    cases e1 : Vi.pk ρ r with
    | none =>
      rw [e1] at e
      cases e
    | some d =>
      rw [e1] at e
      cases e2 : Vi.pks ρ rs with
      | none =>
        rw [e2] at e
        cases e
      | some ds' =>
        rw [e2] at e
        cases e
        exact .cons (h.pk rp e1) (RRs.pks rp t e2)
theorem peek_some {r : R} {k : D → Ev R} {kk : R → Hp → Hp → Env → Prop} (h : Post K adr cls W (peek ρ1 r k) S H ρ σ kk) : ∃ d, Vi.pk ρ1 r = some d ∧ Post K adr cls W (k d) S H ρ σ kk := by
  unfold peek at h
  split at h
  · exact ⟨_, by assumption, h⟩
  · exact h.no
theorem peeks_some {rs : List R} {k : List D → Ev R} {kk : R → Hp → Hp → Env → Prop} (h : Post K adr cls W (peeks ρ1 rs k) S H ρ σ kk) : ∃ ds, Vi.pks ρ1 rs = some ds ∧ Post K adr cls W (k ds) S H ρ σ kk := by
  unfold peeks at h
  split at h
  · exact ⟨_, by assumption, h⟩
  · exact h.no
theorem liftR_some {o : Option R} {kk : R → Hp → Hp → Env → Prop} (h : Post K adr cls W (liftR ρ1 o) S H ρ σ kk) : ∃ r, o = some r ∧ Post K adr cls W (some (.ok r ρ1)) S H ρ σ kk := by
  cases o with
  | none => exact h.no
  | some r => exact ⟨r, rfl, h⟩
theorem tru_some {r : R} {k : Bool → Ev R} {kk : R → Hp → Hp → Env → Prop} (h : Post K adr cls W (tru ρ1 r k) S H ρ σ kk) : ∃ d b, Vi.pk ρ1 r = some d ∧ truth d = some b ∧ Post K adr cls W (k b) S H ρ σ kk := by
  unfold tru at h
  split at h
  · split at h
    · exact ⟨_, _, by assumption, by assumption, h⟩
    · exact h.no
  · exact h.no
theorem truV {v : V} {d : D} {b : Bool} (l : Le S H) (h : RH K adr S H v d) (e : truth d = some b) : TruV K v H b := by
  cases d with
  | non =>
    rw [h.non]
    cases e
    rfl
  | bl c =>
    rw [h.bl]
    cases e
    rfl
  | int i =>
    rw [h.int]
    cases e
    rfl
  | lst xs =>
    obtain ⟨a, vs, rfl, ha, r⟩ := h.lst l
    cases e
    exact .inl ⟨vs, .inl (.inl ha), by rw [r.emp]⟩
  | tup xs =>
    obtain ⟨a, vs, rfl, ha, r⟩ := h.tup l
    cases e
    exact .inr (.inl ⟨vs, ha, by rw [r.emp]⟩)
  | _ => cases e
theorem PE.imp {X : Cx} {e : Expr} {t u : TE} (h : PE X e t) (f : ∀ σ H Q, u σ H Q → t σ H Q) : PE X e u := ⟨fun pins s σ H Q I q => h.run pins s σ H Q I (f σ H Q q)⟩
theorem PT.imp {X : Cx} {e : Expr} {t u : TT} (h : PT X e t) (f : ∀ σ H Q, u σ H Q → t σ H Q) : PT X e u := ⟨fun pins s σ H Q I q => h.run pins s σ H Q I (f σ H Q q)⟩
theorem PW.imp {X : Cx} {e : Expr} {t u : TT} (h : PW X e t) (f : ∀ σ H Q, u σ H Q → t σ H Q) : PW X e u := ⟨fun w pins s σ H Q I q => h.run w pins s σ H Q I (f σ H Q q)⟩
theorem PA.imp {X : Cx} {e : List Expr} {t u : TA} (h : PA X e t) (f : ∀ σ H Q, u σ H Q → t σ H Q) : PA X e u := ⟨fun p pins s σ H Q I q => h.run p pins s σ H Q I (f σ H Q q)⟩
end
section
variable {X : Cx} {adr cls : Nat → Addr} {W : WX} {C : Ctx} {a b c : Expr} {ea eb ec : E} {pos : Pos}
theorem e_var {i : Nat} (h : PE X a (tVar i)) : PE X a (tE X.K adr cls W C (.var i)) := PE.imp h fun σ H Q q => by
  obtain ⟨S, ρ, rp, p⟩ := q
  unfold evE at p
  split at p
  · obtain ⟨v, e, r⟩ := rp.sh i _ (by assumption)
    exact ⟨v, e, p.end_ (.rf rp) v r⟩
  · obtain ⟨a, vs, e, _⟩ := rp.ow i _ (by assumption)
    exact ⟨_, e, p.end_ (.rf rp) _ ⟨e, _, by assumption⟩⟩
  · exact p.no
theorem e_lit {d : D} {v : V} (h : PE X a (tC v)) (r : ∀ S, RV X.K adr S v d) : PE X a (tE X.K adr cls W C (.lit d)) := PE.imp h fun σ H Q q => by
  obtain ⟨S, ρ, rp, p⟩ := q
  exact p.end_ (.rf rp) v (r S)
theorem e_glb {d : D} {x : Str} {v : V} (h : PE X a (tC v)) (r : ∀ S, RV X.K adr S v d) : PE X a (tE X.K adr cls W C (.glb x d)) := PE.imp h fun σ H Q q => by
  obtain ⟨S, ρ, rp, p⟩ := q
  exact p.end_ (.rf rp) v (r S)
theorem e_fnv {f : Nat} (h : PE X a (tC (.ref (adr f)))) : PE X a (tE X.K adr cls W C (.fnv f)) := PE.imp h fun σ H Q q => by
  obtain ⟨S, ρ, rp, p⟩ := q
  exact p.end_ (.rf rp) _ (.fn f)
/-- two operands, one after the other -/
theorem two_ops {o : Op} {σ : L2.St} {H : Hp} {Q : VK} (q : tE X.K adr cls W C (.op o ea eb) σ H Q) : tOp (tO X.K adr o) (tE X.K adr cls W C ea) (tE X.K adr cls W C eb) σ H Q := by
  obtain ⟨S, ρ, rp, p⟩ := q
  unfold evE at p
  refine ⟨S, ρ, rp, p.first fun r1 S1 H1 ρ1 x1 p1 v1 h1 => ⟨S1, ρ1, x1.rp, p1.seq x1 fun r2 S2 H2 ρ2 x2 y2 p2 v2 h2 => ?_⟩⟩
  obtain ⟨d1, e1, p3⟩ := peek_some p2
  obtain ⟨d2, e2, p4⟩ := peek_some p3
  obtain ⟨r, e3, p5⟩ := liftR_some p4
  exact ⟨S2, d1, d2, r, x2.rp.sub, (h1.step y2).pk x2.rp e1, h2.pk x2.rp e2, e3, p5.fin x2⟩
theorem e_bin {o : Op} {op : Operator} (ho : OpR X (binaryOp op) (tO X.K adr o)) (ha : PE X a (tE X.K adr cls W C ea)) (hb : PE X b (tE X.K adr cls W C eb)) : PE X (.BinOp a op b pos) (tE X.K adr cls W C (.op o ea eb)) :=
  PE.imp (pe_op ho ha hb) fun _ _ _ q => two_ops q
theorem e_cmp {o : Op} {op : CmpOp} (ho : OpR X (compareOp op) (tO X.K adr o)) (ha : PE X a (tE X.K adr cls W C ea)) (hb : PE X b (tE X.K adr cls W C eb)) (hm : behindInMarks op b = false) : PE X (.Compare a [op] [b] pos) (tE X.K adr cls W C (.op o ea eb)) :=
  PE.imp (pe_cmpR ho ha hb hm) fun _ _ _ q => two_ops q
theorem e_ix (ha : PE X a (tE X.K adr cls W C ea)) (hb : PE X b (tE X.K adr cls W C eb)) (hs : PlainIx b) : PE X (.Subscript a b pos) (tE X.K adr cls W C (.op .ix ea eb)) :=
  PE.imp (pe_ix ix_V ha hb hs) fun _ _ _ q => two_ops q
/-- a test, by the value -/
theorem tT_val {σ : L2.St} {H : Hp} {Q : Bool → Hp → Prop} (q : tT X.K adr cls W C ea σ H Q) : tE X.K adr cls W C ea σ H fun x H' => ∃ k, TruV X.K x H' k ∧ Q k H' := by
  obtain ⟨S, ρ, rp, p⟩ := q
  unfold evT at p
  refine ⟨S, ρ, rp, p.first fun r S1 H1 ρ1 x1 p1 v h => ?_⟩
  split at p1
  · split at p1
    · exact ⟨_, truV x1.rp.sub (h.pk x1.rp (by assumption)) (by assumption), p1.end_ x1⟩
    · exact p1.no
  · exact p1.no
theorem t_plain (ha : PE X a (tE X.K adr cls W C ea)) (he : ∀ whole, isTrue a X.env whole = (do let v ← whole; standAt a.pos; holding [v] (truthy v))) : PT X a (tT X.K adr cls W C ea) :=
  PT.imp (pt_truth ha he) fun _ _ _ q => tT_val q
/-- what a comparison gives is a bool -/
theorem cmp_bl {o : Op} {d1 d2 : D} {r : R} (hb : o = .eq ∨ o = .ne ∨ o = .lt ∨ o = .le ∨ o = .gt ∨ o = .ge ∨ o = .isin ∨ o = .notin) (e : evOp o d1 d2 = some r) : ∃ k, r = .v (.bl k) := by
  have fin : ∀ {c : Bool} {k : Bool}, (if c = true then some (R.v (.bl k)) else none) = some r → ∃ k, r = .v (.bl k) := fun {c k} z => ⟨k, (ifSome z).2⟩
  rcases hb with rfl | rfl | rfl | rfl | rfl | rfl | rfl | rfl
  · exact fin (c := D.ok deep d1 && D.ok deep d2) (k := D.eqv d1 d2) e
  · exact fin (c := D.ok deep d1 && D.ok deep d2) (k := !D.eqv d1 d2) e
  · cases d1 <;> cases d2 <;> first
      | cases (show (none : Option R) = some r from e)
      | exact ⟨_, (Option.some.inj (show some (R.v (.bl _)) = some r from e)).symm⟩
      | skip
    rename_i xs ys
    have e' : (match dInts xs, dInts ys with
      | some is, some js => some (R.v (.bl (HT.lexLt is js)))
      | _, _ => none) = some r := e
    split at e'
    · exact ⟨_, (Option.some.inj e').symm⟩
    · cases e'
  · cases d1 <;> cases d2 <;> first
      | cases (show (none : Option R) = some r from e)
      | exact ⟨_, (Option.some.inj (show some (R.v (.bl _)) = some r from e)).symm⟩
  · cases d1 <;> cases d2 <;> first
      | cases (show (none : Option R) = some r from e)
      | exact ⟨_, (Option.some.inj (show some (R.v (.bl _)) = some r from e)).symm⟩
  · cases d1 <;> cases d2 <;> first
      | cases (show (none : Option R) = some r from e)
      | exact ⟨_, (Option.some.inj (show some (R.v (.bl _)) = some r from e)).symm⟩
  · cases d2 with
    | lst xs => exact fin (c := D.ok deep d1 && D.ok deep (.lst xs)) (k := isIn d1 xs) (by cases d1 <;> exact e)
    | tup xs => exact fin (c := D.ok deep d1 && D.ok deep (.tup xs)) (k := isIn d1 xs) (by cases d1 <;> exact e)
    | _ => cases d1 <;> cases (show (none : Option R) = some r from e)
  · cases d2 with
    | lst xs => exact fin (c := D.ok deep d1 && D.ok deep (.lst xs)) (k := !isIn d1 xs) (by cases d1 <;> exact e)
    | tup xs => exact fin (c := D.ok deep d1 && D.ok deep (.tup xs)) (k := !isIn d1 xs) (by cases d1 <;> exact e)
    | _ => cases d1 <;> cases (show (none : Option R) = some r from e)
abbrev isCmp (o : Op) : Prop := o = .eq ∨ o = .ne ∨ o = .lt ∨ o = .le ∨ o = .gt ∨ o = .ge ∨ o = .isin ∨ o = .notin
theorem bnd_assoc {α β γ : Type} (o : Ev α) (f : α → Env → Ev β) (g : β → Env → Ev γ) : bnd (bnd o f) g = bnd o fun a ρ => bnd (f a ρ) g := by
  cases o with
  | none => rfl
  | some z => cases z <;> rfl
theorem two_tests {o : Op} {σ : L2.St} {H : Hp} {Q : Bool → Hp → Prop} (hb' : isCmp o) (q : tT X.K adr cls W C (.op o ea eb) σ H Q) : tOp (tO X.K adr o) (tE X.K adr cls W C ea) (tE X.K adr cls W C eb) σ H fun x H' => ∃ k, x = .bl k ∧ Q k H' := by
  obtain ⟨S, ρ, rp, p⟩ := q
  unfold evT evE at p
  rw [bnd_assoc] at p
  refine ⟨S, ρ, rp, p.first fun r1 S1 H1 ρ1 x1 p1 v1 h1 => ?_⟩
  rw [bnd_assoc] at p1
  refine ⟨S1, ρ1, x1.rp, p1.seq x1 fun r2 S2 H2 ρ2 x2 y2 p2 v2 h2 => ?_⟩
  cases e1 : Vi.pk ρ2 r1 with
  | none =>
    unfold peek at p2
    rw [e1] at p2
    exact p2.no
  | some d1 =>
    cases e2 : Vi.pk ρ2 r2 with
    | none =>
      unfold peek at p2
      rw [e1, e2] at p2
      exact p2.no
    | some d2 =>
      unfold peek at p2
      rw [e1, e2] at p2
      cases e3 : evOp o d1 d2 with
      | none =>
        simp only [e3] at p2
        exact p2.no
      | some r =>
        simp only [e3] at p2
        obtain ⟨k, rfl⟩ := cmp_bl hb' e3
        refine ⟨S2, d1, d2, _, x2.rp.sub, (h1.step y2).pk x2.rp e1, h2.pk x2.rp e2, e3, fun v S' H' g n => ⟨k, ?_, ?_⟩⟩
        · cases n
          rfl
        · exact p2.end_ (x2.tr (.grow x2.rp g))
theorem t_cmp {o : Op} {op : CmpOp} (hb' : isCmp o) (ho : OpR X (compareOp op) (tO X.K adr o)) (ha : PE X a (tE X.K adr cls W C ea)) (hb : PE X b (tE X.K adr cls W C eb)) (hm : behindInMarks op b = false) : PT X (.Compare a [op] [b] pos) (tT X.K adr cls W C (.op o ea eb)) :=
  PT.imp (pt_cmpR ho ha hb hm) fun σ H Q q => two_tests hb' q
/-! ### not, and, or, if else -/
theorem e_not (ha : PE X a (tE X.K adr cls W C ea)) : PE X (.UnaryOp .Not a pos) (tE X.K adr cls W C (.not ea)) := PE.imp (pe_notT ha) fun σ H Q q => by
  obtain ⟨S, ρ, rp, p⟩ := q
  unfold evE at p
  refine ⟨S, ρ, rp, p.first fun r S1 H1 ρ1 x1 p1 v h => ?_⟩
  obtain ⟨d, k, e1, e2, p2⟩ := tru_some p1
  exact ⟨k, truV x1.rp.sub (h.pk x1.rp e1) e2, p2.end_ x1 _ (.bl _)⟩
theorem t_not (ha : PT X a (tT X.K adr cls W C ea)) : PT X (.UnaryOp .Not a pos) (tT X.K adr cls W C (.not ea)) := PT.imp (pt_not ha) fun σ H Q q => by
  obtain ⟨S, ρ, rp, p⟩ := q
  unfold evT evE at p
  rw [bnd_assoc] at p
  refine ⟨S, ρ, rp, ?_⟩
  unfold evT
  cases e : evE C ea ρ with
  | none =>
    rw [e] at p
    exact p.no
  | some z => cases z with
    | ex x ρ' =>
      rw [e] at p
      exact p
    | ok r ρ' =>
      rw [e] at p
      simp only [bnd] at p ⊢
      unfold tru at p
      split
      · rename_i d ed
        rw [ed] at p
        simp only at p
        split
        · rename_i k ek
          rw [ek] at p
          exact fun S' H' x => p.end_ x
        · rename_i ek
          rw [ek] at p
          exact p.no
      · rename_i ed
        rw [ed] at p
        exact p.no
/-- the test of a, then what follows -/
theorem tT_of {f : Bool → Env → Ev β} {σ : L2.St} {H S : Hp} {ρ : Env} {k : β → Hp → Hp → Env → Prop} {k' : Bool → Hp → Hp → Env → Prop}
    (p : Post X.K adr cls W (bnd (evE C ea ρ) fun r ρ1 => match Vi.pk ρ1 r with
      | some d => (match truth d with
        | some b => f b ρ1
        | none => none)
      | none => none) S H ρ σ k)
    (g : ∀ b S1 H1 ρ1, Ext X.K adr S H ρ σ S1 H1 ρ1 → Post X.K adr cls W (f b ρ1) S H ρ σ k → k' b S1 H1 ρ1) : Post X.K adr cls W (evT C ea ρ) S H ρ σ k' := by
  unfold evT
  cases e : evE C ea ρ with
  | none =>
    rw [e] at p
    exact p.no
  | some z => cases z with
    | ex x ρ' =>
      rw [e] at p
      exact p
    | ok r ρ' =>
      rw [e] at p
      simp only [bnd] at p ⊢
      split
      · rename_i d ed
        rw [ed] at p
        simp only at p
        split
        · rename_i b eb
          rw [eb] at p
          exact fun S' H' x => g b S' H' ρ' x p
        · rename_i eb
          rw [eb] at p
          exact p.no
      · rename_i ed
        rw [ed] at p
        exact p.no
theorem e_ite {x : Expr} {ex : E} (hx : PT X x (tT X.K adr cls W C ex)) (ha : PE X a (tE X.K adr cls W C ea)) (hb : PE X b (tE X.K adr cls W C eb)) : PE X (.IfExp x a b pos) (tE X.K adr cls W C (.ite ex ea eb)) :=
  PE.imp (pe_ifExp hx ha hb) fun σ H Q q => by
    obtain ⟨S, ρ, rp, p⟩ := q
    unfold evE at p
    refine ⟨S, ρ, rp, tT_of (f := fun t ρ1 => if t = true then evE C ea ρ1 else evE C eb ρ1) (by unfold tru at p; exact p) fun t S1 H1 ρ1 x1 p1 => ?_⟩
    cases t with
    | true => exact tE_later p1 x1
    | false => exact tE_later p1 x1
theorem e_and {rest : List Expr} (ha : PE X a (tE X.K adr cls W C ea)) (hb : PE X (.BoolOp .And (b :: rest) pos) (tE X.K adr cls W C eb)) : PE X (.BoolOp .And (a :: b :: rest) pos) (tE X.K adr cls W C (.and ea eb)) :=
  PE.imp (pe_andT ha hb) fun σ H Q q => by
    obtain ⟨S, ρ, rp, p⟩ := q
    unfold evE at p
    refine ⟨S, ρ, rp, p.first fun r S1 H1 ρ1 x1 p1 v h => ?_⟩
    obtain ⟨d, k, e1, e2, p2⟩ := tru_some p1
    refine ⟨k, truV x1.rp.sub (h.pk x1.rp e1) e2, ?_⟩
    cases k with
    | true => exact tE_later p2 x1
    | false => exact p2.end_ x1 v h
theorem e_or {rest : List Expr} (ha : PE X a (tE X.K adr cls W C ea)) (hb : PE X (.BoolOp .Or (b :: rest) pos) (tE X.K adr cls W C eb)) : PE X (.BoolOp .Or (a :: b :: rest) pos) (tE X.K adr cls W C (.or ea eb)) :=
  PE.imp (pe_orT ha hb) fun σ H Q q => by
    obtain ⟨S, ρ, rp, p⟩ := q
    unfold evE at p
    refine ⟨S, ρ, rp, p.first fun r S1 H1 ρ1 x1 p1 v h => ?_⟩
    obtain ⟨d, k, e1, e2, p2⟩ := tru_some p1
    refine ⟨k, truV x1.rp.sub (h.pk x1.rp e1) e2, ?_⟩
    cases k with
    | true => exact p2.end_ x1 v h
    | false => exact tE_later p2 x1
theorem evT_and (ρ : Env) : evT C (.and ea eb) ρ = bnd (evT C ea ρ) fun t ρ1 => if t = true then evT C eb ρ1 else some (.ok false ρ1) := by
  unfold evT
  rw [evE]
  cases evE C ea ρ with
  | none => rfl
  | some z => cases z with
    | ex x ρ1 => rfl
    | ok r ρ1 =>
      simp only [bnd, tru]
      cases e1 : Vi.pk ρ1 r with
      | none => rfl
      | some d =>
        simp only
        cases e2 : truth d with
        | none => rfl
        | some t => cases t with
          | true => rfl
          | false => simp [e1, e2]
theorem evT_or (ρ : Env) : evT C (.or ea eb) ρ = bnd (evT C ea ρ) fun t ρ1 => if t = true then some (.ok true ρ1) else evT C eb ρ1 := by
  unfold evT
  rw [evE]
  cases evE C ea ρ with
  | none => rfl
  | some z => cases z with
    | ex x ρ1 => rfl
    | ok r ρ1 =>
      simp only [bnd, tru]
      cases e1 : Vi.pk ρ1 r with
      | none => rfl
      | some d =>
        simp only
        cases e2 : truth d with
        | none => rfl
        | some t => cases t with
          | true => simp [e1, e2]
          | false => rfl
theorem w_and {rest : List Expr} (ha : PT X a (tT X.K adr cls W C ea)) (hb : PW X (.BoolOp .And (b :: rest) pos) (tT X.K adr cls W C eb)) : PW X (.BoolOp .And (a :: b :: rest) pos) (tT X.K adr cls W C (.and ea eb)) :=
  PW.imp (pw_and ha hb) fun σ H Q q => by
    obtain ⟨S, ρ, rp, p⟩ := q
    rw [evT_and] at p
    refine ⟨S, ρ, rp, p.first fun t S1 H1 ρ1 x1 p1 => ?_⟩
    cases t with
    | true =>
      rw [if_pos rfl]
      exact tT_later p1 x1
    | false =>
      rw [if_neg Bool.false_ne_true]
      exact p1.end_ x1
theorem w_or {rest : List Expr} (ha : PT X a (tT X.K adr cls W C ea)) (hb : PW X (.BoolOp .Or (b :: rest) pos) (tT X.K adr cls W C eb)) : PW X (.BoolOp .Or (a :: b :: rest) pos) (tT X.K adr cls W C (.or ea eb)) :=
  PW.imp (pw_or ha hb) fun σ H Q q => by
    obtain ⟨S, ρ, rp, p⟩ := q
    rw [evT_or] at p
    refine ⟨S, ρ, rp, p.first fun t S1 H1 ρ1 x1 p1 => ?_⟩
    cases t with
    | true =>
      rw [if_pos rfl]
      exact p1.end_ x1
    | false =>
      rw [if_neg Bool.false_ne_true]
      exact tT_later p1 x1
/-! ### is None, -a -/
theorem v_non {S H : Hp} {v : V} {d : D} (h : RH X.K adr S H v d) : decide (v = .non) = (match d with
    | .non => true
    | _ => false) := by
  rcases h with h | ⟨a, vs, xs, rfl, rfl, _, _⟩
  · cases h <;> simp
  · simp
theorem e_isN {no : Bool} (ha : PE X a (tE X.K adr cls W C ea)) {j p2} : PE X (.Compare a [if no then .IsNot else .Is] [.Constant .none j p2] pos) (tE X.K adr cls W C (.isN ea no)) := by
  have key : ∀ σ H Q, tE X.K adr cls W C (.isN ea no) σ H Q → tE X.K adr cls W C ea σ H fun x H1 => Q (.bl (if no then !decide (x = .non) else decide (x = .non))) H1 := fun σ H Q q => by
    obtain ⟨S, ρ, rp, p⟩ := q
    unfold evE at p
    refine ⟨S, ρ, rp, p.first fun r S1 H1 ρ1 x1 p1 v h => ?_⟩
    obtain ⟨d, e1, p2⟩ := peek_some p1
    have z := v_non (X := X) (h.pk x1.rp e1)
    rw [z]
    cases d <;> (simp only at p2 ⊢; cases no <;> exact p2.end_ x1 _ (.bl _))
  cases no with
  | false => exact PE.imp (pe_cmp (pc_isN ha)) fun σ H Q q => key σ H Q q
  | true => exact PE.imp (pe_cmp (pc_notN ha)) fun σ H Q q => key σ H Q q
theorem e_neg (ha : PE X a (tE X.K adr cls W C ea)) : PE X (.UnaryOp .USub a pos) (tE X.K adr cls W C (.neg ea)) := PE.imp (pe_un un_neg ha) fun σ H Q q => by
  obtain ⟨S, ρ, rp, p⟩ := q
  unfold evE at p
  refine ⟨S, ρ, rp, p.first fun r S1 H1 ρ1 x1 p1 v h => ?_⟩
  obtain ⟨d, e1, p2⟩ := peek_some p1
  split at p2
  · exact ⟨_, (h.pk x1.rp e1).int, p2.end_ x1 _ (.int _)⟩
  · exact p2.no
/-! ### chains -/
theorem chain_ops {o1 o2 : Op} {σ : L2.St} {H : Hp} {Q : VK} (q : tE X.K adr cls W C (.chain o1 o2 ea eb ec) σ H Q) : tChain (tO X.K adr o1) (tO X.K adr o2) (tE X.K adr cls W C ea) (tE X.K adr cls W C eb) (tE X.K adr cls W C ec) σ H Q := by
  obtain ⟨S, ρ, rp, p⟩ := q
  unfold evE at p
  refine ⟨S, ρ, rp, p.first fun r1 S1 H1 ρ1 x1 p1 v1 h1 => ⟨S1, ρ1, x1.rp, p1.seq x1 fun r2 S2 H2 ρ2 x2 y2 p2 v2 h2 => ?_⟩⟩
  split at p2
  · rename_i d1 d2
    have g1 : RV X.K adr S2 v1 d1 := RV.mono y2.s h1
    split at p2
    · rename_i e3
      refine ⟨S2, d1, d2, _, x2.rp.sub, .inl g1, .inl h2, e3, fun v S' H' g n => ?_⟩
      cases n
      refine ⟨true, rfl, ?_⟩
      rw [if_pos rfl]
      have x3 := x2.tr (.grow x2.rp g)
      refine ⟨S', ρ2, x3.rp, p2.seq x3 fun r3 S4 H4 ρ4 x4 y4 p4 v3 h3 => ?_⟩
      split at p4
      · rename_i d3
        obtain ⟨r, e5, p5⟩ := liftR_some p4
        exact ⟨S4, d2, d3, r, x4.rp.sub, .inl ((RV.mono g.s h2).mono y4.s), .inl h3, e5, p5.fin x4⟩
      · exact p4.no
    · rename_i e3
      refine ⟨S2, d1, d2, _, x2.rp.sub, .inl g1, .inl h2, e3, fun v S' H' g n => ?_⟩
      cases n
      refine ⟨false, rfl, ?_⟩
      rw [if_neg Bool.false_ne_true]
      exact p2.end_ (x2.tr (.grow x2.rp g)) _ (.bl _)
    · exact p2.no
  · exact p2.no
theorem e_chain {o1 o2 : Op} {op1 op2 : CmpOp} (k1 : OpR X (compareOp op1) (tO X.K adr o1)) (k2 : OpR X (compareOp op2) (tO X.K adr o2)) (ha : PE X a (tE X.K adr cls W C ea)) (hb : PE X b (tE X.K adr cls W C eb)) (hc : PE X c (tE X.K adr cls W C ec))
    (hm : lastMarks [op1, op2] [b, c] = false) : PE X (.Compare a [op1, op2] [b, c] pos) (tE X.K adr cls W C (.chain o1 o2 ea eb ec)) :=
  PE.imp (pe_chain k1 k2 ha hb hc hm) fun _ _ _ q => chain_ops q
/-- an expression that gives a bool, as a test -/
theorem tT_bool {σ : L2.St} {H : Hp} {Q : Bool → Hp → Prop} (hb : ∀ ρ r ρ', evE C ea ρ = some (.ok r ρ') → ∃ k, r = .v (.bl k)) (q : tT X.K adr cls W C ea σ H Q) : tE X.K adr cls W C ea σ H fun x H' => ∃ k, x = .bl k ∧ Q k H' := by
  obtain ⟨S, ρ, rp, p⟩ := q
  refine ⟨S, ρ, rp, ?_⟩
  unfold evT at p
  cases e : evE C ea ρ with
  | none =>
    rw [e] at p
    exact p.no
  | some z => cases z with
    | ex x ρ' =>
      rw [e] at p
      exact p
    | ok r ρ' =>
      obtain ⟨k, rfl⟩ := hb ρ r ρ' e
      rw [e] at p
      intro S' H' x v h
      have p' : Post X.K adr cls W (some (.ok k ρ')) S H ρ σ fun b _ H' _ => Q b H' := p
      cases h
      exact ⟨k, rfl, p'.end_ x⟩
theorem bnd_ok {α β : Type} {o : Ev α} {f : α → Vi.Env → Ev β} {b : β} {ρ' : Vi.Env} (e : bnd o f = some (.ok b ρ')) : ∃ a ρ1, o = some (.ok a ρ1) ∧ f a ρ1 = some (.ok b ρ') := by
  cases o with
  | none => cases e
  | some z => cases z with
    | ex x ρ1 => cases e
    | ok a ρ1 => exact ⟨a, ρ1, rfl, e⟩
theorem t_chain {o1 o2 : Op} {op1 op2 : CmpOp} (hb' : isCmp o2) (k1 : OpR X (compareOp op1) (tO X.K adr o1)) (k2 : OpR X (compareOp op2) (tO X.K adr o2)) (ha : PE X a (tE X.K adr cls W C ea)) (hb : PE X b (tE X.K adr cls W C eb)) (hc : PE X c (tE X.K adr cls W C ec))
    (hm : lastMarks [op1, op2] [b, c] = false) : PT X (.Compare a [op1, op2] [b, c] pos) (tT X.K adr cls W C (.chain o1 o2 ea eb ec)) :=
  PT.imp (pt_chain k1 k2 ha hb hc hm) fun σ H Q q => chain_ops (tT_bool (fun ρ r ρ' e => by
    unfold evE at e
    obtain ⟨r1, ρ1, q1, e⟩ := bnd_ok e
    obtain ⟨r2, ρ2, q2, e⟩ := bnd_ok e
    cases r1 with
    | v d1 =>
      cases r2 with
      | v d2 =>
        simp only at e
        split at e
        · obtain ⟨r3, ρ3, q3, e⟩ := bnd_ok e
          cases r3 with
          | v d3 =>
            have e' : liftR ρ3 (evOp o2 d2 d3) = some (.ok r ρ') := e
            cases e5 : evOp o2 d2 d3 with
            | none =>
              rw [e5] at e'
              cases e'
            | some z =>
              rw [e5] at e'
              cases e'
              exact cmp_bl hb' e5
          | _ => cases e
        · cases e
          exact ⟨false, rfl⟩
        · cases e
      | _ => cases e
    | _ => cases e) q)
theorem isN_ops {no : Bool} {σ : L2.St} {H : Hp} {Q : VK} (q : tE X.K adr cls W C (.isN ea no) σ H Q) : tE X.K adr cls W C ea σ H fun x H1 => Q (.bl (if no then !decide (x = .non) else decide (x = .non))) H1 := by
  obtain ⟨S, ρ, rp, p⟩ := q
  unfold evE at p
  refine ⟨S, ρ, rp, p.first fun r S1 H1 ρ1 x1 p1 v h => ?_⟩
  obtain ⟨d, e1, p2⟩ := peek_some p1
  have z := v_non (X := X) (h.pk x1.rp e1)
  rw [z]
  cases d <;> (simp only at p2 ⊢; cases no <;> exact p2.end_ x1 _ (.bl _))
theorem t_isN {no : Bool} (ha : PE X a (tE X.K adr cls W C ea)) {j p2} : PT X (.Compare a [if no then .IsNot else .Is] [.Constant .none j p2] pos) (tT X.K adr cls W C (.isN ea no)) := by
  have hb : ∀ ρ r ρ', evE C (.isN ea no) ρ = some (.ok r ρ') → ∃ k, r = .v (.bl k) := fun ρ r ρ' e => by
    unfold evE at e
    obtain ⟨r1, ρ1, _, e⟩ := bnd_ok e
    unfold peek at e
    cases ed : pk ρ1 r1 with
    | none =>
      rw [ed] at e
      cases e
    | some d =>
      rw [ed] at e
      cases d <;> (cases e; exact ⟨_, rfl⟩)
  cases no with
  | false => exact PT.imp (pt_cmp (pc_isN ha)) fun σ H Q q => isN_ops (tT_bool hb q)
  | true => exact PT.imp (pt_cmp (pc_notN ha)) fun σ H Q q => isN_ops (tT_bool hb q)
end
end Vi
set_option Elab.async false
set_option linter.all false
set_option maxRecDepth 100000
set_option maxHeartbeats 4000000
/-! Vi, part F: displays, built-ins, slices. -/
namespace Vi
open PySem PySem.Spec PyProof.Rows L2
section
variable {K : PySem.W.Frag} {adr cls : Nat → Addr} {W : WX} {S H S' H' S1 H1 S2 H2 H0 : Hp} {ρ ρ' ρ1 ρ2 : Env} {σ : L2.St} {α β : Type}
theorem RRs.esc : ∀ {vs : List V} {rs : List R} {ds : List D} {S : Hp} {ρ ρ' : Env}, Rep K adr S H ρ σ → RRs K adr H0 S H ρ σ vs rs → escs ρ rs = some (ds, ρ') → ∃ S', Shr K adr H0 S H ρ σ S' ρ' ∧ RVs K adr S' vs ds
  | _, _, _, S, _, _, rp, .nil, e => by
    cases e
    exact ⟨S, .rf rp, .nil⟩
  | _, _, ds, S, ρ, ρ', rp, .cons (v := v) (r := r) (vs := vs) (rs := rs) h t nd, e => by
    unfold escs at e
    cases e1 : Vi.esc ρ r with
    | none =>
      rw [e1] at e
      cases e
    | some p =>
      obtain ⟨d, ρ1⟩ := p
      rw [e1] at e
      simp only at e
      cases e2 : escs ρ1 rs with
      | none =>
        rw [e2] at e
        cases e
      | some p2 =>
        obtain ⟨ds', ρ2⟩ := p2
        rw [e2] at e
        cases e
        obtain ⟨Sa, q, rv, f⟩ := h.esc rp e1
        have all : ∀ {vs : List V} {rs : List R}, RRs K adr H0 S H ρ σ vs rs → (isNw r = true → ∀ (i : Nat) w u, vs[i]? = some w → rs[i]? = some u → isNw u = true → w ≠ v) → RRs K adr H0 Sa H ρ1 σ vs rs := by
          intro vs rs t
          induction t with
          | nil => exact fun _ => .nil
          | cons h' t' nd' ih => exact fun nd => .cons (h'.beside q f fun a b => nd a 0 _ _ rfl rfl b) (ih fun a i w u b c => nd a (i + 1) w u (by simpa using b) (by simpa using c)) nd'
        obtain ⟨Sb, q2, rvs⟩ := RRs.esc q.rp (all t nd) e2
        exact ⟨Sb, q.tr q2, .cons (rv.mono q2.s) rvs⟩
end
section
variable {X : Cx} {adr cls : Nat → Addr} {W : WX} {C : Ctx} {a b c : Expr} {as : List Expr} {ea eb ec : E} {es : Es} {pos : Pos}
theorem es_nil : PA X [] (tEs X.K adr cls W C .nil) := PA.imp pa_nil fun σ H Q q => by
  obtain ⟨S, ρ, rp, p⟩ := q
  exact p.end_ (.rf rp) _ .nil
theorem es_cons (ha : PE X a (tE X.K adr cls W C ea)) (hr : PA X as (tEs X.K adr cls W C es)) (hs : starEach (a :: as) X.env = (false, eval a X.env) :: starEach as X.env) : PA X (a :: as) (tEs X.K adr cls W C (.cons ea es)) :=
  PA.imp (pa_cons ha hr hs) fun σ H Q q => by
    obtain ⟨S, ρ, rp, p⟩ := q
    unfold evEs at p
    refine ⟨S, ρ, rp, p.first fun r0 S1 H1 ρ1 x1 p1 v h => ⟨S1, ρ1, x1.rp, p1.seq x1 fun rs S2 H2 ρ2 x2 y2 p2 vs hs => ?_⟩⟩
    refine p2.end_ x2 (v :: vs) (.cons (h.step y2) (hs.early x1.th) fun k i w u e1 e2 e3 z => ?_)
    cases r0 with
    | nw xs =>
      obtain ⟨a', vs', rfl, hb, _⟩ := h
      have key : ∀ {vs : List V} {rs : List R}, RRs X.K adr H1 S2 H2 ρ2 σ vs rs → ∀ (i : Nat) w u, vs[i]? = some w → rs[i]? = some u → isNw u = true → ∃ b, w = .ref b ∧ H1 b = none := by
        intro vs rs t
        induction t with
        | nil => exact fun i w u e => by simp at e
        | @cons v' r' vs' rs' h' t' nd' ih =>
          intro i w u e1 e2 e3
          cases i with
          | zero =>
            simp at e1 e2
            subst e1 e2
            cases r' with
            | nw ys =>
              obtain ⟨b, ws, e, _, _, _, _, n⟩ := h'
              exact ⟨b, e, n⟩
            | _ => cases e3
          | succ i => exact ih i w u (by simpa using e1) (by simpa using e2) e3
      obtain ⟨b, rfl, n⟩ := key hs i w u e1 e2 e3
      cases z
      rw [hb] at n
      cases n
    | _ => cases k
theorem e_tup {j} (ha : PA X as (tEs X.K adr cls W C es)) : PE X (.Tuple as j pos) (tE X.K adr cls W C (.tup es)) := PE.imp (pe_tup ha) fun σ H Q q => by
  obtain ⟨S, ρ, rp, p⟩ := q
  unfold evE at p
  refine ⟨S, ρ, rp, p.first fun rs S1 H1 ρ1 x1 p1 vs hs => ?_⟩
  split at p1
  · rename_i ds ρ2 e
    obtain ⟨Sb, q, rv⟩ := hs.esc x1.rp e
    obtain ⟨r, e2, p2⟩ := liftR_some p1
    obtain ⟨rfl, hz⟩ := mkT_ok e2
    refine ⟨by rw [rv.len]; exact hz, fun t ht => ?_⟩
    exact (p2.fin (x1.shr q)).newT rfl q.rp.sub rv ht
  · exact p1.no
theorem e_lst (ha : PA X as (tEs X.K adr cls W C es)) : PE X (.List as pos) (tE X.K adr cls W C (.lst es)) := PE.imp (pe_lst ha) fun σ H Q q => by
  obtain ⟨S, ρ, rp, p⟩ := q
  unfold evE at p
  refine ⟨S, ρ, rp, p.first fun rs S1 H1 ρ1 x1 p1 vs hs => ?_⟩
  split at p1
  · rename_i ds ρ2 e
    obtain ⟨Sb, q, rv⟩ := hs.esc x1.rp e
    obtain ⟨r, e2, p2⟩ := liftR_some p1
    obtain ⟨rfl, hz⟩ := mkL_ok e2
    refine ⟨by rw [rv.len]; exact hz, fun t ht => ?_⟩
    exact (p2.fin (x1.shr q)).newL rfl q.rp.sub rv ht
  · exact p1.no
/-! ### built-ins by their values -/
def tP (K : PySem.W.Frag) (adr : Nat → Addr) (p : Pr) : List V → Hp → VK → Prop := fun vs H Q => ∃ S ds r, Le S H ∧ RHs K adr S H vs ds ∧ evPr p ds = some r ∧ FinR K adr S H r Q
theorem prim_ops {p : Pr} {σ : L2.St} {H : Hp} {Q : VK} (q : tE X.K adr cls W C (.prim p es) σ H Q) : tCB (tP X.K adr p) (tEs X.K adr cls W C es) σ H Q := by
  obtain ⟨S, ρ, rp, p⟩ := q
  unfold evE at p
  refine ⟨S, ρ, rp, p.first fun rs S1 H1 ρ1 x1 p1 vs hs => ?_⟩
  obtain ⟨ds, e1, p2⟩ := peeks_some p1
  obtain ⟨r, e2, p3⟩ := liftR_some p2
  exact ⟨S1, ds, r, x1.rp.sub, hs.pks x1.rp e1, e2, p3.fin x1⟩
theorem one_of {S H : Hp} {vs : List V} {d : D} (h : RHs X.K adr S H vs [d]) : ∃ v, vs = [v] ∧ RH X.K adr S H v d := by
  cases h with
  | cons h t =>
    cases t
    exact ⟨_, rfl, h⟩
theorem two_of {S H : Hp} {vs : List V} {d e : D} (h : RHs X.K adr S H vs [d, e]) : ∃ v w, vs = [v, w] ∧ RH X.K adr S H v d ∧ RH X.K adr S H w e := by
  cases h with
  | cons h t =>
    cases t with
    | cons h2 t =>
      cases t
      exact ⟨_, _, rfl, h, h2⟩
theorem p_len : CallR X (.builtin "len") (tP X.K adr .len) := by
  intro pins s σ H xs us Q I r h
  obtain ⟨S, ds, rr, l, hs, e, q⟩ := h
  cases ds with
  | nil => cases (show (none : Option R) = some rr from e)
  | cons d t =>
    cases t with
    | cons d2 t => cases d <;> cases (show (none : Option R) = some rr from e)
    | nil =>
      obtain ⟨v, rfl, hv⟩ := one_of hs
      cases d with
      | lst xs =>
        obtain ⟨a, vs, rfl, ha, ra⟩ := hv.lst l
        exact call_len pins s σ H _ us Q I r ⟨_, vs.length, rfl, .inl ⟨vs, .inl (.inl ha), rfl⟩, by rw [ra.len]; exact q.val (Option.some.inj e).symm l (.int _)⟩
      | tup xs =>
        obtain ⟨a, vs, rfl, ha, ra⟩ := hv.tup l
        exact call_len pins s σ H _ us Q I r ⟨_, vs.length, rfl, .inr ⟨vs, ha, rfl⟩, by rw [ra.len]; exact q.val (Option.some.inj e).symm l (.int _)⟩
      | _ => cases (show (none : Option R) = some rr from e)
theorem p_abs : CallR X (.builtin "abs") (tP X.K adr .abs) := by
  intro pins s σ H xs us Q I r h
  obtain ⟨S, ds, rr, l, hs, e, q⟩ := h
  cases ds with
  | nil => cases (show (none : Option R) = some rr from e)
  | cons d t =>
    cases t with
    | cons d2 t => cases d <;> cases (show (none : Option R) = some rr from e)
    | nil =>
      obtain ⟨v, rfl, hv⟩ := one_of hs
      cases d with
      | int i =>
        have z := hv.int
        subst z
        exact call_abs pins s σ H _ us Q I r ⟨i, rfl, q.val (Option.some.inj e).symm l (.int _)⟩
      | _ => cases (show (none : Option R) = some rr from e)
theorem p_int : CallR X (.type "int") (tP X.K adr .int) := by
  intro pins s σ H xs us Q I r h
  obtain ⟨S, ds, rr, l, hs, e, q⟩ := h
  cases ds with
  | nil => cases (show (none : Option R) = some rr from e)
  | cons d t =>
    cases t with
    | cons d2 t => cases d <;> cases (show (none : Option R) = some rr from e)
    | nil =>
      obtain ⟨v, rfl, hv⟩ := one_of hs
      cases d with
      | int i =>
        have z := hv.int
        subst z
        exact call_int1 pins s σ H _ us Q I r (.inl ⟨i, rfl, q.val (Option.some.inj e).symm l (.int _)⟩)
      | bl i =>
        have z := hv.bl
        subst z
        exact call_int1 pins s σ H _ us Q I r (.inr ⟨i, rfl, q.val (Option.some.inj e).symm l (.int _)⟩)
      | _ => cases (show (none : Option R) = some rr from e)
theorem p_list : CallR X (.type "list") (tP X.K adr .list) := by
  intro pins s σ H xs us Q I r h
  obtain ⟨S, ds, rr, l, hs, e, q⟩ := h
  cases ds with
  | nil => cases (show (none : Option R) = some rr from e)
  | cons d t =>
    cases t with
    | cons d2 t => cases d <;> cases (show (none : Option R) = some rr from e)
    | nil =>
      obtain ⟨v, rfl, hv⟩ := one_of hs
      cases d with
      | lst xs =>
        obtain ⟨a, vs, rfl, ha, ra⟩ := hv.lst l
        obtain ⟨rfl, hz⟩ := mkL_ok (show mkL xs = some rr from e)
        exact call_list_of pins s σ H _ us Q I r ⟨a, vs, rfl, .inl (.inl (.inl ha)), fun p hp => q.newL rfl l ra hp⟩
      | tup xs =>
        obtain ⟨a, vs, rfl, ha, ra⟩ := hv.tup l
        obtain ⟨rfl, hz⟩ := mkL_ok (show mkL xs = some rr from e)
        exact call_list_of pins s σ H _ us Q I r ⟨a, vs, rfl, .inr ha, fun p hp => q.newL rfl l ra hp⟩
      | _ => cases (show (none : Option R) = some rr from e)
theorem p_tuple : CallR X (.type "tuple") (tP X.K adr .tuple) := by
  intro pins s σ H xs us Q I r h
  obtain ⟨S, ds, rr, l, hs, e, q⟩ := h
  cases ds with
  | nil => cases (show (none : Option R) = some rr from e)
  | cons d t =>
    cases t with
    | cons d2 t => cases d <;> cases (show (none : Option R) = some rr from e)
    | nil =>
      obtain ⟨v, rfl, hv⟩ := one_of hs
      cases d with
      | lst xs =>
        obtain ⟨a, vs, rfl, ha, ra⟩ := hv.lst l
        obtain ⟨rfl, hz⟩ := mkT_ok (show mkT xs = some rr from e)
        exact call_tuple_of pins s σ H _ us Q I r ⟨a, vs, rfl, .inl ⟨.inl (.inl ha), fun p hp => q.newT rfl l ra hp⟩⟩
      | tup xs =>
        obtain ⟨rfl, hz⟩ := mkT_ok (show mkT xs = some rr from e)
        have hv' : RV X.K adr S v (.tup xs) := by
          rcases hv with z | ⟨_, _, _, _, z, _⟩
          · exact z
          · cases z
        obtain ⟨a, vs, rfl, ha, ra⟩ := hv.tup l
        exact call_tuple_of pins s σ H _ us Q I r ⟨a, vs, rfl, .inr ⟨ha, q.val rfl l hv'⟩⟩
      | _ => cases (show (none : Option R) = some rr from e)
theorem p_any (hc : X.calm = true) : CallR X (.builtin "any") (tP X.K adr .any) := by
  intro pins s σ H xs us Q I r h
  obtain ⟨S, ds, rr, l, hs, e, q⟩ := h
  cases ds with
  | nil => cases (show (none : Option R) = some rr from e)
  | cons d t =>
    cases t with
    | cons d2 t => cases d <;> cases (show (none : Option R) = some rr from e)
    | nil =>
      obtain ⟨v, rfl, hv⟩ := one_of hs
      cases d with
      | lst xs =>
        obtain ⟨a, vs, rfl, ha, ra⟩ := hv.lst l
        obtain ⟨bs, e1, e2⟩ := Option.map_eq_some_iff.mp (show (dBools xs).map (fun bs => R.v (.bl (bs.any id))) = some rr from e)
        have z := ra.boolsOf e1
        subst z
        exact cr_any hc pins s σ H _ us Q I r ⟨a, bs, rfl, .inl (.inl ha), q.val e2.symm l (.bl _)⟩
      | _ => cases (show (none : Option R) = some rr from e)
theorem p_all (hc : X.calm = true) : CallR X (.builtin "all") (tP X.K adr .all) := by
  intro pins s σ H xs us Q I r h
  obtain ⟨S, ds, rr, l, hs, e, q⟩ := h
  cases ds with
  | nil => cases (show (none : Option R) = some rr from e)
  | cons d t =>
    cases t with
    | cons d2 t => cases d <;> cases (show (none : Option R) = some rr from e)
    | nil =>
      obtain ⟨v, rfl, hv⟩ := one_of hs
      cases d with
      | lst xs =>
        obtain ⟨a, vs, rfl, ha, ra⟩ := hv.lst l
        obtain ⟨bs, e1, e2⟩ := Option.map_eq_some_iff.mp (show (dBools xs).map (fun bs => R.v (.bl (bs.all id))) = some rr from e)
        have z := ra.boolsOf e1
        subst z
        exact cr_all hc pins s σ H _ us Q I r ⟨a, bs, rfl, .inl (.inl ha), q.val e2.symm l (.bl _)⟩
      | _ => cases (show (none : Option R) = some rr from e)
theorem p_sum (hc : X.calm = true) : CallR X (.builtin "sum") (tP X.K adr .sum) := by
  intro pins s σ H xs us Q I r h
  obtain ⟨S, ds, rr, l, hs, e, q⟩ := h
  cases ds with
  | nil => cases (show (none : Option R) = some rr from e)
  | cons d t =>
    cases t with
    | cons d2 t => cases d <;> cases (show (none : Option R) = some rr from e)
    | nil =>
      obtain ⟨v, rfl, hv⟩ := one_of hs
      cases d with
      | lst xs =>
        obtain ⟨a, vs, rfl, ha, ra⟩ := hv.lst l
        obtain ⟨bs, e1, e2⟩ := Option.map_eq_some_iff.mp (show (dInts xs).map (fun bs => R.v (.int bs.sum)) = some rr from e)
        have z := ra.intsOf e1
        subst z
        exact cr_sum hc pins s σ H _ us Q I r ⟨a, bs, rfl, .inl (.inl ha), q.val e2.symm l (.int _)⟩
      | _ => cases (show (none : Option R) = some rr from e)
theorem p_min (hc : X.calm = true) : CallR X (.builtin "min") (tP X.K adr .min) := by
  intro pins s σ H xs us Q I r h
  obtain ⟨S, ds, rr, l, hs, e, q⟩ := h
  cases ds with
  | nil => cases (show (none : Option R) = some rr from e)
  | cons d t =>
    cases t with
    | nil => cases d <;> cases (show (none : Option R) = some rr from e)
    | cons d2 t =>
      cases t with
      | cons d3 t => cases d <;> cases d2 <;> cases (show (none : Option R) = some rr from e)
      | nil =>
        obtain ⟨v, w, rfl, hv, hw⟩ := two_of hs
        cases d with
        | int i =>
          cases d2 with
          | int j =>
            have z := hv.int
            have y := hw.int
            subst z y
            exact call_min2 hc pins s σ H _ us Q I r ⟨i, j, rfl, q.val (Option.some.inj e).symm l (.int _)⟩
          | _ => cases (show (none : Option R) = some rr from e)
        | _ => cases d2 <;> cases (show (none : Option R) = some rr from e)
theorem p_max (hc : X.calm = true) : CallR X (.builtin "max") (tP X.K adr .max) := by
  intro pins s σ H xs us Q I r h
  obtain ⟨S, ds, rr, l, hs, e, q⟩ := h
  cases ds with
  | nil => cases (show (none : Option R) = some rr from e)
  | cons d t =>
    cases t with
    | nil => cases d <;> cases (show (none : Option R) = some rr from e)
    | cons d2 t =>
      cases t with
      | cons d3 t => cases d <;> cases d2 <;> cases (show (none : Option R) = some rr from e)
      | nil =>
        obtain ⟨v, w, rfl, hv, hw⟩ := two_of hs
        cases d with
        | int i =>
          cases d2 with
          | int j =>
            have z := hv.int
            have y := hw.int
            subst z y
            exact call_max2 hc pins s σ H _ us Q I r ⟨i, j, rfl, q.val (Option.some.inj e).symm l (.int _)⟩
          | _ => cases (show (none : Option R) = some rr from e)
        | _ => cases d2 <;> cases (show (none : Option R) = some rr from e)
/-- f(e, ..), f a built-in function, a built-in type -/
theorem e_primB {p : Pr} {x : Str} {id : String} {pn : Pos} (hp : CallR X (.builtin id) (tP X.K adr p)) (hg : Gl X x) (hm : X.mg x = none) (hv : bootBuiltins x = some (.builtin id)) (hn : x ≠ "__name__") (hdb : (x == ("__debug__" : Str)) = false)
    (ha : PA X (a :: as) (tEs X.K adr cls W C es)) (he : starEach (a :: as) X.env = (false, eval a X.env) :: starEach as X.env) (hpl : (backTo pos (starEach as X.env)).any (·.1) = false) :
    PE X (.Call (.Name x pn) (a :: as) [] pos) (tE X.K adr cls W C (.prim p es)) := PE.imp (pe_callB hp hg hm hv ha hn hdb he hpl) fun _ _ _ q => prim_ops q
theorem e_primT {p : Pr} {x : Str} {id : String} {pn : Pos} (hp : CallR X (.type id) (tP X.K adr p)) (hg : Gl X x) (hm : X.mg x = none) (hv : bootBuiltins x = some (.type id)) (hn : x ≠ "__name__") (hdb : (x == ("__debug__" : Str)) = false)
    (ha : PA X (a :: as) (tEs X.K adr cls W C es)) (he : starEach (a :: as) X.env = (false, eval a X.env) :: starEach as X.env) (hpl : (backTo pos (starEach as X.env)).any (·.1) = false) :
    PE X (.Call (.Name x pn) (a :: as) [] pos) (tE X.K adr cls W C (.prim p es)) := PE.imp (pe_callTy hp hg hm hv ha hn hdb he hpl) fun _ _ _ q => prim_ops q
end
end Vi
set_option Elab.async false
set_option linter.all false
set_option maxRecDepth 100000
set_option maxHeartbeats 4000000
/-! Vi, part G: isinstance. -/
namespace Vi
open PySem PySem.Spec PyProof.Rows L2
section
variable {X : Cx} {adr cls : Nat → Addr} {W : WX} {C : Ctx} {a b c : Expr} {as : List Expr} {ea eb ec : E} {es : Es} {pos : Pos}
/-- a value's type, as the library names it -/
def tyN : D → Option String
  | .non => some "NoneType"
  | .bl _ => some "bool"
  | .int _ => some "int"
  | .str _ => some "str"
  | .lst _ => some "list"
  | .tup _ => some "tuple"
  | _ => none
theorem RH.tyX {S H : Hp} {v : V} {d : D} {n : String} (l : Le S H) (h : RH X.K adr S H v d) (e : tyN d = some n) : TyX X.K H v (.type n) := by
  cases d with
  | non =>
    cases e
    rw [h.non]
    exact .base .non
  | bl b =>
    cases e
    rw [h.bl]
    exact .base (.bl b)
  | int b =>
    cases e
    rw [h.int]
    exact .base (.int b)
  | str b =>
    cases e
    rw [h.str]
    exact .base (.str b)
  | lst xs =>
    cases e
    obtain ⟨p, vs, rfl, hp, _⟩ := h.lst l
    exact .base (.lst hp)
  | tup xs =>
    cases e
    obtain ⟨p, vs, rfl, hp, _⟩ := h.tup l
    rcases hp with (hp | ⟨o, hp⟩) | ⟨o, its, n, hp, hc, _⟩
    · exact .base (.tup hp)
    · exact .fTuple hp
    · exact .kTuple hp hc
  | _ => cases e
def tyS : Ty → List String
  | .int => ["int"]
  | .bool => ["bool"]
  | .str => ["str"]
  | .list => ["list"]
  | .tuple => ["tuple"]
  | .listTuple => ["list", "tuple"]
  | .boolStr => ["bool", "str"]
/-- the library's answer by the types' names -/
def kitL (n : String) : List String → Option Bool
  | [] => some false
  | c :: cs => match kitB n c with
    | none => none
    | some true => some true
    | some false => kitL n cs
theorem kitL_any {K : PySem.W.Frag} {n : String} : ∀ {cs : List String} {r : Bool}, kitL n cs = some r → PySem.W.kitAny K (.type n) (cs.map Value.type) = some r
  | [], r, e => by
    cases e
    exact kitAny_nil
  | c :: cs, r, e => by
    unfold kitL at e
    cases e1 : kitB n c with
    | none =>
      rw [e1] at e
      cases e
    | some b =>
      rw [e1] at e
      cases b with
      | true =>
        cases e
        exact kitAny_cons (kit_ty e1) (fun z => nomatch z) fun _ => rfl
      | false => exact kitAny_cons (kit_ty e1) (fun _ => kitL_any e) fun z => nomatch z
theorem isi_tab : ((["NoneType", "bool", "int", "str", "list", "tuple"].all fun n => [Ty.int, .bool, .str, .list, .tuple, .listTuple, .boolStr].all fun t =>
    kitL n (tyS t) == (some ((tyS t).contains n || (n == "bool" && (tyS t).contains "int")))) = true) := by decide +kernel
theorem kit_ev {t : Ty} {d : D} {r : Bool} (e : evTy t d = some r) : ∃ n, tyN d = some n ∧ kitL n (tyS t) = some r := by
  have T := isi_tab
  rw [List.all_eq_true] at T
  have key : ∀ n, n ∈ ["NoneType", "bool", "int", "str", "list", "tuple"] → kitL n (tyS t) = some ((tyS t).contains n || (n == "bool" && (tyS t).contains "int")) := fun n hn => by
    have T1 := T n hn
    rw [List.all_eq_true] at T1
    exact eq_of_beq (T1 t (by cases t <;> simp))
  have fin : ∀ n, n ∈ ["NoneType", "bool", "int", "str", "list", "tuple"] → tyN d = some n → ((tyS t).contains n || (n == "bool" && (tyS t).contains "int")) = r → ∃ n, tyN d = some n ∧ kitL n (tyS t) = some r := fun n hn a b => ⟨n, a, by rw [key n hn, b]⟩
  cases d with
  | non => exact fin "NoneType" (by simp) rfl (by cases t <;> (cases e; rfl))
  | bl _ => exact fin "bool" (by simp) rfl (by cases t <;> (cases e; rfl))
  | int _ => exact fin "int" (by simp) rfl (by cases t <;> (cases e; rfl))
  | str _ => exact fin "str" (by simp) rfl (by cases t <;> (cases e; rfl))
  | lst _ => exact fin "list" (by simp) rfl (by cases t <;> (cases e; rfl))
  | tup _ => exact fin "tuple" (by simp) rfl (by cases t <;> (cases e; rfl))
  | fn _ => cases t <;> cases e
  | ro _ => cases t <;> cases e
/-- a built-in name as it stands -/
def BName (X : Cx) (x : Str) (u : Value) : Prop := Gl X x ∧ X.mg x = none ∧ bootBuiltins x = some u ∧ x ≠ "__name__" ∧ (x == ("__debug__" : Str)) = false
theorem e_isi1 {n : String} {t : Ty} {x y : Str} {pn py : Pos} (ht : tyS t = [n]) (hx : BName X x (.builtin "isinstance")) (hy : BName X y (.type n)) (ha : PE X a (tE X.K adr cls W C ea))
    (he : starEach [a, .Name y py] X.env = (false, eval a X.env) :: starEach [.Name y py] X.env) (he2 : starEach [.Name y py] X.env = (false, eval (.Name y py) X.env) :: starEach [] X.env) (hpl : (backTo pos (starEach [.Name y py] X.env)).any (·.1) = false) :
    PE X (.Call (.Name x pn) [a, .Name y py] [] pos) (tE X.K adr cls W C (.isi ea t)) := by
  obtain ⟨x1, x2, x3, x4, x5⟩ := hx
  obtain ⟨y1, y2, y3, y4, y5⟩ := hy
  refine PE.imp (pe_callB call_isi x1 x2 x3 (pa_cons ha (pa_cons (pe_bltn (v := .ty n) y1 y2 y3 rfl y4 y5) pa_nil he2) he) x4 x5 he hpl) fun σ H Q q => ?_
  obtain ⟨S, ρ, rp, p⟩ := q
  unfold evE at p
  refine ⟨S, ρ, rp, p.first fun r S1 H1 ρ1 x1 p1 v h => ?_⟩
  obtain ⟨d, e1, p2⟩ := peek_some p1
  split at p2
  · rename_i k e2
    obtain ⟨m, e3, e4⟩ := kit_ev e2
    rw [ht] at e4
    refine ⟨v, .ty n, .type m, .type n, k, rfl, .ty n, (h.pk x1.rp e1).tyX x1.rp.sub e3, kit_ty ?_, p2.end_ x1 _ (.bl _)⟩
    unfold kitL at e4
    cases e5 : kitB m n with
    | none =>
      rw [e5] at e4
      cases e4
    | some z =>
      rw [e5] at e4
      cases z
      · exact e4
      · exact e4
  · exact p2.no
theorem e_isi2 {n m : String} {t : Ty} {x y z : Str} {pn py pz pt : Pos} {j} (ht : tyS t = [n, m]) (hx : BName X x (.builtin "isinstance")) (hy : BName X y (.type n)) (hz : BName X z (.type m)) (ha : PE X a (tE X.K adr cls W C ea))
    (he : starEach [a, .Tuple [.Name y py, .Name z pz] j pt] X.env = (false, eval a X.env) :: starEach [.Tuple [.Name y py, .Name z pz] j pt] X.env)
    (he2 : starEach [.Tuple [.Name y py, .Name z pz] j pt] X.env = (false, eval (.Tuple [.Name y py, .Name z pz] j pt) X.env) :: starEach [] X.env)
    (he3 : starEach [.Name y py, .Name z pz] X.env = (false, eval (.Name y py) X.env) :: starEach [.Name z pz] X.env) (he4 : starEach [.Name z pz] X.env = (false, eval (.Name z pz) X.env) :: starEach [] X.env)
    (hpl : (backTo pos (starEach [.Tuple [.Name y py, .Name z pz] j pt] X.env)).any (·.1) = false) :
    PE X (.Call (.Name x pn) [a, .Tuple [.Name y py, .Name z pz] j pt] [] pos) (tE X.K adr cls W C (.isi ea t)) := by
  obtain ⟨x1, x2, x3, x4, x5⟩ := hx
  obtain ⟨y1, y2, y3, y4, y5⟩ := hy
  obtain ⟨z1, z2, z3, z4, z5⟩ := hz
  refine PE.imp (pe_callB call_isiT x1 x2 x3 (pa_cons ha (pa_cons (pe_tup (pa_cons (pe_bltn (v := .ty n) y1 y2 y3 rfl y4 y5) (pa_cons (pe_bltn (v := .ty m) z1 z2 z3 rfl z4 z5) pa_nil he4) he3)) pa_nil he2) he) x4 x5 he hpl) fun σ H Q q => ?_
  obtain ⟨S, ρ, rp, p⟩ := q
  unfold evE at p
  refine ⟨S, ρ, rp, p.first fun r S1 H1 ρ1 x1 p1 v h => ?_⟩
  obtain ⟨d, e1, p2⟩ := peek_some p1
  refine ⟨?_, fun tp htp => ?_⟩
  · rw [sizeLine_eq]
    exact Nat.le_of_ble_eq_true rfl
  have gr : Ext X.K adr S1 H1 ρ1 σ S1 (upd H1 tp (.tup [.ty n, .ty m])) ρ1 := Ext.grow x1.rp (.own x1.rp.sub htp)
  have x2 := x1.tr gr
  split at p2
  · rename_i k e2
    obtain ⟨u, e3, e4⟩ := kit_ev e2
    rw [ht] at e4
    exact ⟨v, tp, [.ty n, .ty m], .type u, [.type n, .type m], k, rfl, upd_same, .cons (.ty n) (.cons (.ty m) .nil), ((h.step gr).pk x2.rp e1).tyX x2.rp.sub e3, kitL_any e4, p2.end_ x2 _ (.bl _)⟩
  · exact p2.no
end
end Vi
set_option Elab.async false
set_option linter.all false
set_option maxRecDepth 100000
set_option maxHeartbeats 4000000
/-! Vi, part H: slices. -/
namespace Vi
open PySem PySem.Spec PyProof.Rows L2 HT
section
variable {prog : Program} {w : World} {A : Around} {G : Value → Shared → Prop} {s : Shared}
theorem rev_places (n : Nat) : Builtin.Slice.slicePlaces ((n : Int) - 1) (-1) (-1) = n := by
  unfold Builtin.Slice.slicePlaces
  rw [if_neg (by decide)]
  by_cases h : (n : Int) - 1 > -1
  · rw [if_pos h, show (-(-1) : Int) = 1 by decide, Int.ediv_one]
    omega
  · rw [if_neg h]
    omega
theorem rev_pick (xs : Array Value) : ((List.range xs.size).filterMap fun (m : Nat) => xs[((xs.size : Int) - 1 + (m : Int) * (-1)).toNat]?).toArray = xs.toList.reverse.toArray := by
  congr 1
  have e : (List.range xs.size).filterMap (fun (m : Nat) => xs[((xs.size : Int) - 1 + (m : Int) * (-1)).toNat]?) = ((List.range xs.size).map fun k => xs.size - 1 - k).filterMap (xs[·]?) := by
    rw [List.filterMap_map]
    have key : ∀ ns : List Nat, (∀ m ∈ ns, m < xs.size) → ns.filterMap (fun (m : Nat) => xs[((xs.size : Int) - 1 + (m : Int) * (-1)).toNat]?) = ns.filterMap ((xs[·]?) ∘ fun k => xs.size - 1 - k) := by
      intro ns
      induction ns with
      | nil => exact fun _ => rfl
      | cons n ns ih =>
        intro h
        have e1 : ((xs.size : Int) - 1 + (n : Int) * (-1)).toNat = xs.size - 1 - n := by
          have := h n (List.mem_cons_self ..)
          omega
        rw [List.filterMap_cons, List.filterMap_cons, ih fun m hm => h m (List.mem_cons_of_mem _ hm)]
        rw [e1]
        rfl
    exact key _ fun m hm => List.mem_range.mp hm
  rw [e, PySem.W.krv_range, List.filterMap_reverse, PySem.W.krv_all]
theorem sliceApplied_rev {sl : Addr} {vl vu vs : Value} {n : Nat} {Q : Int × Int × Nat → Shared → Prop} (hs : s.heap.IsSliceOf sl vl vu vs) (pl : IsPart vl none) (pu : IsPart vu none) (ps : IsPart vs (some (-1)))
    (h : Q ((n : Int) - 1, -1, n) s) : wpAny (model prog w) A (Builtin.Slice.sliceApplied (.ref sl) (pure (n : Int))) Q G s := by
  obtain ⟨os, hos, hcs, hds⟩ := id hs
  unfold Builtin.Slice.sliceApplied Builtin.Slice.sliceFields
  refine wpAny_bind (wpAny_bind (wpAny_field hos hds (x := vl) rfl (wpAny_bind (wpAny_field hos hds (x := vu) rfl (wpAny_bind (wpAny_field hos hds (x := vs) rfl (wpAny_pure ?_)))))))
  refine wpAny_bind (slicePart_ ps ?_)
  show wpAny _ _ (if ((-1 : Int) == 0) = true then _ else _) _ _ s
  rw [if_neg (by decide)]
  refine wpAny_bind (slicePart_ pl (wpAny_bind (slicePart_ pu (wpAny_bind (wpAny_pure ?_)))))
  show wpAny _ _ (pure ((n : Int) - 1, (-1 : Int), Builtin.Slice.slicePlaces ((n : Int) - 1) (-1) (-1))) _ _ s
  rw [rev_places]
  exact wpAny_pure h
theorem getItem_tuple_rev {t sl : Addr} {items : Array Value} {vl vu vs : Value} {Q : Value → Shared → Prop} (ht : IsTup s.heap t items) (hs : s.heap.IsSliceOf sl vl vu vs) (pl : IsPart vl none) (pu : IsPart vu none) (ps : IsPart vs (some (-1)))
    (h : Q (.ref s.heap.objs.size) { s with heap := s.heap.push { cls := .type "tuple", data := .seq items.toList.reverse.toArray } })
    (hsz : items.size ≤ sizeLine) : wpAny (model prog w) A (getItem (.ref t) (.ref sl)) Q G s := by
  have htake : sizeOk (.seq items.toList.reverse.toArray) := by
    show items.toList.reverse.toArray.size ≤ sizeLine
    rw [List.size_toArray, List.length_reverse, Array.length_toList]
    exact hsz
  obtain ⟨os, hos, hcs, hds⟩ := id hs
  have hTs : s.TypeIs (.ref sl) "slice" := ⟨os, hos, hcs⟩
  unfold getItem
  try with_reducible refine wpAny_holding ?_
  first | refine wpAny_bind (wpAny_pure ?_) | skip
  refine wpAny_bind (wpAny_sequenceKey ht.typeIs (by decide) ?_)
  refine wpAny_bind (wpAny_callSpecial?_slot (name := Str.ofString "__getitem__") ht.typeIs PyProof.Rows.slot_tuple_getitem
    (wpAny_call_entry PyProof.Rows.slot_tuple_getitem ht.typeIs entry_tuple_getitem ?_ (args_tuple_getitem _ _)))
  show wpAny _ _ (Builtin.Tuple.tupleItemsOf (.ref t) >>= _) _ _ s
  refine wpAny_bind (tupleItemsOf_ ht ?_)
  refine wpAny_bind (wpAny_typeOf hTs ?_)
  rw [if_pos (by decide)]
  refine wpAny_bind (sliceApplied_rev hs pl pu ps ?_)
  have hno : ¬ ((((items.size : Int) - 1) == 0 && (-1 : Int) == 1 && items.size == items.size) = true) := by
    intro q
    rw [Bool.and_eq_true, Bool.and_eq_true] at q
    exact absurd (eq_of_beq q.1.2) (by decide)
  show wpAny _ _ (if (((items.size : Int) - 1) == 0 && (-1 : Int) == 1 && items.size == items.size) = true then _ else _) _ _ s
  rw [if_neg hno, rev_pick]
  first
    | exact wpAny_bind (m := Builtin.Tuple.tupleExact _) (wpAny_newObj_type (wpAny_pure ⟨_, rfl, wpAny_pure h⟩) htake)
    | exact wpAny_bind (m := Builtin.Tuple.tupleExact _) (wpAny_newObj_type (wpAny_bind (wpAny_pure (wpAny_pure ⟨_, rfl, wpAny_pure h⟩))) htake)
    | exact wpAny_bind (wpAny_bind (m := Builtin.Tuple.tupleExact _) (wpAny_newObj_type (wpAny_pure (wpAny_pure ⟨_, rfl, wpAny_pure h⟩)) htake))
    | exact wpAny_bind (wpAny_bind (m := Builtin.Tuple.tupleExact _) (wpAny_newObj_type (wpAny_pure ⟨_, rfl, wpAny_pure h⟩) htake))
end
section
variable {K : PySem.W.Frag} {adr : Nat → Addr} {S : Hp}
theorem RVs.pick (f : Nat → Nat) {vs : List V} {ds : List D} (r : RVs K adr S vs ds) : ∀ ns : List Nat, RVs K adr S (ns.filterMap (vs[·]?)) (ns.filterMap (ds[·]?))
  | [] => .nil
  | n :: ns => by
    cases e : ds[n]? with
    | none =>
      have e2 : vs[n]? = none := by
        rw [List.getElem?_eq_none_iff] at e ⊢
        rw [r.len]
        exact e
      rw [List.filterMap_cons_none e, List.filterMap_cons_none e2]
      exact RVs.pick f r ns
    | some d =>
      obtain ⟨v, e2, h⟩ := r.at e
      rw [List.filterMap_cons_some e, List.filterMap_cons_some e2]
      exact .cons h (RVs.pick f r ns)
theorem Vals.pick {vs : List V} {us : List Value} (r : Vals vs us) : ∀ ns : List Nat, Vals (ns.filterMap (vs[·]?)) (ns.filterMap (us[·]?))
  | [] => .nil
  | n :: ns => by
    have key : ∀ {vs : List V} {us : List Value}, Vals vs us → ∀ n : Nat, (vs[n]? = none ∧ us[n]? = none) ∨ ∃ v u, vs[n]? = some v ∧ us[n]? = some u ∧ RelV v u := by
      intro vs us r
      induction r with
      | nil => exact fun n => .inl ⟨by simp, by simp⟩
      | cons h t ih =>
        intro n
        cases n with
        | zero => exact .inr ⟨_, _, rfl, rfl, h⟩
        | succ n => simpa using ih n
    rcases key r n with ⟨e1, e2⟩ | ⟨v, u, e1, e2, h⟩
    · rw [List.filterMap_cons_none e1, List.filterMap_cons_none e2]
      exact Vals.pick r ns
    · rw [List.filterMap_cons_some e1, List.filterMap_cons_some e2]
      exact .cons h (Vals.pick r ns)
end
section
variable {X : Cx} {adr cls : Nat → Addr} {W : WX} {C : Ctx} {a b c : Expr} {as : List Expr} {ea eb ec : E} {es : Es} {pos p2 : Pos} {lo hi : Option Expr} {el eh : Eo}
/-- a slice, by the value -/
def tSlV (K : PySem.W.Frag) (adr : Nat → Addr) : V → Option Int → Option Int → Hp → VK → Prop := fun x lo hi H Q => ∃ S d r, Le S H ∧ RH K adr S H x d ∧ evSli d lo hi = some r ∧ FinR K adr S H r Q
theorem cut_rvs {K : PySem.W.Frag} {adr : Nat → Addr} {S : Hp} {vs : List V} {ds : List D} {lo hi : Option Int} (r : RVs K adr S vs ds) : RVs K adr S (cutV vs lo hi) (cutD ds lo hi) := by
  unfold cutV cutD
  rw [r.len]
  exact (r.drop _).take _
theorem sl_V : SlR X (tSlV X.K adr) := by
  intro pins s σ H x v vl vu lo hi sl Q I rx hs pl pu h
  obtain ⟨S, d, r, l, hx, e, q⟩ := h
  cases d with
  | lst xs =>
    obtain ⟨p, vs, rfl, hp, rr⟩ := hx.lst l
    exact sl_list pins s σ H _ v vl vu lo hi sl Q I rx hs pl pu ⟨p, vs, rfl, .inl (.inl hp), fun t ht => q.newL (Option.some.inj (show some (R.nw (cutD xs lo hi)) = some r from e)).symm l (cut_rvs rr) ht⟩
  | ro xs =>
    obtain ⟨p, vs, rfl, hp, rr⟩ := hx.ro l
    exact sl_list pins s σ H _ v vl vu lo hi sl Q I rx hs pl pu ⟨p, vs, rfl, hp, fun t ht => q.newL (Option.some.inj (show some (R.nw (cutD xs lo hi)) = some r from e)).symm l (cut_rvs rr) ht⟩
  | tup xs =>
    have hx' : RV X.K adr S x (.tup xs) := by
      rcases hx with z | ⟨_, _, _, _, z, _⟩
      · exact z
      · cases z
    obtain ⟨p, vs, rfl, hp, rr⟩ := hx.tup l
    have er := (Option.some.inj (show some (R.v (.tup (cutD xs lo hi))) = some r from e)).symm
    refine sl_tupA pins s σ H _ v vl vu lo hi sl Q I rx hs pl pu ⟨p, vs, rfl, hp, fun hw => ?_, fun _ t ht => q.newT er l (cut_rvs rr) ht⟩
    have ez : cutD xs lo hi = xs := by
      unfold cutD
      rw [← rr.len, hw.1, hw.2, rr.len]
      simp
    rw [ez] at er
    exact q.val er l hx'
  | _ => cases (show (none : Option R) = some r from e)
def tEo (K : PySem.W.Frag) (adr cls : Nat → Addr) (W : WX) (C : Ctx) (e : Eo) : TO := fun σ H Q => ∃ S ρ, Rep K adr S H ρ σ ∧ Post K adr cls W (evEo C e ρ) S H ρ σ fun i S' H' ρ' => Q i H'
theorem o_no : PO X none (tEo X.K adr cls W C .no) := ⟨fun pins s σ H Q I q => by
  obtain ⟨S, ρ, rp, p⟩ := q
  exact po_none.run pins s σ H Q I (p.end_ (.rf rp))⟩
theorem o_so (ha : PE X a (tE X.K adr cls W C ea)) : PO X (some a) (tEo X.K adr cls W C (.so ea)) := ⟨fun pins s σ H Q I q => by
  obtain ⟨S, ρ, rp, p⟩ := q
  unfold evEo at p
  refine (po_some ha).run pins s σ H Q I ⟨S, ρ, rp, p.first fun r S1 H1 ρ1 x1 p1 v h => ?_⟩
  split at p1
  · rename_i i
    cases h
    exact ⟨i, rfl, p1.end_ x1⟩
  · exact p1.no⟩
theorem e_sli (ha : PE X a (tE X.K adr cls W C ea)) (hl : PO X lo (tEo X.K adr cls W C el)) (hh : PO X hi (tEo X.K adr cls W C eh)) : PE X (.Subscript a (.Slice lo hi none p2) pos) (tE X.K adr cls W C (.sli ea el eh)) :=
  PE.imp (pe_slice sl_V ha hl hh) fun σ H Q q => by
    obtain ⟨S, ρ, rp, p⟩ := q
    unfold evE at p
    refine ⟨S, ρ, rp, p.first fun r S1 H1 ρ1 x1 p1 v h => ?_⟩
    refine ⟨S1, ρ1, x1.rp, p1.seq x1 fun i1 S2 H2 ρ2 x2 y2 p2 => ?_⟩
    refine ⟨S2, ρ2, x2.rp, p2.seq x2 fun i2 S3 H3 ρ3 x3 y3 p3 => ?_⟩
    obtain ⟨d, e1, p4⟩ := peek_some p3
    obtain ⟨r3, e3, p5⟩ := liftR_some p4
    exact ⟨S3, d, r3, x3.rp.sub, ((h.step y2).step y3).pk x3.rp e1, e3, p5.fin x3⟩
theorem po_nat {j k : Nat} {pk : Pos} : PO X (some (.Constant (.int k) j pk)) (fun _ H Q => Q (some ((k : Nat) : Int)) H) := ⟨fun pins s σ H Q I q => (po_some (pe_int (i := k))).run pins s σ H Q I ⟨_, rfl, q⟩⟩
theorem po_m1 {j : Nat} {p1 p2 : Pos} : PO X (some (.UnaryOp .USub (.Constant (.int 1) j p1) p2)) (fun _ H Q => Q (some (-1)) H) := ⟨fun pins s σ H Q I q => (po_some (pe_un un_neg pe_int)).run pins s σ H Q I ⟨1, rfl, -1, rfl, q⟩⟩
theorem e_sls {st : Expr} {k : Option Nat} {i : Int} (ha : PE X a (tE X.K adr cls W C ea)) (hl : PO X lo (fun _ H Q => Q (k.map Int.ofNat) H)) (hs : PO X (some st) (fun _ H Q => Q (some i) H)) : PE X (.Subscript a (.Slice lo none (some st) p2) pos) (tE X.K adr cls W C (.sls ea k i)) := by
  refine ⟨fun pins s σ H Q I q => ?_⟩
  obtain ⟨S, ρ, rp, p⟩ := q
  unfold evE at p
  have hq : tE X.K adr cls W C ea σ H (fun v H' => ∃ S1 d r, Le S1 H' ∧ RH X.K adr S1 H' v d ∧ evSls d k i = some r ∧ FinR X.K adr S1 H' r Q) := by
    refine ⟨S, ρ, rp, p.first fun r S1 H1 ρ1 x1 p1 v h => ?_⟩
    obtain ⟨d, e1, p2⟩ := peek_some p1
    obtain ⟨r3, e3, p5⟩ := liftR_some p2
    exact ⟨S1, d, r3, x1.rp.sub, h.pk x1.rp e1, e3, p5.fin x1⟩
  refine Subscript_ (thn (ha.run pins s σ H _ I hq) fun v s1 ⟨x, H1, I1, r1, q1⟩ => ?_)
  obtain ⟨S1, d, r, l, hx, e, qf⟩ := q1
  refine wpAny_Slice (thn (hl.run pins s1 σ H1 (fun o H2 => o = k.map Int.ofNat ∧ H2 = H1) I1 ⟨rfl, rfl⟩) fun vl s2 ⟨l2, H2, I2, pl, el, e2⟩ => ?_)
  subst el e2
  refine thn (po_none.run pins s2 σ H2 (fun o H3 => o = none ∧ H3 = H2) I2 ⟨rfl, rfl⟩) fun vu s3 ⟨u, H3, I3, pu, eu, e3⟩ => ?_
  subst eu e3
  refine thn (hs.run pins s3 σ H3 (fun o H4 => o = some i ∧ H4 = H3) I3 ⟨rfl, rfl⟩) fun vs s4 ⟨o, H4, I4, ps, eo, e4⟩ => ?_
  subst eo e4
  have I5 : Inv X pins σ H4 { s4 with heap := s4.heap.push { cls := .type "slice", data := .fields #[vl, vu, vs] } } := I4.kept (t' := s4.toks) fun b ob q => Heap.get?_push_of_some _ q
  show wpAny (model X.prog X.w) X.A (subscriptTail a (.Slice lo none (some st) p2) v (.ref s4.heap.objs.size)) (EP X pins σ Q) X.xe { s4 with heap := s4.heap.push { cls := .type "slice", data := .fields #[vl, vu, vs] } }
  cases d with
  | lst xs =>
    obtain ⟨t, ys, rfl, hp, rr⟩ := hx.lst l
    cases r1
    have e' : (if i = 0 then none else some (R.nw (pickL xs (k.map Int.ofNat) i))) = some r := e
    by_cases hi0 : i = 0
    · rw [if_pos hi0] at e'
      cases e'
    rw [if_neg hi0] at e'
    obtain ⟨its, rv, ht, hz⟩ := I5.list (.inl (.inl hp))
    have hlen := rv.length
    refine tail_any (ops := [.ref t, .ref s4.heap.objs.size]) ht.isList.typeIs (PySem.slot_list_getitem.lookup) ?_ (by with_unfolding_all rfl)
    have hsz : its.toArray.size ≤ sizeLine := by
      rw [List.size_toArray]
      omega
    refine wpAny_getItem_list_slice ht.isList (Heap.IsSliceOf.new _ vl vu vs) pl pu ps (fun z => hi0 (Option.some.inj z)) ?_ hsz
    have epk : slicePick its.toArray (k.map Int.ofNat) none (some i) = (pickL its (k.map Int.ofNat) i).toArray := by
      unfold slicePick pickL
      simp
    rw [epk]
    have rv2 : Vals (pickL ys (k.map Int.ofNat) i) (pickL its (k.map Int.ofNat) i) := by
      unfold pickL
      rw [hlen]
      exact Vals.pick rv _
    have rr2 : RVs X.K adr S1 (pickL ys (k.map Int.ofNat) i) (pickL xs (k.map Int.ofNat) i) := by
      unfold pickL
      rw [rr.len]
      exact RVs.pick id rr _
    refine ⟨.ref _, _, I5.laid (t' := s4.toks) (o := .lst (pickL ys (k.map Int.ofNat) i)) (fun b ob q => Heap.get?_push_of_some _ q) (Nat.le_refl _) ?_, rfl, qf.newL (Option.some.inj e').symm l rr2 (I5.hok.fresh (Nat.le_refl _))⟩
    refine ⟨?_, _, 0, rv2, Heap.get?_push_size _ rfl⟩
    have z := slicePick_size_le its.toArray (k.map Int.ofNat) none (some i)
    rw [epk, List.size_toArray] at z
    rw [rv2.length]
    omega
  | tup xs =>
    obtain ⟨t, ys, rfl, hp, rr⟩ := hx.tup l
    cases r1
    have e' : (if i = -1 then (match k with
      | none => some (R.v (.tup xs.reverse))
      | some _ => none) else none) = some r := e
    by_cases hi1 : i = -1
    · subst hi1
      rw [if_pos rfl] at e'
      cases k with
      | some _ => cases e'
      | none =>
        obtain ⟨its, rv, ht, hz⟩ := I5.tuple hp
        have hlen := rv.length
        refine tail_any (ops := [.ref t, .ref s4.heap.objs.size]) ht.typeIs (PyProof.Rows.slot_tuple_getitem.lookup) ?_ (by with_unfolding_all rfl)
        refine getItem_tuple_rev ht (Heap.IsSliceOf.new _ vl vu vs) pl pu ps ?_ (by rw [List.size_toArray]; omega)
        refine ⟨.ref _, _, I5.laid (t' := s4.toks) (o := .tup ys.reverse) (fun b ob q => Heap.get?_push_of_some _ q) (Nat.le_refl _) ?_, rfl, qf.newT (Option.some.inj e').symm l rr.rev (I5.hok.fresh (Nat.le_refl _))⟩
        exact ⟨by rw [List.length_reverse]; exact hz, _, rv.reverse, IsTup.new _ _⟩
    · rw [if_neg hi1] at e'
      cases e'
  | _ => cases (show (none : Option R) = some r from e)
end
end Vi
set_option Elab.async false
set_option linter.all false
set_option maxRecDepth 100000
set_option maxHeartbeats 4000000
/-! Vi, part I: ranges. -/
namespace Vi
open PySem PySem.Spec PyProof.Rows L2
/-- what range(..) is: its first, its step, how many -/
def rangeC : List D → Option (Int × Int × Nat)
  | [.int b] => if small b then some (0, 1, (b - 0).toNat) else none
  | [.int a, .int b] => if small a && small b then some (a, 1, (b - a).toNat) else none
  | [.int a, .int b, .int c] => if small a && small b && (decide (c = -1)) then some (a, -1, (a - b).toNat) else none
  | _ => none
theorem rangeC_D {ds xs : List D} (e : rangeD ds = some xs) : ∃ i c n, rangeC ds = some (i, c, n) ∧ xs = rgC i c n := by
  match ds, e with
  | [], e => cases e
  | [.int b], e =>
    obtain ⟨h, rfl⟩ := ifSome (show (if small b = true then some (rgU 0 b) else none) = some xs from e)
    exact ⟨_, _, _, by show (if small b = true then _ else none) = _; rw [if_pos h], rfl⟩
  | [.int a, .int b], e =>
    obtain ⟨h, rfl⟩ := ifSome (show (if (small a && small b) = true then some (rgU a b) else none) = some xs from e)
    exact ⟨_, _, _, by show (if (small a && small b) = true then _ else none) = _; rw [if_pos h], rfl⟩
  | [.int a, .int b, .int c], e =>
    obtain ⟨h, rfl⟩ := ifSome (show (if (small a && small b && (decide (c = -1))) = true then some (rgN a b) else none) = some xs from e)
    exact ⟨_, _, _, by show (if (small a && small b && (decide (c = -1))) = true then _ else none) = _; rw [if_pos h], rfl⟩
theorem small_iff {i : Int} (h : small i = true) : -(2 ^ 62) ≤ i ∧ i < 2 ^ 62 := by
  unfold small at h
  rw [Bool.and_eq_true, decide_eq_true_eq, decide_eq_true_eq] at h
  exact h
theorem RgC.one {i j : Int} (a : small i = true) (b : small j = true) : RgC i j 1 (j - i).toNat := by
  have h := small_iff a
  have h2 := small_iff b
  exact ⟨by decide, by decide, small_one h.1 h.2 h2.1 h2.2, rangeSize_nat i j⟩
def rgV2 (i c : Int) (n : Nat) : List V := (List.range n).map fun (k : Nat) => .int (i + (k : Int) * c)
theorem rgV2_rv {K : PySem.W.Frag} {adr : Nat → Addr} {S : Hp} (i c : Int) (n : Nat) : RVs K adr S (rgV2 i c n) (rgC i c n) := by
  unfold rgV2 rgC
  generalize List.range n = l
  induction l with
  | nil => exact .nil
  | cons x xs ih => exact .cons (.int _) ih
section
variable {X : Cx} {adr cls : Nat → Addr} {W : WX} {C : Ctx} {a b c : Expr} {as : List Expr} {ea eb ec : E} {es : Es} {pos p2 : Pos}
/-- a range's reading -/
def tRg (K : PySem.W.Frag) (adr cls : Nat → Addr) (W : WX) (C : Ctx) (es : Es) (σ : L2.St) (H : Hp) (Q : Int → Int → Nat → Hp → Prop) : Prop := ∃ S ρ, Rep K adr S H ρ σ ∧ Post K adr cls W (evEs C es ρ) S H ρ σ fun rs S' H' ρ' =>
  ∃ ds i c n, pks ρ' rs = some ds ∧ rangeC ds = some (i, c, n) ∧ Q i c n H'
theorem rng_any (hx : BName X "range" (.type "range")) {pn : Pos} (ha : PA X (a :: as) (tEs X.K adr cls W C es)) (he : starEach (a :: as) X.env = (false, eval a X.env) :: starEach as X.env) (hpl : (backTo pos (starEach as X.env)).any (·.1) = false)
    {pins : List (Addr × Obj)} {s : Shared} {σ : L2.St} {H : Hp} {Q : Int → Int → Nat → Hp → Prop} (I : Inv X pins σ H s) (h : tRg X.K adr cls W C es σ H Q) :
    wpAny (model X.prog X.w) X.A (eval (.Call (.Name "range" pn) (a :: as) [] pos) X.env) (fun x s' => ∃ r i j c n t u v H', x = .ref r ∧ IsRange s'.heap r i j c t u v ∧ RgC i j c n ∧ Inv X pins σ H' s' ∧ Q i c n H') X.xe s := by
  obtain ⟨x1, x2, x3, x4, x5⟩ := hx
  obtain ⟨S, ρ, rp, p⟩ := h
  refine Call_ (ld_blt I x1 x2 x3 (PyProof.Rows.callWith_type1 (thn (ha.run pos pins s σ H (fun vs H1 => ∃ S1 ds i c n, RHs X.K adr S1 H1 vs ds ∧ rangeC ds = some (i, c, n) ∧ Q i c n H1) I ⟨S, ρ, rp, p.imp fun rs S1 H1 ρ1 x1 p1 vs hs => ?_⟩) fun us s1 ⟨vs, H1, I1, r1, q1⟩ => ?_) he hpl) x4 x5)
  · obtain ⟨ds, i, c, n, e1, e2, q⟩ := p1
    exact ⟨S1, ds, i, c, n, hs.pks x1.rp e1, e2, q⟩
  · obtain ⟨S1, ds, i, c, n, hs, e2, q⟩ := q1
    cases hs with
    | nil => cases e2
    | @cons v1 d1 vs ds h1 hs =>
      cases d1 with
      | int i1 =>
        have z1 := h1.int
        subst z1
        cases hs with
        | nil =>
          obtain ⟨hb, e3⟩ := ifSome (show (if small i1 = true then some ((0 : Int), (1 : Int), (i1 - 0).toNat) else none) = some (i, c, n) from e2)
          cases e3
          obtain ⟨u1, rfl, r⟩ : ∃ u1, us = [u1] ∧ RelV (.int i1) u1 := by
            cases r1 with
            | cons p q =>
              cases q
              exact ⟨_, rfl, p⟩
          obtain ⟨t, rfl⟩ := r
          exact call_range_1 ⟨_, 0, i1, 1, _, _, _, _, H1, rfl, IsRange.new _ _ _ _ _ _ _, RgC.one (by decide) hb, I1.kept fun b u e => Heap.get?_push_of_some _ e, q⟩
        | @cons v2 d2 vs ds h2 hs =>
          cases d2 with
          | int i2 =>
            have z2 := h2.int
            subst z2
            cases hs with
            | nil =>
              obtain ⟨hb, e3⟩ := ifSome (show (if (small i1 && small i2) = true then some (i1, (1 : Int), (i2 - i1).toNat) else none) = some (i, c, n) from e2)
              cases e3
              rw [Bool.and_eq_true] at hb
              obtain ⟨u1, u2, rfl, r, r'⟩ := vals2 r1
              obtain ⟨t, rfl⟩ := r
              obtain ⟨t', rfl⟩ := r'
              exact call_range_2 ⟨_, i, i2, 1, _, _, _, _, H1, rfl, IsRange.new _ _ _ _ _ _ _, RgC.one hb.1 hb.2, I1.kept fun b u e => Heap.get?_push_of_some _ e, q⟩
            | @cons v3 d3 vs ds h3 hs =>
              cases d3 with
              | int i3 =>
                have z3 := h3.int
                subst z3
                cases hs with
                | nil =>
                  obtain ⟨hb, e3⟩ := ifSome (show (if (small i1 && small i2 && (decide (i3 = -1))) = true then some (i1, (-1 : Int), (i1 - i2).toNat) else none) = some (i, c, n) from e2)
                  cases e3
                  rw [Bool.and_eq_true, Bool.and_eq_true, decide_eq_true_eq] at hb
                  obtain ⟨⟨hb1, hb2⟩, rfl⟩ := hb
                  cases r1 with
                  | cons r rr =>
                    cases rr with
                    | cons r' rr =>
                      cases rr with
                      | cons r'' rr =>
                        cases rr
                        obtain ⟨t, rfl⟩ := r
                        obtain ⟨t', rfl⟩ := r'
                        obtain ⟨t'', rfl⟩ := r''
                        have b1 := small_iff hb1
                        have b2 := small_iff hb2
                        refine call_range_3 (by decide) ⟨_, i, i2, -1, _, _, _, _, H1, rfl, IsRange.new _ _ _ _ _ _ _, RgC.neg b1.1 b1.2 b2.1 b2.2, I1.kept fun b u e => Heap.get?_push_of_some _ e, q⟩ (.inl (PyProof.noPylong_small (by decide)))
                | cons _ _ => cases e2
              | _ => cases hs <;> cases e2
          | _ =>
            cases hs with
            | nil => cases e2
            | cons _ hs => cases hs <;> cases e2
      | _ => cases e2
theorem vals_rg2 {i c : Int} {n : Nat} {acc : Array Value} (h : ItemsOf (fun k v => ∃ t, v = .int (i + k * c) t) acc n) : Vals (rgV2 i c n) acc.toList := by
  have e : acc.toList.length = n := by rw [Array.length_toList]; exact h.1
  unfold rgV2
  rw [← e]
  refine vals_of_get acc.toList _ fun j u hj => ?_
  obtain ⟨t, rfl⟩ := h.2 j u (by rw [← hj, Array.getElem?_toList])
  exact ⟨t, rfl⟩
theorem rangeOk_some {ds xs : List D} (e : rangeOk ds = some xs) : rangeD ds = some xs ∧ xs.length ≤ 1000000 := by
  unfold rangeOk at e
  split at e
  · rename_i ys e1
    obtain ⟨h, rfl⟩ := ifSome e
    exact ⟨e1, Nat.le_of_ble_eq_true h⟩
  · cases e
theorem rg_ops {p : Pr} (hp : p = .listR ∨ p = .tupleR) {σ : L2.St} {H : Hp} {Q : VK} (q : tE X.K adr cls W C (.prim p es) σ H Q) :
    tRg X.K adr cls W C es σ H fun i c n H' => n ≤ 1000000 ∧ ∃ S, Le S H' ∧ FinR X.K adr S H' (if p = .listR then .nw (rgC i c n) else .v (.tup (rgC i c n))) Q := by
  obtain ⟨S, ρ, rp, p0⟩ := q
  unfold evE at p0
  refine ⟨S, ρ, rp, p0.first fun rs S1 H1 ρ1 x1 p1 => ?_⟩
  obtain ⟨ds, e1, p2⟩ := peeks_some p1
  obtain ⟨r, e2, p3⟩ := liftR_some p2
  have key : ∃ xs, rangeOk ds = some xs ∧ r = (if p = .listR then .nw xs else .v (.tup xs)) := by
    rcases hp with rfl | rfl
    · have e2' : (match rangeOk ds with
        | some xs => some (R.nw xs)
        | none => none) = some r := e2
      split at e2'
      · cases e2'
        exact ⟨_, by assumption, rfl⟩
      · cases e2'
    · have e2' : (match rangeOk ds with
        | some xs => some (R.v (.tup xs))
        | none => none) = some r := e2
      split at e2'
      · cases e2'
        exact ⟨_, by assumption, rfl⟩
      · cases e2'
  obtain ⟨xs, e3, rfl⟩ := key
  obtain ⟨e4, hn⟩ := rangeOk_some e3
  obtain ⟨i, c, n, e5, rfl⟩ := rangeC_D e4
  refine ⟨ds, i, c, n, e1, e5, ?_, S1, x1.rp.sub, p3.fin x1⟩
  unfold rgC at hn
  rw [List.length_map, List.length_range] at hn
  exact hn
theorem rgV2_len (i c : Int) (n : Nat) : (rgV2 i c n).length = n := by
  unfold rgV2
  rw [List.length_map, List.length_range]
theorem e_listR (hc : X.calm = true) (hl : BName X "list" (.type "list")) (hx : BName X "range" (.type "range")) {pl pn pos2 : Pos} (ha : PA X (a :: as) (tEs X.K adr cls W C es)) (he : starEach (a :: as) X.env = (false, eval a X.env) :: starEach as X.env)
    (hpl : (backTo pos2 (starEach as X.env)).any (·.1) = false) (na : starEach [.Call (.Name "range" pn) (a :: as) [] pos2] X.env = (false, eval (.Call (.Name "range" pn) (a :: as) [] pos2) X.env) :: starEach [] X.env) :
    PE X (.Call (.Name "list" pl) [.Call (.Name "range" pn) (a :: as) [] pos2] [] pos) (tE X.K adr cls W C (.prim .listR es)) := by
  refine ⟨fun pins s σ H Q I h => ?_⟩
  obtain ⟨x1, x2, x3, x4, x5⟩ := hl
  refine Call_ (ld_blt I x1 x2 x3 (PyProof.Rows.callWith_type1 (args_cons (thn (rng_any hx ha he hpl I (rg_ops (.inl rfl) h)) fun x s1 ⟨r, i, j, c, n, t, u, v, H1, ex, hr, ⟨c1, c2, c3, c4⟩, I1, hn, S, l, q⟩ => args_nil ?_) na) na) x4 x5)
  subst ex
  refine call_list_range (n := n) (I1.ok.hd hc) hr c3 c4 (by omega) fun h' tk acc c' hk e' hi => ?_
  refine ⟨.ref s1.heap.objs.size, upd H1 s1.heap.objs.size (.lst (rgV2 i c n)), I1.laid hk (Nat.le_refl _) (show ObjOk X.prog X.w _ _ _ (.lst (rgV2 i c n)) from ⟨?_, acc.toList, c', vals_rg2 hi, ?_⟩), rfl, q.newL (by rw [if_pos rfl]) l (rgV2_rv i c n) (I1.hok.fresh (Nat.le_refl _))⟩
  · rw [rgV2_len, sizeLine_eq]; omega
  · rw [Array.toArray_toList]; exact e'
theorem e_tupleR (hc : X.calm = true) (hl : BName X "tuple" (.type "tuple")) (hx : BName X "range" (.type "range")) {pl pn pos2 : Pos} (ha : PA X (a :: as) (tEs X.K adr cls W C es)) (he : starEach (a :: as) X.env = (false, eval a X.env) :: starEach as X.env)
    (hpl : (backTo pos2 (starEach as X.env)).any (·.1) = false) (na : starEach [.Call (.Name "range" pn) (a :: as) [] pos2] X.env = (false, eval (.Call (.Name "range" pn) (a :: as) [] pos2) X.env) :: starEach [] X.env) :
    PE X (.Call (.Name "tuple" pl) [.Call (.Name "range" pn) (a :: as) [] pos2] [] pos) (tE X.K adr cls W C (.prim .tupleR es)) := by
  refine ⟨fun pins s σ H Q I h => ?_⟩
  obtain ⟨x1, x2, x3, x4, x5⟩ := hl
  refine Call_ (ld_blt I x1 x2 x3 (PyProof.Rows.callWith_type1 (args_cons (thn (rng_any hx ha he hpl I (rg_ops (.inr rfl) h)) fun x s1 ⟨r, i, j, c, n, t, u, v, H1, ex, hr, ⟨c1, c2, c3, c4⟩, I1, hn, S, l, q⟩ => args_nil ?_) na) na) x4 x5)
  subst ex
  refine call_tuple_range (n := n) (I1.ok.hd hc) hr c3 c4 (by omega) fun h' tk acc hk hi => ?_
  have I2 : Inv X pins σ H1 { s1 with heap := h', toks := tk } := I1.kept hk
  refine ⟨.ref h'.objs.size, upd H1 h'.objs.size (.tup (rgV2 i c n)), I2.laid (t' := tk) (fun c o e => Heap.get?_push_of_some _ e) (Nat.le_refl _) (show ObjOk X.prog X.w _ _ _ (.tup (rgV2 i c n)) from ⟨?_, acc.toList, vals_rg2 hi, ?_⟩), rfl, q.newT (by rw [if_neg (by decide)]) l (rgV2_rv i c n) (I2.hok.fresh (Nat.le_refl _))⟩
  · rw [rgV2_len, sizeLine_eq]; omega
  · rw [Array.toArray_toList]; exact IsTup.new _ _
end
end Vi
set_option Elab.async false
set_option linter.all false
set_option maxRecDepth 100000
set_option maxHeartbeats 4000000
/-! Vi, part J: lists that are changed in place. -/
namespace Vi
open PySem PySem.Spec PyProof.Rows L2
section
variable {K : PySem.W.Frag} {adr : Nat → Addr} {S H S' H' : Hp} {ρ ρ' : Env} {σ : L2.St}
theorem Rep.poke (rp : Rep K adr S H ρ σ) {i : Nat} {xs ys : List D} {a : Addr} {vs : List V} (e : ρ[i]? = some (some (.ow xs))) (ea : σ[i]? = some (some (.ref a))) (r : RVs K adr S vs ys) :
    Ext K adr S H ρ σ S (upd H a (.lst vs)) (ρ.set i (some (.ow ys))) := by
  obtain ⟨b, ws, p, q, n, t⟩ := rp.ow i xs e
  rw [ea] at p
  cases p
  have lt : i < ρ.length := (List.getElem?_eq_some_iff.mp e).1
  have own : Own ρ σ a := ⟨i, xs, e, ea⟩
  refine ⟨Le.rf, fun b o z nz => ?_, fun b o z => ?_, ⟨fun b o z => ?_, by simpa using rp.len, fun j d z => ?_, fun j zs z => ?_, fun j k zs us b z1 z2 z3 z4 => ?_⟩, fun b ⟨j, zs, z1, z2⟩ => ?_, fun _ _ z => .inl z, fun j s z => ?_⟩
  · rw [upd_ne (fun w => nz (by rw [w]; exact own))]
    exact z
  · by_cases w : b = a
    · subst w
      exact ⟨_, upd_same⟩
    · exact ⟨o, by rw [upd_ne w]; exact z⟩
  · rw [upd_ne (fun w => by rw [w, n] at z; cases z)]
    exact rp.sub b o z
  · rcases set_get z with ⟨rfl, y⟩ | ⟨_, y⟩
    · cases y
    · exact rp.sh j d y
  · rcases set_get z with ⟨rfl, y⟩ | ⟨nj, y⟩
    · cases y
      exact ⟨a, vs, ea, upd_same, n, r⟩
    · obtain ⟨b, us, x1, x2, x3, x4⟩ := rp.ow j zs y
      exact ⟨b, us, x1, by rw [upd_ne (fun w => nj (rp.dj i j xs zs a e y ea (by rw [← w]; exact x1)))]; exact x2, x3, x4⟩
  · have get : ∀ {j : Nat} {zs : List D}, (ρ.set i (some (.ow ys)))[j]? = some (some (.ow zs)) → ∃ zs', ρ[j]? = some (some (.ow zs')) := fun {j zs} z => by
      rcases set_get z with ⟨rfl, y⟩ | ⟨_, y⟩
      · exact ⟨xs, e⟩
      · exact ⟨zs, y⟩
    obtain ⟨_, y1⟩ := get z1
    obtain ⟨_, y2⟩ := get z2
    exact rp.dj j k _ _ b y1 y2 z3 z4
  · rcases set_get z1 with ⟨rfl, y⟩ | ⟨_, y⟩
    · exact ⟨_, xs, e, z2⟩
    · exact ⟨j, zs, y, z2⟩
  · by_cases w : i = j
    · subst w
      exact ⟨_, List.getElem?_set_self lt⟩
    · exact ⟨s, by rw [List.getElem?_set_ne w]; exact z⟩
end
section
variable {X : Cx} {adr cls : Nat → Addr} {W : WX} {C : Ctx} {a b c : Expr} {as : List Expr} {ea eb ec : E} {es : Es} {pos p2 : Pos}
/-- a method that changes its list, by values -/
def tMu (K : PySem.W.Frag) (adr : Nat → Addr) (m : Mu) : V → List V → Hp → VK → Prop := fun x vs H Q => ∃ S a ws xs ds r ys, x = .ref a ∧ Le S H ∧ H a = some (.lst ws) ∧ RVs K adr S ws xs ∧ RVs K adr S vs ds ∧ evMu m xs ds = some (r, ys) ∧
  ∀ v zs, RVs K adr S zs ys → (∀ d, r = .v d → RV K adr S v d) → (∃ d, r = .v d) → Q v (upd H a (.lst zs))
theorem m_append : MtR X "list.append" (tMu X.K adr .append) := by
  intro pins s σ H x xs v us Q I rx rxs h
  obtain ⟨S, a, ws, ys, ds, r, zs, rfl, l, ha, rw1, rv, e, q⟩ := h
  cases ds with
  | nil => cases e
  | cons d t =>
    cases t with
    | cons _ _ => cases e
    | nil =>
      cases rv with
      | cons hv t =>
        cases t
        obtain ⟨hb, e2⟩ := ifSome (show (if Nat.blt ys.length lim = true then some (R.v .non, ys ++ [d]) else none) = some (r, zs) from e)
        cases e2
        have hlt : ys.length < 1000000 := Nat.ble_eq.mp hb
        exact mt_append pins s σ H _ _ v us Q I rx rxs ⟨a, ws, _, rfl, rfl, ha, by rw [rw1.len, sizeLine_eq]; omega, q _ _ (rw1.app (.cons hv .nil)) (fun d z => by cases z; exact .non) ⟨_, rfl⟩⟩
theorem m_extend : MtR X "list.extend" (tMu X.K adr .extend) := by
  intro pins s σ H x xs v us Q I rx rxs h
  obtain ⟨S, a, ws, ys, ds, r, zs, rfl, l, ha, rw1, rv, e, q⟩ := h
  cases ds with
  | nil => cases e
  | cons d t =>
    cases t with
    | cons _ _ => cases d <;> cases e
    | nil =>
      cases rv with
      | cons hv t =>
        cases t
        cases d with
        | lst us' =>
          obtain ⟨hb, e2⟩ := ifSome (show (if Nat.ble (ys.length + us'.length) lim = true then some (R.v .non, ys ++ us') else none) = some (r, zs) from e)
          cases e2
          have hle : ys.length + us'.length ≤ 1000000 := Nat.le_of_ble_eq_true hb
          cases hv with
          | lst hb' rb =>
            exact mt_extend pins s σ H _ _ v us Q I rx rxs ⟨a, _, ws, _, rfl, rfl, ha, l _ _ hb', by rw [rw1.len, rb.len, sizeLine_eq]; omega, q _ _ (rw1.app rb) (fun d z => by cases z; exact .non) ⟨_, rfl⟩⟩
        | _ => cases e
theorem m_pop : MtR X "list.pop" (tMu X.K adr .pop) := by
  intro pins s σ H x xs v us Q I rx rxs h
  obtain ⟨S, a, ws, ys, ds, r, zs, rfl, l, ha, rw1, rv, e, q⟩ := h
  cases ds with
  | nil =>
    cases rv
    have e' : (match ys[ys.length - 1]? with
      | some y => some (R.v y, ys.dropLast)
      | none => none) = some (r, zs) := e
    split at e'
    · rename_i y ey
      cases e'
      obtain ⟨u, eu, ru⟩ := rw1.at ey
      exact mt_pop pins s σ H _ _ v us Q I rx rxs ⟨a, ws, u, rfl, rfl, ha, by rw [rw1.len]; exact eu, q _ _ rw1.init (fun d z => by cases z; exact ru) ⟨_, rfl⟩⟩
    · cases e'
  | cons d t =>
    cases t with
    | cons _ _ => cases d <;> cases e
    | nil =>
      cases rv with
      | cons hv t =>
        cases t
        cases d with
        | int i =>
          have e' : (if small i = true then (match seqIndex? i ys.length with
            | some k => (match ys[k]? with
              | some y => some (R.v y, ys.eraseIdx k)
              | none => none)
            | none => none) else none) = some (r, zs) := e
          by_cases hs : small i = true
          · rw [if_pos hs] at e'
            have hb := small_iff hs
            split at e'
            · rename_i k ek
              split at e'
              · rename_i y ey
                cases e'
                obtain ⟨u, eu, ru⟩ := rw1.at ey
                cases hv
                exact mt_popAt pins s σ H _ _ v us Q I rx rxs ⟨a, ws, i, k, u, rfl, rfl, ha, by omega, by omega, by rw [rw1.len]; exact ek, eu, q _ _ (rw1.erase k) (fun d z => by cases z; exact ru) ⟨_, rfl⟩⟩
              · cases e'
            · cases e'
          · rw [if_neg hs] at e'
            cases e'
        | _ => cases e
theorem RVs.step {S S' : Hp} {K : PySem.W.Frag} {vs : List V} {ds : List D} (r : RVs K adr S vs ds) (l : Le S S') : RVs K adr S' vs ds := r.mono l
/-- the method's reading -/
theorem mut_ops {m : Mu} {i : Nat} {σ : L2.St} {H : Hp} {Q : VK} (q : tE X.K adr cls W C (.mut m i es) σ H Q) : ∃ a, σ[i]? = some (some (.ref a)) ∧ (∃ vs, H a = some (.lst vs)) ∧ tEs X.K adr cls W C es σ H fun vs H2 => tMu X.K adr m (.ref a) vs H2 Q := by
  obtain ⟨S, ρ, rp, p⟩ := q
  unfold evE at p
  split at p
  · rename_i xs0 e0
    obtain ⟨a, vs0, ea, ha0, _, _⟩ := rp.ow i _ e0
    refine ⟨a, ea, ⟨vs0, ha0⟩, S, ρ, rp, p.first fun rs S1 H1 ρ1 x1 p1 vs hs => ?_⟩
    split at p1
    · exact p1.no
    · rename_i ds ρ2 e1
      obtain ⟨Sb, q, rv⟩ := hs.esc x1.rp e1
      split at p1
      · rename_i xs e2
        obtain ⟨b, ws, e3, hb, nb, rb⟩ := q.rp.ow i _ e2
        rw [ea] at e3
        cases e3
        split at p1
        · rename_i r ys e4
          refine ⟨Sb, a, ws, xs, ds, r, ys, rfl, q.rp.sub, hb, rb, rv, e4, fun v zs rz rr ⟨d, ed⟩ => ?_⟩
          subst ed
          exact p1.end_ ((x1.shr q).tr (q.rp.poke e2 ea rz)) v (rr d rfl)
        · exact p1.no
      · exact p1.no
  · exact p.no
theorem e_mut {m : Mu} {i : Nat} {id : String} {name x : Str} {px apos : Pos} (slot : Slot "list" name id) (hty : typeOf (.builtin id) = pure (.type "method_descriptor")) (hm : MtR X id (tMu X.K adr m)) (hv : PE X (.Name x px) (tVar i)) (ha : PA X (a :: as) (tEs X.K adr cls W C es))
    (hbase : attributeBase (.Name x px) name X.env (eval (.Name x px) X.env) = eval (.Name x px) X.env)
    (hfew : ((backTo pos (starEach (a :: as) X.env)).all (fun x => !x.1) && (backToKw pos (keywordEach [] X.env)).all (fun x => x.1.isSome)
      && decide ((a :: as).length + ([] : List Keyword).length + (if ([] : List Keyword).isEmpty then 0 else 1) < 30)) = true)
    (hline : (apos.endLine == pos.line) = true) (hs : starEach (a :: as) X.env = (false, eval a X.env) :: starEach as X.env) (hplain : (backTo pos (starEach as X.env)).any (·.1) = false) :
    PE X (.Call (.Attribute (.Name x px) name apos) (a :: as) [] pos) (tE X.K adr cls W C (.mut m i es)) :=
  PE.imp (pe_bm F.plainAttrs_list slot hty hm hv ha hbase hfew hline hs hplain) fun σ H Q q => by
    obtain ⟨b, e, ⟨vs, hb⟩, t⟩ := mut_ops q
    exact ⟨.ref b, e, .inl ⟨rfl, vs, .inl (.inl hb)⟩, t⟩
theorem e_mut0 {m : Mu} {i : Nat} {id : String} {name x : Str} {px apos : Pos} (slot : Slot "list" name id) (hty : typeOf (.builtin id) = pure (.type "method_descriptor")) (hm : MtR X id (tMu X.K adr m)) (hv : PE X (.Name x px) (tVar i))
    (hbase : attributeBase (.Name x px) name X.env (eval (.Name x px) X.env) = eval (.Name x px) X.env) (hline : (apos.endLine == pos.line) = true) :
    PE X (.Call (.Attribute (.Name x px) name apos) [] [] pos) (tE X.K adr cls W C (.mut m i .nil)) :=
  PE.imp (pe_bm0 F.plainAttrs_list slot hty hm hv hbase hline) fun σ H Q q => by
    obtain ⟨b, e, ⟨vs, hb⟩, S, ρ, rp, p⟩ := mut_ops q
    exact ⟨.ref b, e, .inl ⟨rfl, vs, .inl (.inl hb)⟩, p.end_ (.rf rp) _ .nil⟩
end
end Vi
set_option Elab.async false
set_option linter.all false
set_option maxRecDepth 100000
set_option maxHeartbeats 4000000
/-! Vi, part K: calls. -/
namespace Vi
open PySem PySem.Spec PyProof.Rows L2
section
variable (K : PySem.W.Frag) (adr cls : Nat → Addr)
/-- the arguments' values: ia is where the list stands that is handed in -/
def ArgV (S H : Hp) (vs : List V) (ds : List D) : Option (List D) → Option Addr → Prop
  | none, none => RVs K adr S vs ds
  | some xs, some a => ∃ ws us, vs = .ref a :: us ∧ H a = some (.lst ws) ∧ S a = none ∧ RVs K adr S ws xs ∧ RVs K adr S us ds
  | _, _ => False
/-- what the list holds behind the call -/
def OutV (S' H' : Hp) : Option Addr → Option (List D) → Prop
  | none, none => True
  | some a, some ys => ∃ ws, H' a = some (.lst ws) ∧ S' a = none ∧ RVs K adr S' ws ys
  | _, _ => False
/-- behind a call -/
structure CE (S H : Hp) (ia : Option Addr) (S' H' : Hp) (out : Option (List D)) : Prop where
  s : Le S S'
  sub : Le S' H'
  kp : ∀ a o, H a = some o → ia ≠ some a → H' a = some o
  th : ∀ a o, H a = some o → ∃ o', H' a = some o'
  fr : ∀ a o, S' a = some o → S a = some o ∨ H a = none
  out : OutV K adr S' H' ia out
/-- a call's promise -/
def PostC (o : Option CRes) (S H : Hp) (ia : Option Addr) (Q : VK) (G : XK) : Prop := match o with
  | none => False
  | some (.ok r out) => ∀ v S' H', CE K adr S H ia S' H' out → NR K adr H S' H' v r → Q v H'
  | some (.ex x out) => ∀ c d S' H', CE K adr S H ia S' H' out → RX cls x c d H' → G c d H'
def spF (run : Nat → Option (List D) → List D → Option CRes) (np : Nat) (f : Nat) : Sp := fun vs H Q G => vs.length = np ∧ ∃ S io ds ia, Le S H ∧ ArgV K adr S H vs ds io ia ∧ PostC K adr cls (run f io ds) S H ia Q G
end
section
variable {K : PySem.W.Frag} {adr cls : Nat → Addr} {S H S' H' S1 H1 H0 : Hp} {ρ ρ' ρ1 ρ2 : Env} {σ : L2.St}
/-- behind a call that no list was handed to -/
theorem CE.ext0 {out : Option (List D)} (rp : Rep K adr S H ρ σ) (c : CE K adr S H none S' H' out) : Ext K adr S H ρ σ S' H' ρ where
  s := c.s
  kp := fun a o e _ => c.kp a o e (fun z => nomatch z)
  th := c.th
  rp := {
    sub := c.sub
    len := rp.len
    sh := fun i d e => by
      obtain ⟨v, a, b⟩ := rp.sh i d e
      exact ⟨v, a, b.mono c.s⟩
    ow := fun i xs e => by
      obtain ⟨a, vs, p, q, n, t⟩ := rp.ow i xs e
      refine ⟨a, vs, p, c.kp a _ q (fun z => nomatch z), ?_, t.mono c.s⟩
      cases z : S' a with
      | none => rfl
      | some o =>
        rcases c.fr a o z with y | y
        · rw [n] at y
          cases y
        · rw [q] at y
          cases y
    dj := rp.dj }
  ow := fun _ z => z
  fr := fun a o e => (c.fr a o e).elim .inl fun z => .inr (.inl z)
  dm := fun _ s e => ⟨s, e⟩
/-- behind a call that slot i's list was handed to -/
theorem CE.ext1 {i : Nat} {xs ys : List D} {a : Addr} (rp : Rep K adr S H ρ σ) (e : ρ[i]? = some (some (.ow xs))) (ea : σ[i]? = some (some (.ref a))) (c : CE K adr S H (some a) S' H' (some ys)) : Ext K adr S H ρ σ S' H' (ρ.set i (some (.ow ys))) := by
  have lt : i < ρ.length := (List.getElem?_eq_some_iff.mp e).1
  have own : Own ρ σ a := ⟨i, xs, e, ea⟩
  obtain ⟨ws, o1, o2, o3⟩ := c.out
  refine ⟨c.s, fun b o z nz => c.kp b o z (fun w => by cases w; exact nz own), c.th, ⟨c.sub, by simpa using rp.len, fun j d z => ?_, fun j zs z => ?_, fun j k zs us b z1 z2 z3 z4 => ?_⟩, fun b ⟨j, zs, z1, z2⟩ => ?_, fun a o e => (c.fr a o e).elim .inl fun z => .inr (.inl z), fun j s z => ?_⟩
  · rcases set_get z with ⟨rfl, y⟩ | ⟨_, y⟩
    · cases y
    · obtain ⟨v, x1, x2⟩ := rp.sh j d y
      exact ⟨v, x1, x2.mono c.s⟩
  · rcases set_get z with ⟨rfl, y⟩ | ⟨nj, y⟩
    · cases y
      exact ⟨a, ws, ea, o1, o2, o3⟩
    · obtain ⟨b, us, x1, x2, x3, x4⟩ := rp.ow j zs y
      have nb : (some a : Option Addr) ≠ some b := fun w => by
        cases w
        exact nj (rp.dj i j xs zs a e y ea x1)
      refine ⟨b, us, x1, c.kp b _ x2 nb, ?_, x4.mono c.s⟩
      cases z : S' b with
      | none => rfl
      | some o =>
        rcases c.fr b o z with y | y
        · rw [x3] at y
          cases y
        · rw [x2] at y
          cases y
  · have get : ∀ {j : Nat} {zs : List D}, (ρ.set i (some (.ow ys)))[j]? = some (some (.ow zs)) → ∃ zs', ρ[j]? = some (some (.ow zs')) := fun {j zs} z => by
      rcases set_get z with ⟨rfl, y⟩ | ⟨_, y⟩
      · exact ⟨xs, e⟩
      · exact ⟨zs, y⟩
    obtain ⟨_, y1⟩ := get z1
    obtain ⟨_, y2⟩ := get z2
    exact rp.dj j k _ _ b y1 y2 z3 z4
  · rcases set_get z1 with ⟨rfl, y⟩ | ⟨_, y⟩
    · exact ⟨_, xs, e, z2⟩
    · exact ⟨j, zs, y, z2⟩
  · by_cases w : i = j
    · subst w
      exact ⟨_, List.getElem?_set_self lt⟩
    · exact ⟨s, by rw [List.getElem?_set_ne w]; exact z⟩
theorem args_ok {b : Bool} {vs : List V} {rs : List R} {io : Option (Nat × List D)} {ds : List D} (rp : Rep K adr S H ρ σ) (h : RRs K adr H0 S H ρ σ vs rs) (e : args b ρ rs = some (io, ds, ρ')) :
    ∃ Sb ia, Shr K adr H0 S H ρ σ Sb ρ' ∧ ArgV K adr Sb H vs ds (io.map (·.2)) ia ∧ match io, ia with
      | none, none => True
      | some (i, xs), some a => ρ'[i]? = some (some (.ow xs)) ∧ σ[i]? = some (some (.ref a))
      | _, _ => False := by
  cases b with
  | false =>
    have e' : (match escs ρ rs with
      | some (ds, ρ1) => some ((none : Option (Nat × List D)), ds, ρ1)
      | none => none) = some (io, ds, ρ') := e
    split at e'
    · rename_i ds1 ρ1 e1
      cases e'
      obtain ⟨Sb, q, rv⟩ := h.esc rp e1
      exact ⟨Sb, none, q, rv, trivial⟩
    · cases e'
  | true =>
    cases h with
    | nil => cases e
    | @cons v r vs rs h1 t nd =>
      cases r with
      | sl i =>
        have e' : (match escs ρ rs with
          | some (ds, ρ1) => (match ρ1[i]? with
            | some (some (.ow xs)) => some (some (i, xs), ds, ρ1)
            | _ => none)
          | none => none) = some (io, ds, ρ') := e
        split at e'
        · rename_i ds1 ρ1 e1
          split at e'
          · rename_i xs e2
            cases e'
            obtain ⟨Sb, q, rv⟩ := RRs.esc rp t e1
            obtain ⟨a, ws, e3, hb, nb, rb⟩ := q.rp.ow i _ e2
            obtain ⟨e4, _⟩ := h1
            rw [e3] at e4
            cases e4
            exact ⟨Sb, some a, q, ⟨ws, vs, rfl, hb, nb, rb, rv⟩, e2, e3⟩
          · cases e'
        · cases e'
      | _ => cases e
theorem ArgV.len {vs : List V} {ds : List D} {io : Option (List D)} {ia : Option Addr} (h : ArgV K adr S H vs ds io ia) : vs.length = ds.length + (if io.isSome then 1 else 0) := by
  cases io with
  | none =>
    cases ia with
    | none => exact RVs.len h
    | some _ => exact h.elim
  | some xs =>
    cases ia with
    | none => exact h.elim
    | some a =>
      obtain ⟨ws, us, rfl, _, _, _, r⟩ := h
      show us.length + 1 = ds.length + 1
      rw [r.len]
end
/-- the defs that stand there, each with its promise -/
structure Tab (X : Cx) (adr cls : Nat → Addr) (C : Ctx) (k : Nat) : Prop where
  ok : ∀ f df, C.defs f = some df → ∃ fd ps, FnOk X.prog X.w X.K X.mg X.base (L2.CX X.prog X.w) k (adr f) fd ps (spF X.K adr cls C.run df.np f) ∧ PySem.W.keepIn X.K (.ref (adr f)) = true ∧ Binds X.K fd ps []
  np : ∀ f df io ds c, C.defs f = some df → C.run f io ds = some c → df.np = ds.length + (if io.isSome then 1 else 0)
section
variable {X : Cx} {adr cls : Nat → Addr} {W : WX} {C : Ctx} {a b c : Expr} {as : List Expr} {ea eb ec : E} {es : Es} {pos p2 : Pos} {k f : Nat}
theorem call_ops {σ : L2.St} {H S1 H1 S : Hp} {ρ ρ1 : Env} {Q : VK} {vs : List V} {rs : List R} (T : Tab X adr cls C k) (x1 : Ext X.K adr S H ρ σ S1 H1 ρ1) (hs : RRs X.K adr H S1 H1 ρ1 σ vs rs)
    (p : Post X.K adr cls W (doCall C f rs ρ1) S H ρ σ fun r S' H' ρ' => ∀ v, RR X.K adr H S' H' ρ' σ v r → Q v H') : ∃ df, C.defs f = some df ∧ spF X.K adr cls C.run df.np f vs H1 Q (WE W σ) := by
  unfold doCall at p
  split at p
  · exact p.no
  · rename_i df edf
    split at p
    · exact p.no
    · rename_i io ds ρ2 e1
      obtain ⟨Sb, ia, q, av, hi⟩ := args_ok x1.rp hs e1
      split at p
      · exact p.no
      · rename_i cr e2
        have xs := x1.shr q
        have hlen : vs.length = df.np := by
          rw [av.len, T.np f df _ _ _ edf e2]
        refine ⟨df, edf, hlen, Sb, io.map (·.2), ds, ia, q.rp.sub, av, ?_⟩
        rw [e2]
        cases cr with
        | ok r out =>
          intro v S' H' ce nr
          cases io with
          | none =>
            cases ia with
            | some _ => exact hi.elim
            | none =>
              cases out with
              | some _ => exact ce.out.elim
              | none =>
                have ex := CE.ext0 q.rp ce
                have xf := xs.tr ex
                cases r with
                | sl i => exact p.no
                | v d => exact p.end_ xf v nr
                | nw zs => exact p.end_ xf v ((NR.rr (S := Sb) (H := H1) q.rp nr |>.early xs.th) |> fun z => by
                    obtain ⟨b, ws, e, h1, h2, h3, _, h5⟩ := z
                    refine ⟨b, ws, e, h1, h2, h3, fun ow => ?_, h5⟩
                    obtain ⟨_, _, e6, _, _, _, e7⟩ := nr
                    rw [e] at e6
                    cases e6
                    obtain ⟨_, ws', e8⟩ := q.rp.nOwn ow
                    rw [e7] at e8
                    cases e8)
          | some iw =>
            obtain ⟨i, xs0⟩ := iw
            cases ia with
            | none => exact hi.elim
            | some a =>
              cases out with
              | none => exact ce.out.elim
              | some ys =>
                obtain ⟨h1, h2⟩ := hi
                have ex := CE.ext1 q.rp h1 h2 ce
                have xf := xs.tr ex
                cases r with
                | sl i => exact p.no
                | v d => exact p.end_ xf v nr
                | nw zs =>
                  refine p.end_ xf v ?_
                  obtain ⟨b, ws, e, h1', h2', h3', h4'⟩ := nr
                  refine ⟨b, ws, e, h1', h2', h3', fun ow => ?_, ?_⟩
                  · obtain ⟨_, ws', e8⟩ := q.rp.nOwn (ex.ow b ow)
                    rw [h4'] at e8
                    cases e8
                  · cases e9 : H b with
                    | none => rfl
                    | some o =>
                      obtain ⟨o', e10⟩ := xs.th b o e9
                      rw [h4'] at e10
                      cases e10
        | ex x out =>
          intro c d S' H' ce rx
          cases io with
          | none =>
            cases ia with
            | some _ => exact hi.elim
            | none =>
              cases out with
              | some _ => exact ce.out.elim
              | none => exact p c d S' H' (xs.tr (CE.ext0 q.rp ce)) rx
          | some iw =>
            obtain ⟨i, xs0⟩ := iw
            cases ia with
            | none => exact hi.elim
            | some a =>
              cases out with
              | none => exact ce.out.elim
              | some ys => exact p c d S' H' (xs.tr (CE.ext1 q.rp hi.1 hi.2 ce)) rx
/-- f(e, ..) -/
theorem e_call {x : Str} {pn : Pos} {df : Def} (T : Tab X adr cls C k) (hr : Room k X.A) (tk : Takes X W) (edf : C.defs f = some df) (hg : Gl X x) (hm : X.mg x = some (.ref (adr f))) (hdb : (x == ("__debug__" : Str)) = false) (ha : PA X (a :: as) (tEs X.K adr cls W C es))
    (he : starEach (a :: as) X.env = (false, eval a X.env) :: starEach as X.env) (hpl : (backTo pos (starEach as X.env)).any (·.1) = false) : PE X (.Call (.Name x pn) (a :: as) [] pos) (tE X.K adr cls W C (.call f es)) := by
  obtain ⟨fd, ps, F, hk, hb⟩ := T.ok f df edf
  refine PE.imp (pe_callS F hr hg hm hk hb (fun σ => passAt tk σ) ha hdb he hpl) fun σ H Q q => ?_
  obtain ⟨S, ρ, rp, p⟩ := q
  unfold evE at p
  refine ⟨S, ρ, rp, p.first fun rs S1 H1 ρ1 x1 p1 vs hs => ?_⟩
  obtain ⟨df', e1, h⟩ := call_ops T x1 hs p1
  rw [edf] at e1
  cases e1
  exact h
/-- f() -/
theorem e_call0 {x : Str} {pn : Pos} {df : Def} (T : Tab X adr cls C k) (hr : Room k X.A) (tk : Takes X W) (edf : C.defs f = some df) (hg : Gl X x) (hm : X.mg x = some (.ref (adr f))) (hdb : (x == ("__debug__" : Str)) = false) :
    PE X (.Call (.Name x pn) [] [] pos) (tE X.K adr cls W C (.call f .nil)) := by
  obtain ⟨fd, ps, F, hk, hb⟩ := T.ok f df edf
  refine ⟨fun pins s σ H Q I q => ?_⟩
  obtain ⟨S, ρ, rp, p⟩ := q
  unfold evE at p
  have p' : Post X.K adr cls W (bnd (some (.ok [] ρ)) fun rs ρ1 => doCall C f rs ρ1) S H ρ σ fun r S' H' ρ' => ∀ v, RR X.K adr H S' H' ρ' σ v r → Q v H' := p
  obtain ⟨df', e1, h⟩ := call_ops (vs := []) T (Ext.rf rp) .nil p'
  rw [edf] at e1
  cases e1
  refine wpAny_Call_Name_kw (ld_glob I hg hm ?_ hdb)
  exact PySem.W.callWith_K0 I.kIn hk (run_fnS (us := []) F hr hb (passAt tk σ) I .nil h)
/-- f(e, ..), f a slot -/
theorem e_callv {x : Str} {i : Nat} {pn : Pos} (T : Tab X adr cls C k) (hr : Room k X.A) (tk : Takes X W) (hv : PE X (.Name x pn) (tVar i)) (ha : PA X (a :: as) (tEs X.K adr cls W C es))
    (he : starEach (a :: as) X.env = (false, eval a X.env) :: starEach as X.env) (hpl : (backTo pos (starEach as X.env)).any (·.1) = false) : PE X (.Call (.Name x pn) (a :: as) [] pos) (tE X.K adr cls W C (.callv i es)) := by
  refine ⟨fun pins s σ H Q I q => ?_⟩
  obtain ⟨S, ρ, rp, p⟩ := q
  unfold evE at p
  split at p
  · rename_i f e0
    split at p
    · rename_i df edf
      obtain ⟨fd, ps, F, hk, hb⟩ := T.ok f df edf
      obtain ⟨v, es0, rf⟩ := rp.sh i _ e0
      cases rf
      refine wpAny_Call_Name_kw (thn (hv.run pins s σ H (fun v H1 => v = .ref (adr f) ∧ H1 = H) I ⟨.ref (adr f), es0, rfl, rfl⟩) fun u s1 ⟨v, H1, I1, r1, q1⟩ => ?_)
      obtain ⟨rfl, rfl⟩ := q1
      cases r1
      have q2 : tEs X.K adr cls W C es σ H1 (fun vs H2 => spF X.K adr cls C.run df.np f vs H2 Q (WE W σ)) := ⟨S, ρ, rp, p.first fun rs S1 H1 ρ1 x1 p1 vs hs => by
        obtain ⟨df', e1, h⟩ := call_ops T x1 hs p1
        rw [edf] at e1
        cases e1
        exact h⟩
      refine PySem.W.callWith_K (h₀ := X.base) I.ok.mod.kin hk (thn (ha.run pos pins s1 σ _ _ I1 q2) fun us s2 ⟨vs, H2, I2, r, q⟩ => ⟨I2.kIn, ?_⟩) he hpl
      exact run_fnS F hr hb (passAt tk σ) I2 r q
    · exact p.no
  · exact p.no
end
end Vi
set_option Elab.async false
set_option linter.all false
set_option maxRecDepth 100000
set_option maxHeartbeats 4000000
/-! Vi, part L: what is walked. -/
namespace Vi
open PySem PySem.Spec PyProof.Rows L2
/-- the items ds one by one, while what S0 knows stands -/
structure WkD (K : PySem.W.Frag) (adr : Nat → Addr) (J : L2.It) (S0 : Hp) (ds : List D) : Prop where
  goes : ∀ i S H, Le S0 S → Le S H → i < ds.length → J.go i H
  stops : ∀ S H, Le S0 S → Le S H → J.stop ds.length H
  yields : ∀ i S H x H' d, Le S0 S → Le S H → ds[i]? = some d → J.yld i H x H' → ∃ S', Grow S H S' H' ∧ RV K adr S' x d
section
variable {K : PySem.W.Frag} {adr : Nat → Addr} {S0 : Hp}
theorem wk_list {a : Addr} {vs : List V} {ds : List D} (h : S0 a = some (.lst vs)) (r : RVs K adr S0 vs ds) : WkD K adr (Itl K a) S0 ds where
  goes := fun i S H l1 l2 hi => by
    have q : SqL K H a vs := .inl (.inl (l2 _ _ (l1 _ _ h)))
    rw [← r.len] at hi
    exact ⟨vs, vs[i], q, by simp [hi]⟩
  stops := fun S H l1 l2 => ⟨vs, .inl (.inl (l2 _ _ (l1 _ _ h))), by rw [r.len]; exact Nat.le_refl _⟩
  yields := fun i S H x H' d l1 l2 hd y => by
    obtain ⟨rfl, y2⟩ := y
    obtain ⟨v, e, rv⟩ := r.at hd
    have z := y2 vs (.inl (.inl (l2 _ _ (l1 _ _ h))))
    rw [e] at z
    cases z
    exact ⟨S, .rf l2, rv.mono l1⟩
theorem wk_tup {a : Addr} {vs : List V} {ds : List D} (h : SqT K S0 a vs) (r : RVs K adr S0 vs ds) : WkD K adr (Itt K a) S0 ds where
  goes := fun i S H l1 l2 hi => by
    have q : SqT K H a vs := l2.sqT (l1.sqT h)
    rw [← r.len] at hi
    exact ⟨vs, vs[i], q, by simp [hi]⟩
  stops := fun S H l1 l2 => ⟨vs, l2.sqT (l1.sqT h), by rw [r.len]; exact Nat.le_refl _⟩
  yields := fun i S H x H' d l1 l2 hd y => by
    obtain ⟨rfl, y2⟩ := y
    obtain ⟨v, e, rv⟩ := r.at hd
    have z := y2 vs (l2.sqT (l1.sqT h))
    rw [e] at z
    cases z
    exact ⟨S, .rf l2, rv.mono l1⟩
theorem wk_rng {i c : Int} {n : Nat} : WkD K adr (Itc i c n) S0 (rgC i c n) where
  goes := fun j S H _ _ hi => by
    unfold rgC at hi
    rw [List.length_map, List.length_range] at hi
    exact hi
  stops := fun S H _ _ => by
    unfold rgC
    rw [List.length_map, List.length_range]
    exact Nat.le_refl _
  yields := fun j S H x H' d _ l2 hd y => by
    obtain ⟨rfl, rfl⟩ := y
    unfold rgC at hd
    rw [List.getElem?_map] at hd
    obtain ⟨k, e1, rfl⟩ := Option.map_eq_some_iff.mp hd
    have e2 : k = j := by
      rw [List.getElem?_eq_some_iff] at e1
      obtain ⟨_, e⟩ := e1
      rw [List.getElem_range] at e
      exact e.symm
    subst e2
    exact ⟨S, .rf l2, .int _⟩
/-- a new pair -/
theorem pair_grow {S H : Hp} {T : Addr} {x y : V} {dx dy : D} (l : Le S H) (hT : H T = none) (rx : RV K adr S x dx) (ry : RV K adr S y dy) : ∃ S', Grow S H S' (upd H T (.tup [x, y])) ∧ RV K adr S' (.ref T) (.tup [dx, dy]) :=
  ⟨upd S T (.tup [x, y]), .obj l hT, .tup (.inl (.inl upd_same)) (.cons (rx.mono (Le.put (l.none_of hT))) (.cons (ry.mono (Le.put (l.none_of hT))) .nil))⟩
theorem zw_len {α β γ : Type} (f : α → β → γ) : ∀ (xs : List α) (ys : List β), (xs.zipWith f ys).length = min xs.length ys.length := fun xs ys => by simp
theorem zw_at {xs ys : List D} {i : Nat} {d : D} (h : (xs.zipWith (fun x y => D.tup [x, y]) ys)[i]? = some d) : ∃ x y, xs[i]? = some x ∧ ys[i]? = some y ∧ d = .tup [x, y] := by
  rw [List.getElem?_zipWith] at h
  split at h
  · cases h
    exact ⟨_, _, by assumption, by assumption, rfl⟩
  · cases h
theorem wk_zipL {a b : Addr} {vs ws : List V} {xs ys : List D} (h : S0 a = some (.lst vs)) (r : RVs K adr S0 vs xs) (h2 : S0 b = some (.lst ws)) (r2 : RVs K adr S0 ws ys) : WkD K adr (Itz K a b) S0 (xs.zipWith (fun x y => .tup [x, y]) ys) where
  goes := fun i S H l1 l2 hi => by
    rw [zw_len, ← r.len, ← r2.len] at hi
    have i1 : i < vs.length := by omega
    have i2 : i < ws.length := by omega
    exact ⟨vs, ws, vs[i], ws[i], .inl (.inl (l2 _ _ (l1 _ _ h))), .inl (.inl (l2 _ _ (l1 _ _ h2))), by simp [i1], by simp [i2]⟩
  stops := fun S H l1 l2 => ⟨vs, ws, .inl (.inl (l2 _ _ (l1 _ _ h))), .inl (.inl (l2 _ _ (l1 _ _ h2))), by rw [zw_len, r.len, r2.len]; omega⟩
  yields := fun i S H v H' d l1 l2 hd y => by
    obtain ⟨T, x, z, rfl, hT, rfl, h4, h5⟩ := y
    obtain ⟨dx, dy, e1, e2, rfl⟩ := zw_at hd
    obtain ⟨u, e3, ru⟩ := r.at e1
    obtain ⟨u2, e4, ru2⟩ := r2.at e2
    have z1 := h4 vs (.inl (.inl (l2 _ _ (l1 _ _ h))))
    have z2 := h5 ws (.inl (.inl (l2 _ _ (l1 _ _ h2))))
    rw [e3] at z1
    rw [e4] at z2
    cases z1
    cases z2
    exact pair_grow l2 hT (ru.mono l1) (ru2.mono l1)
theorem wk_zipT {a b : Addr} {vs ws : List V} {xs ys : List D} (h : SqT K S0 a vs) (r : RVs K adr S0 vs xs) (h2 : SqT K S0 b ws) (r2 : RVs K adr S0 ws ys) : WkD K adr (RZ.ItzT K a b) S0 (xs.zipWith (fun x y => .tup [x, y]) ys) where
  goes := fun i S H l1 l2 hi => by
    rw [zw_len, ← r.len, ← r2.len] at hi
    have i1 : i < vs.length := by omega
    have i2 : i < ws.length := by omega
    exact ⟨vs, ws, vs[i], ws[i], l2.sqT (l1.sqT h), l2.sqT (l1.sqT h2), by simp [i1], by simp [i2]⟩
  stops := fun S H l1 l2 => ⟨vs, ws, l2.sqT (l1.sqT h), l2.sqT (l1.sqT h2), by rw [zw_len, r.len, r2.len]; omega⟩
  yields := fun i S H v H' d l1 l2 hd y => by
    obtain ⟨T, x, z, rfl, hT, rfl, h4, h5⟩ := y
    obtain ⟨dx, dy, e1, e2, rfl⟩ := zw_at hd
    obtain ⟨u, e3, ru⟩ := r.at e1
    obtain ⟨u2, e4, ru2⟩ := r2.at e2
    have z1 := h4 vs (l2.sqT (l1.sqT h))
    have z2 := h5 ws (l2.sqT (l1.sqT h2))
    rw [e3] at z1
    rw [e4] at z2
    cases z1
    cases z2
    exact pair_grow l2 hT (ru.mono l1) (ru2.mono l1)
theorem zi_at {xs : List D} {i : Nat} {d : D} (h : (xs.zipIdx.map fun p => D.tup [.int p.2, p.1])[i]? = some d) : ∃ x, xs[i]? = some x ∧ d = .tup [.int i, x] := by
  rw [List.getElem?_map] at h
  obtain ⟨p, e, rfl⟩ := Option.map_eq_some_iff.mp h
  rw [List.getElem?_zipIdx] at e
  obtain ⟨x, e1, e2⟩ := Option.map_eq_some_iff.mp e
  subst e2
  exact ⟨x, e1, by simp⟩
theorem wk_enum {a : Addr} {vs : List V} {xs : List D} (h : S0 a = some (.lst vs)) (r : RVs K adr S0 vs xs) : WkD K adr (Ite K a) S0 (xs.zipIdx.map fun p => .tup [.int p.2, p.1]) where
  goes := fun i S H l1 l2 hi => by
    have q : SqL K H a vs := .inl (.inl (l2 _ _ (l1 _ _ h)))
    rw [List.length_map, List.length_zipIdx, ← r.len] at hi
    exact ⟨vs, vs[i], q, by simp [hi]⟩
  stops := fun S H l1 l2 => ⟨vs, .inl (.inl (l2 _ _ (l1 _ _ h))), by rw [List.length_map, List.length_zipIdx, r.len]; exact Nat.le_refl _⟩
  yields := fun i S H v H' d l1 l2 hd y => by
    obtain ⟨T, x, rfl, hT, rfl, h4⟩ := y
    obtain ⟨dx, e1, rfl⟩ := zi_at hd
    obtain ⟨u, e3, ru⟩ := r.at e1
    have z1 := h4 vs (.inl (.inl (l2 _ _ (l1 _ _ h))))
    rw [e3] at z1
    cases z1
    exact pair_grow l2 hT (.int _) (ru.mono l1)
end
section
variable {X : Cx} {adr cls : Nat → Addr} {W : WX} {C : Ctx} {a b c : Expr} {as : List Expr} {ea eb ec : E} {es : Es} {pos p2 : Pos} {tg : Expr}
def tI (K : PySem.W.Frag) (adr cls : Nat → Addr) (W : WX) (C : Ctx) (it : It) : TI := fun σ H R => ∃ S ρ, Rep K adr S H ρ σ ∧ Post K adr cls W (evI C it ρ) S H ρ σ fun ds S' H' _ => ∀ J, WkD K adr J S' ds → R J H'
theorem i_ov (ha : PE X a (tE X.K adr cls W C ea)) : PI X tg a (tI X.K adr cls W C (.ov ea)) := by
  refine ⟨fun pins s σ H R I q => ?_⟩
  obtain ⟨S, ρ, rp, p⟩ := q
  unfold evI at p
  refine thn (ha.run pins s σ H (fun v H1 => ∃ S1 ds, (RV X.K adr S1 v (.lst ds) ∨ RV X.K adr S1 v (.tup ds)) ∧ Le S1 H1 ∧ ∀ J, WkD X.K adr J S1 ds → R J H1) I ⟨S, ρ, rp, p.first fun r S1 H1 ρ1 x1 p1 v h => ?_⟩) fun v s1 ⟨x, H1, I1, r1, S1, ds, q0, l, q⟩ => ?_
  · split at p1
    · rename_i xs ρ2 e
      obtain ⟨Sb, q, rv, _⟩ := h.esc x1.rp e
      exact ⟨Sb, xs, .inl rv, q.rp.sub, p1.end_ (x1.shr q)⟩
    · rename_i xs ρ2 e
      obtain ⟨Sb, q, rv, _⟩ := h.esc x1.rp e
      exact ⟨Sb, xs, .inr rv, q.rp.sub, p1.end_ (x1.shr q)⟩
    · exact p1.no
  · have fresh : ∀ b, b ∈ [s1.heap.objs.size] → FpOk X pins H1 b := fun b hb => by
      have e : b = s1.heap.objs.size := by simpa using hb
      subst e
      exact I1.fpOk (Nat.le_refl _) (I1.hok.fresh (Nat.le_refl _))
    rcases q0 with rv | rv
    · cases rv with
      | @lst l0 vs _ hq rr =>
        cases r1
        obtain ⟨its, rv, p, hz⟩ := I1.list (.inl (.inl (l _ _ hq)))
        refine wpAny_pyIter_list p.isList ?_
        exact ⟨s1.heap.objs.size, [s1.heap.objs.size], _, _, H1, rfl, I1.kept (t' := s1.toks) fun b o e => Heap.get?_push_of_some _ e, turn_list l0 _, ⟨_, Heap.get?_push_size _ rfl, rfl, rfl⟩, fresh, q _ (wk_list hq rr)⟩
    · cases rv with
      | @tup l0 vs _ hq rr =>
        cases r1
        obtain ⟨its, rv, p, hz⟩ := I1.tuple (l.sqT hq)
        refine wpAny_pyIter_tuple (show s1.heap.IsTuple l0 its.toArray from p) ?_
        exact ⟨s1.heap.objs.size, [s1.heap.objs.size], _, _, H1, rfl, I1.kept (t' := s1.toks) fun b o e => Heap.get?_push_of_some _ e, turn_tuple l0 _, ⟨_, Heap.get?_push_size _ rfl, rfl, rfl⟩, fresh, q _ (wk_tup hq rr)⟩
theorem i_rng (hx : BName X "range" (.type "range")) {pn : Pos} (ha : PA X (a :: as) (tEs X.K adr cls W C es)) (he : starEach (a :: as) X.env = (false, eval a X.env) :: starEach as X.env) (hpl : (backTo pos (starEach as X.env)).any (·.1) = false) :
    PI X tg (.Call (.Name "range" pn) (a :: as) [] pos) (tI X.K adr cls W C (.rng es)) := by
  refine ⟨fun pins s σ H R I q => ?_⟩
  obtain ⟨S, ρ, rp, p⟩ := q
  unfold evI at p
  have q : tRg X.K adr cls W C es σ H (fun i c n H' => ∀ J, (∀ S, WkD X.K adr J S (rgC i c n)) → R J H') := ⟨S, ρ, rp, p.first fun rs S1 H1 ρ1 x1 p1 => by
    split at p1
    · rename_i ds e1
      split at p1
      · rename_i xs e2
        obtain ⟨i, c, n, e3, rfl⟩ := rangeC_D e2
        exact ⟨ds, i, c, n, e1, e3, fun J wk => p1.end_ x1 J (wk _)⟩
      · exact p1.no
    · exact p1.no⟩
  refine thn (rng_any hx ha he hpl I q) fun x s1 ⟨r, i, j, c, n, t, u, v, H1, ex, hr, ⟨c1, c2, c3, c4⟩, I1, q⟩ => ?_
  subst ex
  refine wpAny_pyIter_range hr c3 ?_
  refine pi_one (tk := s1.toks) I1 _ (turn_rangeC _ i c n) ?_ (q _ fun _ => wk_rng)
  have e1 : i + ((0 : Nat) : Int) * c = i := by simp
  have e2 : (n : Int) - ((0 : Nat) : Int) = Builtin.Range.rangeSize i j c := by rw [c4]; simp
  show IsRangeIter _ _ (i + ((0 : Nat) : Int) * c) ((n : Int) - ((0 : Nat) : Int)) c
  rw [e1, e2]
  exact Heap.get?_push_size _ rfl
theorem i_zip {elts : List Expr} {kk : Nat} {pn tpos : Pos} (hx : BName X "zip" (.type "zip")) (ha : PE X a (tE X.K adr cls W C ea)) (hb : PE X b (tE X.K adr cls W C eb))
    (he : starEach [a, b] X.env = (false, eval a X.env) :: starEach [b] X.env) (he2 : starEach [b] X.env = (false, eval b X.env) :: starEach [] X.env) (hpl : (backTo pos (starEach [b] X.env)).any (·.1) = false) :
    PI X (.Tuple elts kk tpos) (.Call (.Name "zip" pn) [a, b] [] pos) (tI X.K adr cls W C (.zip ea eb)) := by
  refine ⟨fun pins s σ H R I q => (RZ.pi_zipA hx.1 hx.2.1 (es_cons ha (es_cons hb es_nil he2) he) he hpl).run pins s σ H R I ?_⟩
  obtain ⟨S, ρ, rp, p⟩ := q
  unfold evI at p
  refine ⟨S, ρ, rp, ?_⟩
  have e : evEs C (.cons ea (.cons eb .nil)) ρ = bnd (evE C ea ρ) fun r1 ρ1 => bnd (evE C eb ρ1) fun r2 ρ2 => some (.ok [r1, r2] ρ2) := by
    simp only [evEs]
    congr 1
    funext r1 ρ1
    cases evE C eb ρ1 with
    | none => rfl
    | some z => cases z <;> rfl
  rw [e]
  have p' : Post X.K adr cls W (bnd (bnd (evE C ea ρ) fun r1 ρ1 => bnd (evE C eb ρ1) fun r2 ρ2 => some (.ok [r1, r2] ρ2)) fun rs ρ2 => match escs ρ2 rs with
    | some ([.lst xs, .lst ys], ρ3) => some (.ok (xs.zipWith (fun x y => .tup [x, y]) ys) ρ3)
    | some ([.tup xs, .tup ys], ρ3) => some (.ok (xs.zipWith (fun x y => .tup [x, y]) ys) ρ3)
    | _ => none) S H ρ σ fun ds S' H' _ => ∀ J, WkD X.K adr J S' ds → R J H' := by
    rw [bnd_assoc]
    have e3 : (fun r1 ρ1 => bnd (bnd (evE C eb ρ1) fun r2 ρ2 => some (.ok [r1, r2] ρ2)) fun rs ρ2 => match escs ρ2 rs with
      | some ([.lst xs, .lst ys], ρ3) => some (Out.ok (xs.zipWith (fun x y => D.tup [x, y]) ys) ρ3)
      | some ([.tup xs, .tup ys], ρ3) => some (.ok (xs.zipWith (fun x y => .tup [x, y]) ys) ρ3)
      | _ => none) = fun r1 ρ1 => bnd (evE C eb ρ1) fun r2 ρ2 => match escs ρ2 [r1, r2] with
      | some ([.lst xs, .lst ys], ρ3) => some (.ok (xs.zipWith (fun x y => .tup [x, y]) ys) ρ3)
      | some ([.tup xs, .tup ys], ρ3) => some (.ok (xs.zipWith (fun x y => .tup [x, y]) ys) ρ3)
      | _ => none := by
      funext r1 ρ1
      rw [bnd_assoc]
      rfl
    rw [e3]
    exact p
  refine p'.first fun rs S1 H1 ρ1 x1 p1 vs hs => ?_
  split at p1
  · rename_i xs ys ρ3 e1
    obtain ⟨Sb, q, rv⟩ := hs.esc x1.rp e1
    cases rv with
    | cons h1 t =>
      cases t with
      | cons h2 t =>
        cases t
        cases h1 with
        | lst g1 r1 =>
          cases h2 with
          | lst g2 r2 =>
            exact ⟨_, _, _, _, rfl, .inl ⟨.inl (.inl (q.rp.sub _ _ g1)), .inl (.inl (q.rp.sub _ _ g2)), p1.end_ (x1.shr q) _ (wk_zipL g1 r1 g2 r2)⟩⟩
  · rename_i xs ys ρ3 e1
    obtain ⟨Sb, q, rv⟩ := hs.esc x1.rp e1
    cases rv with
    | cons h1 t =>
      cases t with
      | cons h2 t =>
        cases t
        cases h1 with
        | tup g1 r1 =>
          cases h2 with
          | tup g2 r2 =>
            exact ⟨_, _, _, _, rfl, .inr ⟨q.rp.sub.sqT g1, q.rp.sub.sqT g2, p1.end_ (x1.shr q) _ (wk_zipT g1 r1 g2 r2)⟩⟩
  · exact p1.no
theorem i_enm {elts : List Expr} {kk : Nat} {pn tpos : Pos} (hx : BName X "enumerate" (.type "enumerate")) (ha : PE X a (tE X.K adr cls W C ea)) (he : starEach [a] X.env = (false, eval a X.env) :: starEach [] X.env) :
    PI X (.Tuple elts kk tpos) (.Call (.Name "enumerate" pn) [a] [] pos) (tI X.K adr cls W C (.enm ea)) := by
  refine ⟨fun pins s σ H R I q => ?_⟩
  refine (pi_enum hx.1 hx.2.1 (pa_cons ha pa_nil he) he).run pins s σ H R I ?_
  obtain ⟨S, ρ, rp, p⟩ := q
  unfold evI at p
  refine ⟨S, ρ, rp, p.first fun r S1 H1 ρ1 x1 p1 v h => ?_⟩
  split at p1
  · rename_i xs ρ2 e
    obtain ⟨Sb, q, rv, _⟩ := h.esc x1.rp e
    cases rv with
    | lst g r => exact ⟨_, _, rfl, .inl (.inl (q.rp.sub _ _ g)), p1.end_ (x1.shr q) _ (wk_enum g r)⟩
  · exact p1.no
end
end Vi
set_option Elab.async false
set_option linter.all false
set_option maxRecDepth 100000
set_option maxHeartbeats 4000000
/-! Vi, part M: stores to names; comprehensions. -/
namespace Vi
open PySem PySem.Spec PyProof.Rows L2
/-! ### slots forgotten -/
theorem wipeE_get : ∀ (vs : List Nat) (ρ : Env) (i : Nat), (wipeE ρ vs)[i]? = if i ∈ vs then (ρ[i]?).map (fun _ => none) else ρ[i]?
  | [], ρ, i => by simp [wipeE]
  | v :: vs, ρ, i => by
    unfold wipeE
    by_cases h : v = i
    · subst h
      rw [if_pos List.mem_cons_self]
      by_cases hv : v < (wipeE ρ vs).length
      · rw [List.getElem?_set_self hv]
        have h2 : (wipeE ρ vs)[v]? ≠ none := by simp [hv]
        rw [wipeE_get vs ρ v] at h2
        cases e : ρ[v]? with
        | none => rw [e] at h2; split at h2 <;> exact absurd rfl h2
        | some _ => rfl
      · rw [List.getElem?_eq_none (by simpa using hv)]
        have h2 : (wipeE ρ vs)[v]? = none := List.getElem?_eq_none (by simpa using hv)
        rw [wipeE_get vs ρ v] at h2
        cases e : ρ[v]? with
        | none => rfl
        | some _ => rw [e] at h2; split at h2 <;> cases h2
    · rw [List.getElem?_set_ne h, wipeE_get vs ρ i]
      by_cases hm : i ∈ vs
      · rw [if_pos hm, if_pos (List.mem_cons_of_mem _ hm)]
      · rw [if_neg hm, if_neg (by simp [List.mem_cons, hm]; exact fun e => h e.symm)]
theorem wipe_get : ∀ (vs : List Nat) (σ : L2.St) (i : Nat), (wipe σ vs)[i]? = if i ∈ vs then (σ[i]?).map (fun _ => none) else σ[i]?
  | [], σ, i => by simp [wipe]
  | v :: vs, σ, i => by
    unfold wipe
    by_cases h : v = i
    · subst h
      rw [if_pos List.mem_cons_self]
      by_cases hv : v < (wipe σ vs).length
      · rw [List.getElem?_set_self hv]
        have h2 : (wipe σ vs)[v]? ≠ none := by simp [hv]
        rw [wipe_get vs σ v] at h2
        cases e : σ[v]? with
        | none => rw [e] at h2; split at h2 <;> exact absurd rfl h2
        | some _ => rfl
      · rw [List.getElem?_eq_none (by simpa using hv)]
        have h2 : (wipe σ vs)[v]? = none := List.getElem?_eq_none (by simpa using hv)
        rw [wipe_get vs σ v] at h2
        cases e : σ[v]? with
        | none => rfl
        | some _ => rw [e] at h2; split at h2 <;> cases h2
    · rw [List.getElem?_set_ne h, wipe_get vs σ i]
      by_cases hm : i ∈ vs
      · rw [if_pos hm, if_pos (List.mem_cons_of_mem _ hm)]
      · rw [if_neg hm, if_neg (by simp [List.mem_cons, hm]; exact fun e => h e.symm)]
theorem wipeE_some {vs : List Nat} {ρ : Env} {i : Nat} {s : Sl} (h : (wipeE ρ vs)[i]? = some (some s)) : i ∉ vs ∧ ρ[i]? = some (some s) := by
  rw [wipeE_get] at h
  split at h
  · obtain ⟨_, _, e⟩ := Option.map_eq_some_iff.mp h
    cases e
  · exact ⟨by assumption, h⟩
theorem wipeE_len : ∀ (vs : List Nat) (ρ : Env), (wipeE ρ vs).length = ρ.length
  | [], _ => rfl
  | v :: vs, ρ => by
    unfold wipeE
    rw [List.length_set, wipeE_len vs ρ]
theorem wipeE_out {vs : List Nat} {ρ : Env} {i : Nat} (h : i ∉ vs) : (wipeE ρ vs)[i]? = ρ[i]? := by rw [wipeE_get, if_neg h]
theorem wipe_out' {vs : List Nat} {σ : L2.St} {i : Nat} (h : i ∉ vs) : (wipe σ vs)[i]? = σ[i]? := by rw [wipe_get, if_neg h]
theorem wipeE_same {vs : List Nat} {ρ ρ' : Env} (h : ∀ i, i ∉ vs → ρ[i]? = ρ'[i]?) (hl : ρ.length = ρ'.length) : wipeE ρ vs = wipeE ρ' vs := by
  apply List.ext_getElem?
  intro i
  rw [wipeE_get, wipeE_get]
  by_cases hm : i ∈ vs
  · rw [if_pos hm, if_pos hm]
    by_cases lt : i < ρ.length
    · rw [List.getElem?_eq_getElem lt, List.getElem?_eq_getElem (hl ▸ lt)]
      rfl
    · rw [List.getElem?_eq_none (by omega), List.getElem?_eq_none (by omega)]
  · rw [if_neg hm, if_neg hm, h i hm]
theorem wipe_same {vs : List Nat} {σ σ' : L2.St} (h : ∀ i, i ∉ vs → σ[i]? = σ'[i]?) (hl : σ.length = σ'.length) : wipe σ vs = wipe σ' vs := by
  apply List.ext_getElem?
  intro i
  rw [wipe_get, wipe_get]
  by_cases hm : i ∈ vs
  · rw [if_pos hm, if_pos hm]
    by_cases lt : i < σ.length
    · rw [List.getElem?_eq_getElem lt, List.getElem?_eq_getElem (hl ▸ lt)]
      rfl
    · rw [List.getElem?_eq_none (by omega), List.getElem?_eq_none (by omega)]
  · rw [if_neg hm, if_neg hm, h i hm]
theorem wipeE_idem (vs : List Nat) (ρ : Env) : wipeE (wipeE ρ vs) vs = wipeE ρ vs := wipeE_same (fun i h => wipeE_out h) (wipeE_len _ _)
theorem wipe_idem (vs : List Nat) (σ : L2.St) : wipe (wipe σ vs) vs = wipe σ vs := wipe_same (fun i h => wipe_out' h) (wipe_length _ _)
theorem backE_get : ∀ (vs : List Nat) (ρ0 ρ : Env) (i : Nat), ρ0.length = ρ.length → (backE ρ0 ρ vs)[i]? = if i ∈ vs then ρ0[i]? else ρ[i]?
  | [], ρ0, ρ, i, _ => by simp [backE]
  | v :: vs, ρ0, ρ, i, hl => by
    have hlen : ∀ vs : List Nat, (backE ρ0 ρ vs).length = ρ.length := fun vs => by
      induction vs with
      | nil => rfl
      | cons w ws ih =>
        unfold backE
        rw [List.length_set, ih]
    unfold backE
    by_cases h : v = i
    · subst h
      rw [if_pos List.mem_cons_self]
      by_cases hv : v < ρ.length
      · rw [List.getElem?_set_self (by rw [hlen]; exact hv), List.getElem?_eq_getElem (hl ▸ hv)]
        rfl
      · rw [List.getElem?_eq_none (by rw [List.length_set, hlen]; omega), List.getElem?_eq_none (by omega)]
    · rw [List.getElem?_set_ne h, backE_get vs ρ0 ρ i hl]
      by_cases hm : i ∈ vs
      · rw [if_pos hm, if_pos (List.mem_cons_of_mem _ hm)]
      · rw [if_neg hm, if_neg (by simp [List.mem_cons, hm]; exact fun e => h e.symm)]
theorem backE_len : ∀ (vs : List Nat) (ρ0 ρ : Env), (backE ρ0 ρ vs).length = ρ.length
  | [], _, _ => rfl
  | v :: vs, ρ0, ρ => by
    unfold backE
    rw [List.length_set, backE_len vs ρ0 ρ]
section
variable {K : PySem.W.Frag} {adr : Nat → Addr} {S H S' H' S1 H1 H0 : Hp} {ρ ρ' ρ1 ρ2 ρb : Env} {σ σ2 : L2.St} {vs : List Nat}
theorem Own.unwipe {a : Addr} (h : Own (wipeE ρ vs) (wipe σ vs) a) : Own ρ σ a := by
  obtain ⟨i, xs, e1, e2⟩ := h
  obtain ⟨n, e3⟩ := wipeE_some e1
  exact ⟨i, xs, e3, by rw [wipe_out' n] at e2; exact e2⟩
theorem Rep.wipe (rp : Rep K adr S H ρ σ) (vs : List Nat) : Rep K adr S H (wipeE ρ vs) (L2.wipe σ vs) where
  sub := rp.sub
  len := by rw [wipeE_len, wipe_length]; exact rp.len
  sh := fun i d e => by
    obtain ⟨n, e⟩ := wipeE_some e
    rw [wipe_out' n]
    exact rp.sh i d e
  ow := fun i xs e => by
    obtain ⟨n, e⟩ := wipeE_some e
    rw [wipe_out' n]
    exact rp.ow i xs e
  dj := fun i j xs ys a e1 e2 e3 e4 => by
    obtain ⟨n1, e1⟩ := wipeE_some e1
    obtain ⟨n2, e2⟩ := wipeE_some e2
    rw [wipe_out' n1] at e3
    rw [wipe_out' n2] at e4
    exact rp.dj i j xs ys a e1 e2 e3 e4
/-- the same step, some slots forgotten that hold no list of their own -/
theorem Ext.down (x : Ext K adr S H ρb σ2 S' H' ρ') (vs : List Nat) (hs : ∀ i ∈ vs, ∀ xs, ρb[i]? ≠ some (some (.ow xs))) : Ext K adr S H (wipeE ρb vs) (wipe σ2 vs) S' H' (wipeE ρ' vs) := by
  have up : ∀ a, Own ρb σ2 a → Own (wipeE ρb vs) (wipe σ2 vs) a := fun a ⟨i, xs, e1, e2⟩ => by
    have n : i ∉ vs := fun m => hs i m xs e1
    exact ⟨i, xs, by rw [wipeE_out n]; exact e1, by rw [wipe_out' n]; exact e2⟩
  refine ⟨x.s, fun a o e n => x.kp a o e fun z => n (up a z), x.th, x.rp.wipe vs, fun a z => up a (x.ow a z.unwipe), fun a o e => ?_, fun i s e => ?_⟩
  · rcases x.fr a o e with z | z | z
    · exact .inl z
    · exact .inr (.inl z)
    · exact .inr (.inr (up a z))
  · obtain ⟨n, e⟩ := wipeE_some e
    obtain ⟨s', e'⟩ := x.dm i s e
    exact ⟨s', by rw [wipeE_out n]; exact e'⟩
/-- behind a block: the forgotten slots are as they were -/
theorem Ext.up (rp : Rep K adr S H ρ σ) (x : Ext K adr S H (wipeE ρ vs) (wipe σ vs) S' H' ρ') : Ext K adr S H ρ σ S' H' (backE ρ ρ' vs) := by
  have hl : ρ.length = ρ'.length := by
    rw [rp.len, x.rp.len, wipe_length]
  have get : ∀ {i : Nat} {s : Sl}, (backE ρ ρ' vs)[i]? = some (some s) → (i ∈ vs ∧ ρ[i]? = some (some s)) ∨ (i ∉ vs ∧ ρ'[i]? = some (some s)) := fun {i s} e => by
    rw [backE_get _ _ _ _ hl] at e
    split at e
    · exact .inl ⟨by assumption, e⟩
    · exact .inr ⟨by assumption, e⟩
  have own : ∀ {i : Nat} {xs : List D} {a : Addr}, i ∉ vs → ρ'[i]? = some (some (.ow xs)) → σ[i]? = some (some (.ref a)) → Own (wipeE ρ vs) (wipe σ vs) a := fun {i xs a} n e1 e2 => x.ow a ⟨i, xs, e1, by rw [wipe_out' n]; exact e2⟩
  refine ⟨x.s, fun a o e n => x.kp a o e fun z => n z.unwipe, x.th, ⟨x.rp.sub, by rw [backE_len, x.rp.len, wipe_length], fun i d e => ?_, fun i xs e => ?_, fun i j xs ys a e1 e2 e3 e4 => ?_⟩, fun a ⟨i, xs, e1, e2⟩ => ?_, fun a o e => ?_, fun i s e => ?_⟩
  · rcases get e with ⟨_, e⟩ | ⟨n, e⟩
    · obtain ⟨v, p, q⟩ := rp.sh i d e
      exact ⟨v, p, q.mono x.s⟩
    · obtain ⟨v, p, q⟩ := x.rp.sh i d e
      rw [wipe_out' n] at p
      exact ⟨v, p, q⟩
  · rcases get e with ⟨m, e⟩ | ⟨n, e⟩
    · obtain ⟨a, ws, p, q, r, t⟩ := rp.ow i xs e
      have no : ¬ Own (wipeE ρ vs) (L2.wipe σ vs) a := fun ⟨j, ys, z1, z2⟩ => by
        obtain ⟨nj, z1⟩ := wipeE_some z1
        rw [wipe_out' nj] at z2
        have := rp.dj i j xs ys a e z1 p z2
        subst this
        exact nj m
      refine ⟨a, ws, p, x.kp a _ q no, ?_, t.mono x.s⟩
      cases z : S' a with
      | none => rfl
      | some o =>
        rcases x.fr a o z with y | y | y
        · rw [r] at y
          cases y
        · rw [q] at y
          cases y
        · exact absurd y no
    · obtain ⟨a, ws, p, q⟩ := x.rp.ow i xs e
      rw [wipe_out' n] at p
      exact ⟨a, ws, p, q⟩
  · rcases get e1 with ⟨m1, e1⟩ | ⟨n1, e1⟩
    · rcases get e2 with ⟨m2, e2⟩ | ⟨n2, e2⟩
      · exact rp.dj i j xs ys a e1 e2 e3 e4
      · obtain ⟨j', zs, z1, z2⟩ := own n2 e2 e4
        obtain ⟨nj, z1⟩ := wipeE_some z1
        rw [wipe_out' nj] at z2
        have := rp.dj i j' xs zs a e1 z1 e3 z2
        subst this
        exact absurd m1 nj
    · rcases get e2 with ⟨m2, e2⟩ | ⟨n2, e2⟩
      · obtain ⟨i', zs, z1, z2⟩ := own n1 e1 e3
        obtain ⟨nj, z1⟩ := wipeE_some z1
        rw [wipe_out' nj] at z2
        have := rp.dj j i' ys zs a e2 z1 e4 z2
        subst this
        exact absurd m2 nj
      · exact x.rp.dj i j xs ys a e1 e2 (by rw [wipe_out' n1]; exact e3) (by rw [wipe_out' n2]; exact e4)
  · rcases get e1 with ⟨m, e1⟩ | ⟨n, e1⟩
    · exact ⟨i, xs, e1, e2⟩
    · exact (own n e1 e2).unwipe
  · rcases x.fr a o e with z | z | z
    · exact .inl z
    · exact .inr (.inl z)
    · exact .inr (.inr z.unwipe)
  · by_cases m : i ∈ vs
    · exact ⟨s, by rw [backE_get _ _ _ _ hl, if_pos m]; exact e⟩
    · obtain ⟨s', e'⟩ := x.dm i s (by rw [wipeE_out m]; exact e)
      exact ⟨s', by rw [backE_get _ _ _ _ hl, if_neg m]; exact e'⟩
/-- a list that is not yet known at the start is written -/
theorem Ext.fresh {D : Addr} {o : HO} (x : Ext K adr S H ρ σ S' H' ρ') (hD : H D = none) (hS : S' D = none) (hO : ¬ Own ρ' σ D) : Ext K adr S H ρ σ S' (upd H' D o) ρ' := by
  have ne : ∀ {a : Addr} {u : HO}, H a = some u → a ≠ D := fun {a u} e z => by
    rw [z, hD] at e
    cases e
  have neS : ∀ {a : Addr} {u : HO}, S' a = some u → a ≠ D := fun {a u} e z => by
    rw [z, hS] at e
    cases e
  refine ⟨x.s, fun a u e n => by rw [upd_ne (ne e)]; exact x.kp a u e n, fun a u e => by rw [upd_ne (ne e)]; exact x.th a u e, ⟨fun a u e => by rw [upd_ne (neS e)]; exact x.rp.sub a u e, x.rp.len, x.rp.sh, fun i xs e => ?_, x.rp.dj⟩, x.ow, x.fr, x.dm⟩
  obtain ⟨a, ws, p, q, r⟩ := x.rp.ow i xs e
  exact ⟨a, ws, p, by rw [upd_ne (fun z => hO (by rw [← z]; exact ⟨i, xs, e, p⟩))]; exact q, r⟩
/-! ### stores to names -/
def gNms : List Nat → TGs
  | [] => gNil
  | i :: is => gCons (gName i) (gNms is)
def gTgt (K : PySem.W.Frag) (is : List Nat) (tp : Bool) : TG := match tp, is with
  | false, [i] => gName i
  | true, is => gTup K is.length (gNms is)
  | _, _ => fun _ _ _ _ => False
/-- the state behind stores of shared values to the slots is -/
structure Stored (K : PySem.W.Frag) (adr : Nat → Addr) (S H : Hp) (ρ : Env) (σ : L2.St) (is : List Nat) (ρ' : Env) (σ' : L2.St) : Prop where
  rp : Rep K adr S H ρ' σ'
  out : ∀ i, i ∉ is → σ'[i]? = σ[i]?
  outE : ∀ i, i ∉ is → ρ'[i]? = ρ[i]?
  len : σ'.length = σ.length
  no : ∀ i ∈ is, ∀ xs, ρ'[i]? ≠ some (some (.ow xs))
theorem Rep.store {v : V} {d : D} {i : Nat} (rp : Rep K adr S H ρ σ) (rv : RV K adr S v d) : Stored K adr S H ρ σ [i] (setS ρ i d) (σ.set i (some v)) := by
  refine ⟨⟨rp.sub, by unfold setS; rw [List.length_set, List.length_set]; exact rp.len, fun j e h => ?_, fun j xs h => ?_, fun j k xs ys a h1 h2 h3 h4 => ?_⟩, fun j n => ?_, fun j n => ?_, by rw [List.length_set], fun j m xs h => ?_⟩
  · rcases set_get h with ⟨rfl, y⟩ | ⟨n, y⟩
    · cases y
      have lt : i < ρ.length := by
        have := (List.getElem?_eq_some_iff.mp h).1
        unfold setS at this
        rw [List.length_set] at this
        exact this
      exact ⟨v, List.getElem?_set_self (rp.len ▸ lt), rv⟩
    · rw [List.getElem?_set_ne n]
      exact rp.sh j e y
  · rcases set_get h with ⟨rfl, y⟩ | ⟨n, y⟩
    · cases y
    · rw [List.getElem?_set_ne n]
      exact rp.ow j xs y
  · rcases set_get h1 with ⟨rfl, y⟩ | ⟨n1, y1⟩
    · cases y
    · rcases set_get h2 with ⟨rfl, y⟩ | ⟨n2, y2⟩
      · cases y
      · rw [List.getElem?_set_ne n1] at h3
        rw [List.getElem?_set_ne n2] at h4
        exact rp.dj j k xs ys a y1 y2 h3 h4
  · rw [List.getElem?_set_ne (by simpa using fun e => n (by simp [e]))]
  · unfold setS
    rw [List.getElem?_set_ne (by simpa using fun e => n (by simp [e]))]
  · have e : j = i := by simpa using m
    subst e
    rcases set_get h with ⟨_, y⟩ | ⟨n, _⟩
    · cases y
    · exact n rfl
theorem Stored.tr {is js : List Nat} {ρ1 ρ2 : Env} {σ1 σ2 : L2.St} (p : Stored K adr S H ρ σ is ρ1 σ1) (q : Stored K adr S H ρ1 σ1 js ρ2 σ2) : Stored K adr S H ρ σ (is ++ js) ρ2 σ2 := by
  refine ⟨q.rp, fun i n => ?_, fun i n => ?_, q.len.trans p.len, fun i m xs h => ?_⟩
  · rw [List.mem_append, not_or] at n
    rw [q.out i n.2, p.out i n.1]
  · rw [List.mem_append, not_or] at n
    rw [q.outE i n.2, p.outE i n.1]
  · by_cases mj : i ∈ js
    · exact q.no i mj xs h
    · rw [q.outE i mj] at h
      rcases List.mem_append.mp m with m | m
      · exact p.no i m xs h
      · exact mj m
theorem Stored.nil (rp : Rep K adr S H ρ σ) : Stored K adr S H ρ σ [] ρ σ := ⟨rp, fun _ _ => rfl, fun _ _ => rfl, rfl, fun _ m => nomatch m⟩
theorem nms_ok : ∀ {is : List Nat} {vs : List V} {ds : List D} {ρ : Env} {σ : L2.St} {Q : L2.St → Hp → Prop}, Rep K adr S H ρ σ → RVs K adr S vs ds → is.length = ds.length →
    (∀ σ', Stored K adr S H ρ σ is ((is.zip ds).foldl (fun ρ p => setS ρ p.1 p.2) ρ) σ' → Q σ' H) → gNms is vs σ H Q
  | [], _, _, ρ, σ, Q, rp, .nil, _, h => ⟨rfl, h σ (.nil rp)⟩
  | i :: is, _, _, ρ, σ, Q, rp, .cons (v := v) (vs := vs) hv r, hl, h => by
    have s1 := rp.store (i := i) hv
    exact ⟨v, vs, rfl, nms_ok s1.rp r (Nat.succ.inj hl) fun σ' s2 => h σ' (s1.tr s2)⟩
  | [], _, _, _, _, _, _, .cons _ _, hl, _ => by cases hl
  | _ :: _, _, _, _, _, _, _, .nil, hl, _ => by cases hl
theorem tgt_ok {is : List Nat} {tp : Bool} {v : V} {d : D} {Q : L2.St → Hp → Prop} (rp : Rep K adr S H ρ σ) (rv : RV K adr S v d) (e : setTg ρ is tp d = some ρb) (h : ∀ σ', Stored K adr S H ρ σ is ρb σ' → Q σ' H) : gTgt K is tp v σ H Q := by
  cases tp with
  | false =>
    match is, e with
    | [i], e =>
      cases (show some (setS ρ i d) = some ρb from e)
      exact h _ (rp.store rv)
    | [], e => cases e
    | _ :: _ :: _, e => cases e
  | true =>
    cases d with
    | tup ds =>
      have e' : (if is.length = ds.length then some ((is.zip ds).foldl (fun ρ p => setS ρ p.1 p.2) ρ) else none) = some ρb := e
      by_cases hl : is.length = ds.length
      · rw [if_pos hl] at e'
        cases e'
        cases rv with
        | @tup a xs _ hq r => exact ⟨a, xs, rfl, rp.sub.sqT hq, by rw [r.len]; exact hl.symm, nms_ok rp r hl h⟩
      · rw [if_neg hl] at e'
        cases e'
    | _ => cases (show (none : Option Env) = some ρb from e)
end
end Vi
set_option Elab.async false
set_option linter.all false
set_option maxRecDepth 100000
set_option maxHeartbeats 4000000
/-! Vi, part N: comprehensions. -/
namespace Vi
open PySem PySem.Spec PyProof.Rows L2
abbrev W0 : WX := fun _ _ _ _ => False
/-- one turn of a comprehension -/
def lcF (C : Ctx) (own tg : List Nat) (tp : Bool) (c : Eo) (elt : E) : Env → D → Option (List D × Env) := fun ρa d => match setTg ρa tg tp d with
  | none => none
  | some ρb => match asOk (evC C c ρb) with
    | none => none
    | some (false, ρc) => some ([], wipeE ρc own)
    | some (true, ρc) => match asOk (evE C elt ρc) with
      | none => none
      | some (r, ρd) => match esc ρd r with
        | none => none
        | some (y, ρe) => some ([y], wipeE ρe own)
theorem evE_lc {C : Ctx} {own tg : List Nat} {tp : Bool} {it : It} {c : Eo} {elt : E} {ρ : Env} : evE C (.lc own tg tp it c elt) ρ = bnd (evI C it ρ) fun items ρ1 => match lcLoop (lcF C own tg tp c elt) (wipeE ρ1 own) items with
    | none => none
    | some (ys, ρ2) => if fit ys then some (.ok (.nw ys) (backE ρ1 ρ2 own)) else none := by
  rw [evE]
  rfl
theorem asOk_some {α : Type} {o : Ev α} {a : α} {ρ : Env} (h : asOk o = some (a, ρ)) : o = some (.ok a ρ) := by
  unfold asOk at h
  split at h
  · cases h
    rfl
  · cases h
section
variable {X : Cx} {adr cls : Nat → Addr} {W : WX} {C : Ctx} {a b c : Expr} {as : List Expr} {ea eb ec : E} {es : Es} {pos p2 : Pos}
def tCn (K : PySem.W.Frag) (adr cls : Nat → Addr) (W : WX) (C : Ctx) (c : Eo) : TT := fun σ H Q => ∃ S ρ, Rep K adr S H ρ σ ∧ Post K adr cls W (evC C c ρ) S H ρ σ fun b _ H' _ => Q b H'
theorem c_no : PTs X [] (tCn X.K adr cls W C .no) := ⟨fun pins s σ H Q I q => by
  obtain ⟨S, ρ, rp, p⟩ := q
  exact pts_nil.run pins s σ H Q I (p.end_ (.rf rp))⟩
theorem c_so (h : PT X a (tT X.K adr cls W C ea)) : PTs X [a] (tCn X.K adr cls W C (.so ea)) := pts_one h
/-- a turn -/
theorem lc_turn {S H S1 H1 : Hp} {ρ ρ2 ρw : Env} {σ : L2.St} {own tg : List Nat} {tp : Bool} {cn : Eo} {elt : E} {D : Addr} {x : V} {d : Vi.D} {ys o : List Vi.D} {Nx : Hp → Prop}
    (x1 : Ext X.K adr S1 H1 ρw (wipe σ own) S H ρ) (hD : RR X.K adr H1 S H ρ (wipe σ own) (.ref D) (.nw ys)) (hw : wipeE ρ own = ρ) (ht : ∀ i ∈ tg, i ∈ own) (rv : RV X.K adr S x d) (e : lcF C own tg tp cn elt ρ d = some (o, ρ2)) (hz : (ys ++ o).length ≤ 1000000)
    (nx : ∀ S' H' , Le S S' → Ext X.K adr S1 H1 ρw (wipe σ own) S' H' ρ2 → RR X.K adr H1 S' H' ρ2 (wipe σ own) (.ref D) (.nw (ys ++ o)) → Nx H') :
    gTgt X.K tg tp x (wipe σ own) H fun σ2 H2 => wipe σ2 own = wipe σ own ∧ tCn X.K adr cls W0 C cn σ2 H2 fun b H3 => if b = true then tE X.K adr cls W0 C elt σ2 H3 fun y H4 => ∃ acc, H4 D = some (.lst acc) ∧ acc.length < sizeLine ∧ Nx (upd H4 D (.lst (acc ++ [y]))) else Nx H3 := by
  unfold lcF at e
  split at e
  · cases e
  rename_i ρb e1
  refine tgt_ok x1.rp rv e1 fun σ2 st => ?_
  have hw2 : wipe σ2 own = wipe σ own := by
    have z : wipe σ2 own = wipe (wipe σ own) own := wipe_same (fun i n => by rw [st.out i fun m => n (ht i m)]) st.len
    rw [z, wipe_idem]
  have hwE : wipeE ρb own = ρ := by
    have z : wipeE ρb own = wipeE ρ own := wipeE_same (fun i n => st.outE i fun m => n (ht i m)) (by rw [st.rp.len, st.len, x1.rp.len])
    rw [z, hw]
  have hno : ∀ i ∈ own, ∀ xs, ρb[i]? ≠ some (some (.ow xs)) := fun i m xs h => by
    by_cases mt : i ∈ tg
    · exact st.no i mt xs h
    · rw [st.outE i mt, ← hw, wipeE_get, if_pos m] at h
      obtain ⟨_, _, z⟩ := Option.map_eq_some_iff.mp h
      cases z
  refine ⟨hw2, ?_⟩
  split at e
  · cases e
  · rename_i ρc e2
    cases e
    have e2' := asOk_some e2
    refine ⟨S, ρb, st.rp, ?_⟩
    rw [e2']
    intro S3 H3 x3
    refine (if_neg Bool.false_ne_true : (if false = true then _ else Nx H3) = Nx H3).mpr ?_
    have d3 := x3.down own hno
    rw [hwE, hw2] at d3
    refine nx S3 H3 d3.s (x1.tr d3) ?_
    rw [List.append_nil]
    exact hD.step d3
  · rename_i ρc e2
    have e2' := asOk_some e2
    refine ⟨S, ρb, st.rp, ?_⟩
    rw [e2']
    intro S3 H3 x3
    refine (if_pos rfl : (if true = true then tE X.K adr cls W0 C elt σ2 H3 (fun y H4 => ∃ acc, H4 D = some (.lst acc) ∧ acc.length < sizeLine ∧ Nx (upd H4 D (.lst (acc ++ [y])))) else Nx H3) = _).mpr ?_
    split at e
    · cases e
    · rename_i r ρd e3
      have e3' := asOk_some e3
      split at e
      · cases e
      · rename_i y ρe e4
        cases e
        refine ⟨S3, ρc, x3.rp, ?_⟩
        rw [e3']
        intro S4 H4 x4 v hv
        obtain ⟨S5, q, rv5, f5⟩ := hv.esc x4.rp e4
        -- the whole step at σ2
        have x34 : Ext X.K adr S H ρb σ2 S5 H4 ρe := x3.tr (x4.shr q)
        have dn := x34.down own hno
        rw [hwE, hw2] at dn
        -- D at σ2
        have hD2 : RR X.K adr H1 S H ρb σ2 (.ref D) (.nw ys) := by
          obtain ⟨a', ws, e5, g1, g2, g3, g4, g5⟩ := hD
          refine ⟨a', ws, e5, g1, g2, g3, fun ⟨j, zs, z1, z2⟩ => g4 ?_, g5⟩
          have n : j ∉ own := fun m => hno j m zs z1
          have n' : j ∉ tg := fun m => n (ht j m)
          exact ⟨j, zs, by rw [← st.outE j n']; exact z1, by rw [← st.out j n']; exact z2⟩
        have hD4 := (hD2.step x3).step x4
        have hDH3 : ∃ ws, H3 D = some (.lst ws) := by
          obtain ⟨a', ws, e5, g1, _⟩ := hD2.step x3
          cases e5
          exact ⟨ws, g1⟩
        have hD5 := hD4.beside (r := r) q f5 fun k1 _ z => by
          cases r with
          | nw zs =>
            obtain ⟨a', ws, e5, _, _, _, _, g5⟩ := hv
            rw [← z] at e5
            cases e5
            obtain ⟨ws', g6⟩ := hDH3
            rw [g5] at g6
            cases g6
          | _ => cases k1
        obtain ⟨a', ws, e5, g1, g2, g3, g4, g5⟩ := hD5
        cases e5
        rw [List.length_append] at hz
        refine ⟨ws, g1, ?_, ?_⟩
        · rw [g3.len, sizeLine_eq]
          have : [y].length = 1 := rfl
          omega
        · have nO : ¬ Own (wipeE ρe own) (wipe σ own) D := fun z => g4 (by rw [← hw2] at z; exact z.unwipe)
          have xx := (x1.tr dn).fresh (o := .lst (ws ++ [v])) g5 g2 nO
          exact nx S5 _ dn.s xx ⟨D, ws ++ [v], rfl, upd_same, g2, g3.app (.cons rv5 .nil), nO, g5⟩
theorem drop_cons {α : Type} {l : List α} {i : Nat} (h : i < l.length) : l.drop i = l[i] :: l.drop (i + 1) := List.drop_eq_getElem_cons h
theorem e_lc {elt tgE iter : Expr} {ifs : List Expr} {scope : Scope} {own : List (Str × Nat)} {it : It} {tg : List Nat} {tp : Bool} {cn : Eo} {eelt : E} (hc : X.calm = true) (hN : X.N.Nodup) (hi : PI X tgE iter (tI X.K adr cls W C it)) (ok : BlkOk X.N X.env.scope scope own)
    (ht : ∀ i ∈ tg, i ∈ own.map (·.2))
    (hg : ∀ (s : Shared) (H : Hp) (C' : Addr) (cl : List (Str × Addr)) (fp : List Addr), PG (X.blk s H scope (compEnvC scope cl C' X.env) fp) tgE (gTgt X.K tg tp))
    (hcn : ∀ (s : Shared) (H : Hp) (C' : Addr) (cl : List (Str × Addr)) (fp : List Addr), PTs (X.blk s H scope (compEnvC scope cl C' X.env) fp) ifs (tCn X.K adr cls W0 C cn))
    (he : ∀ (s : Shared) (H : Hp) (C' : Addr) (cl : List (Str × Addr)) (fp : List Addr), PE (X.blk s H scope (compEnvC scope cl C' X.env) fp) elt (tE X.K adr cls W0 C eelt)) (hs : ∀ x, foldedSetIterable iter X.env x = pure x) :
    (∀ σ H Q, tE X.K adr cls W C (.lc (own.map (·.2)) tg tp it cn eelt) σ H Q → tLc (tI X.K adr cls W C it) (gTgt X.K tg tp) (tCn X.K adr cls W0 C cn) (tE X.K adr cls W0 C eelt) (own.map (·.2)) σ H Q) ∧
    PE X (.ListComp elt [⟨tgE, iter, ifs, 0⟩] scope pos) (tE X.K adr cls W C (.lc (own.map (·.2)) tg tp it cn eelt)) := by
  have main : ∀ σ H Q, tE X.K adr cls W C (.lc (own.map (·.2)) tg tp it cn eelt) σ H Q → tLc (tI X.K adr cls W C it) (gTgt X.K tg tp) (tCn X.K adr cls W0 C cn) (tE X.K adr cls W0 C eelt) (own.map (·.2)) σ H Q := by
    intro σ H Q q
    obtain ⟨S, ρ, rp, p⟩ := q
    rw [evE_lc] at p
    generalize ew : own.map (·.2) = vs at *
    refine ⟨S, ρ, rp, p.first fun items S1 H1 ρ1 x1 p1 J wk D hD => ?_⟩
    split at p1
    · exact p1.no
    rename_i ys ρ2 el
    have hz : fit ys = true := by
      cases h : fit ys with
      | true => rfl
      | false =>
        rw [h, if_neg Bool.false_ne_true] at p1
        exact p1.no
    rw [if_pos hz] at p1
    have hz' : ys.length ≤ 1000000 := Nat.le_of_ble_eq_true hz
    -- the start
    have rw1 := x1.rp.wipe vs
    have nO1 : ¬ Own (wipeE ρ1 vs) (wipe σ vs) D := fun z => by
      obtain ⟨_, ws, e⟩ := rw1.nOwn z
      rw [hD] at e
      cases e
    have sD : S1 D = none := x1.rp.sub.none_of hD
    let Pv : Nat → Hp → Prop := fun i H' => ∃ S' ρ' done rest, Ext X.K adr S1 H1 (wipeE ρ1 vs) (wipe σ vs) S' H' ρ' ∧ RR X.K adr H1 S' H' ρ' (wipe σ vs) (.ref D) (.nw done) ∧ wipeE ρ' vs = ρ' ∧ lcLoop (lcF C vs tg tp cn eelt) ρ' (items.drop i) = some (rest, ρ2) ∧ done ++ rest = ys
    have P0 : Pv 0 (upd H1 D (.lst [])) := ⟨S1, wipeE ρ1 vs, [], ys, (Ext.rf rw1).fresh hD sD nO1, ⟨D, [], rfl, upd_same, sD, .nil, nO1, hD⟩, wipeE_idem _ _, by simpa using el, rfl⟩
    refine ⟨fun i m H' => m = items.length - i ∧ i ≤ items.length ∧ Pv i H', ⟨_, rfl, Nat.zero_le _, P0⟩, ?_⟩
    rintro i m H' ⟨rfl, hi', S', ρ', done, rest, x', hD', hw', hl', hy'⟩
    by_cases lt : i < items.length
    · refine .inr ⟨wk.goes i S' H' x'.s x'.rp.sub lt, Pv (i + 1), fun H'' q => ⟨items.length - (i + 1), by omega, rfl, lt, q⟩, fun x H'' y => ?_⟩
      obtain ⟨S'', g, rv⟩ := wk.yields i S' H' x H'' items[i] x'.s x'.rp.sub (by simp [lt]) y
      rw [drop_cons lt] at hl'
      unfold lcLoop at hl'
      split at hl'
      · cases hl'
      rename_i o ρ3 e3
      split at hl'
      · cases hl'
      rename_i r ρ4 e4
      cases hl'
      have xg := Ext.grow x'.rp g
      refine lc_turn (x'.tr xg) (hD'.step xg) hw' ht rv e3 ?_ fun S5 H5 _ x5 d5 => ⟨S5, ρ3, done ++ o, r, x5, d5, ?_, e4, by rw [List.append_assoc]; exact hy'⟩
      · rw [← hy', ← List.append_assoc, List.length_append] at hz'
        omega
      · unfold lcF at e3
        split at e3
        · cases e3
        · split at e3
          · cases e3
          · cases e3
            exact wipeE_idem _ _
          · split at e3
            · cases e3
            · split at e3
              · cases e3
              · cases e3
                exact wipeE_idem _ _
    · have ei : i = items.length := by omega
      subst ei
      refine .inl ⟨wk.stops S' H' x'.s x'.rp.sub, ?_⟩
      rw [List.drop_length] at hl'
      cases hl'
      rw [List.append_nil] at hy'
      subst hy'
      have xu := Ext.up x1.rp x'
      refine p1.end_ (x1.tr xu) _ ?_
      obtain ⟨a', ws, e5, g1, g2, g3, g4, g5⟩ := hD'
      cases e5
      refine ⟨D, ws, rfl, g1, g2, g3, fun z => ?_, ?_⟩
      · obtain ⟨_, ws', e6⟩ := x1.rp.nOwn (xu.ow D z)
        rw [hD] at e6
        cases e6
      · cases e6 : H D with
        | none => rfl
        | some o =>
          obtain ⟨o', e7⟩ := x1.th D o e6
          rw [hD] at e7
          cases e7
  exact ⟨main, PE.imp (pe_lc hc hN hi ok hg hcn he hs) main⟩
end
end Vi
set_option Elab.async false
set_option linter.all false
set_option maxRecDepth 100000
set_option maxHeartbeats 4000000
/-! Vi, part O: statements. -/
namespace Vi
open PySem PySem.Spec PyProof.Rows L2
section
variable (K : PySem.W.Frag) (adr cls : Nat → Addr) (W : WX)
/-- a statement's step -/
structure ExS (io : List Nat) (S H : Hp) (ρ : Env) (σ : L2.St) (S' H' : Hp) (ρ' : Env) (σ' : L2.St) : Prop where
  s : Le S S'
  kp : ∀ a o, H a = some o → ¬ Own ρ σ a → H' a = some o
  th : ∀ a o, H a = some o → ∃ o', H' a = some o'
  rp : Rep K adr S' H' ρ' σ'
  ow : ∀ a, Own ρ' σ' a → Own ρ σ a ∨ H a = none
  fr : ∀ a o, S' a = some o → S a = some o ∨ H a = none ∨ Own ρ σ a
  io : ∀ i ∈ io, σ'[i]? = σ[i]?
def PostS (io : List Nat) (o : Option Fl) (S H : Hp) (ρ : Env) (σ : L2.St) (D : Ends) : Prop := match o with
  | none => False
  | some (.nx ρ') => ∀ σ' S' H', ExS K adr io S H ρ σ S' H' ρ' σ' → D.nx σ' H'
  | some (.bk ρ') => ∀ σ' S' H', ExS K adr io S H ρ σ S' H' ρ' σ' → D.bk σ' H'
  | some (.ct ρ') => ∀ σ' S' H', ExS K adr io S H ρ σ S' H' ρ' σ' → D.ct σ' H'
  | some (.rt r ρ') => ∀ v σ' S' H', ExS K adr io S H ρ σ S' H' ρ' σ' → RR K adr H S' H' ρ' σ' v r → D.rt v H'
  | some (.ex x ρ') => ∀ c d σ' S' H', ExS K adr io S H ρ σ S' H' ρ' σ' → RX cls x c d H' → W c d σ' H'
def tS (io : List Nat) (C : Ctx) (L : Cls) (s : Vi.S) : TS := fun D σ H => ∃ S ρ, Rep K adr S H ρ σ ∧ PostS K adr cls W io (evS C L io s ρ) S H ρ σ D
def tSs (io : List Nat) (C : Ctx) (L : Cls) (s : Ss) : TS := fun D σ H => ∃ S ρ, Rep K adr S H ρ σ ∧ PostS K adr cls W io (evSs C L io s ρ) S H ρ σ D
end
section
variable {K : PySem.W.Frag} {adr cls : Nat → Addr} {W : WX} {io : List Nat} {S H S' H' S1 H1 S2 H2 H0 : Hp} {ρ ρ' ρ1 ρ2 : Env} {σ σ' σ1 σ2 : L2.St} {D : Ends}
theorem ExS.rf (r : Rep K adr S H ρ σ) : ExS K adr io S H ρ σ S H ρ σ := ⟨Le.rf, fun _ _ e _ => e, fun _ o e => ⟨o, e⟩, r, fun _ z => .inl z, fun _ _ e => .inl e, fun _ _ => rfl⟩
theorem Ext.st (x : Ext K adr S H ρ σ S' H' ρ') : ExS K adr io S H ρ σ S' H' ρ' σ := ⟨x.s, x.kp, x.th, x.rp, fun a z => .inl (x.ow a z), x.fr, fun _ _ => rfl⟩
theorem ExS.none_of (p : ExS K adr io S H ρ σ S' H' ρ' σ') {a : Addr} (h : H' a = none) : H a = none := by
  cases e : H a with
  | none => rfl
  | some o =>
    obtain ⟨o', e'⟩ := p.th a o e
    rw [h] at e'
    cases e'
theorem ExS.tr (p : ExS K adr io S H ρ σ S1 H1 ρ1 σ1) (q : ExS K adr io S1 H1 ρ1 σ1 S2 H2 ρ2 σ2) : ExS K adr io S H ρ σ S2 H2 ρ2 σ2 where
  s := p.s.tr q.s
  kp := fun a o e n => q.kp a o (p.kp a o e n) fun z => by
    rcases p.ow a z with y | y
    · exact n y
    · rw [e] at y
      cases y
  th := fun a o e => by
    obtain ⟨o1, e1⟩ := p.th a o e
    exact q.th a o1 e1
  rp := q.rp
  ow := fun a z => by
    rcases q.ow a z with y | y
    · exact p.ow a y
    · exact .inr (p.none_of y)
  fr := fun a o e => by
    rcases q.fr a o e with z | z | z
    · exact p.fr a o z
    · exact .inr (.inl (p.none_of z))
    · rcases p.ow a z with y | y
      · exact .inr (.inr y)
      · exact .inr (.inl y)
  io := fun i m => (q.io i m).trans (p.io i m)
theorem PostS.later {o : Option Fl} (h : PostS K adr cls W io o S H ρ σ D) (x : ExS K adr io S H ρ σ S1 H1 ρ1 σ1) : PostS K adr cls W io o S1 H1 ρ1 σ1 D := by
  unfold PostS at h ⊢
  split
  · exact h
  · exact fun σ' S' H' e => h σ' S' H' (x.tr e)
  · exact fun σ' S' H' e => h σ' S' H' (x.tr e)
  · exact fun σ' S' H' e => h σ' S' H' (x.tr e)
  · exact fun v σ' S' H' e r => h v σ' S' H' (x.tr e) (r.early x.th)
  · exact fun c d σ' S' H' e => h c d σ' S' H' (x.tr e)
theorem PostS.no {P : Prop} (h : PostS K adr cls W io (none : Option Fl) S H ρ σ D) : P := False.elim h
theorem PostS.nx (h : PostS K adr cls W io (some (.nx ρ')) S H ρ σ D) (x : ExS K adr io S H ρ σ S' H' ρ' σ') : D.nx σ' H' := h σ' S' H' x
/-- an expression first -/
theorem PostS.first {α : Type} {o : Ev α} {f : α → Env → Option Fl} {k' : α → Hp → Hp → Env → Prop} (h : PostS K adr cls W io (bndS o f) S H ρ σ D)
    (g : ∀ a S1 H1 ρ1, Ext K adr S H ρ σ S1 H1 ρ1 → PostS K adr cls W io (f a ρ1) S H ρ σ D → k' a S1 H1 ρ1) : Post K adr cls W o S H ρ σ k' := by
  cases o with
  | none => exact h
  | some z => cases z with
    | ex x ρ' => exact fun c d S' H' e => h c d σ S' H' e.st
    | ok a ρ' => exact fun S' H' e => g a S' H' ρ' e h
theorem PS.imp {X : Cx} {s : Stmt} {t u : TS} (h : PS X s t) (f : ∀ D σ H, u D σ H → t D σ H) : PS X s u := ⟨fun pins s σ H D I q => h.run pins s σ H D I (f D σ H q)⟩
theorem PSs.imp {X : Cx} {s : List Stmt} {t u : TS} (h : PSs X s t) (f : ∀ D σ H, u D σ H → t D σ H) : PSs X s u := ⟨fun pins s σ H D I q => h.run pins s σ H D I (f D σ H q)⟩
/-! ### a store -/
theorem Stored.st {is : List Nat} (q : Stored K adr S H ρ σ is ρ' σ') (hi : ∀ i ∈ io, i ∉ is) : ExS K adr io S H ρ σ S H ρ' σ' := by
  refine ⟨Le.rf, fun _ _ e _ => e, fun _ o e => ⟨o, e⟩, q.rp, fun a ⟨i, xs, e1, e2⟩ => ?_, fun _ _ e => .inl e, fun i m => q.out i (hi i m)⟩
  have n : i ∉ is := fun m => q.no i m xs e1
  exact .inl ⟨i, xs, by rw [← q.outE i n]; exact e1, by rw [← q.out i n]; exact e2⟩
/-- a slot's content for a value -/
def SlV (K : PySem.W.Frag) (adr : Nat → Addr) (H0 S H : Hp) (ρ : Env) (σ : L2.St) (v : V) : Sl → Prop
  | .sh d => RV K adr S v d
  | .ow xs => RR K adr H0 S H ρ σ v (.nw xs)
/-- a new list at a slot -/
theorem Rep.storeL {v : V} {xs : List Vi.D} {i : Nat} (rp : Rep K adr S H ρ σ) (h : RR K adr H0 S H ρ σ v (.nw xs)) (hi : i ∉ io) (th : ∀ a o, H0 a = some o → ∃ o', H a = some o') :
    ∃ a, v = .ref a ∧ Rep K adr S H (ρ.set i (some (.ow xs))) (σ.set i (some v)) ∧ (∀ b, Own (ρ.set i (some (.ow xs))) (σ.set i (some v)) b → Own ρ σ b ∨ b = a) ∧ H0 a = none := by
  obtain ⟨a, ws, rfl, g1, g2, g3, g4, g5⟩ := h
  have own : ∀ {j : Nat} {ys : List Vi.D} {b : Addr}, (ρ.set i (some (.ow xs)))[j]? = some (some (.ow ys)) → (σ.set i (some (.ref a)))[j]? = some (some (.ref b)) → (j = i ∧ b = a) ∨ (j ≠ i ∧ ρ[j]? = some (some (.ow ys)) ∧ σ[j]? = some (some (.ref b))) := fun {j ys b} e1 e2 => by
    rcases set_get e1 with ⟨rfl, y⟩ | ⟨n, y⟩
    · have lt : i < σ.length := by
        have := (List.getElem?_eq_some_iff.mp e2).1
        rw [List.length_set] at this
        exact this
      rw [List.getElem?_set_self lt] at e2
      cases e2
      exact .inl ⟨rfl, rfl⟩
    · rw [List.getElem?_set_ne n] at e2
      exact .inr ⟨fun z => n z.symm, y, e2⟩
  refine ⟨a, rfl, ⟨rp.sub, by rw [List.length_set, List.length_set]; exact rp.len, fun j d e => ?_, fun j ys e => ?_, fun j k ys zs b e1 e2 e3 e4 => ?_⟩, fun b ⟨j, ys, e1, e2⟩ => ?_, g5⟩
  · rcases set_get e with ⟨rfl, y⟩ | ⟨n, y⟩
    · cases y
    · rw [List.getElem?_set_ne n]
      exact rp.sh j d y
  · rcases set_get e with ⟨rfl, y⟩ | ⟨n, y⟩
    · cases y
      have lt : i < ρ.length := by
        have := (List.getElem?_eq_some_iff.mp e).1
        rw [List.length_set] at this
        exact this
      exact ⟨a, ws, List.getElem?_set_self (rp.len ▸ lt), g1, g2, g3⟩
    · rw [List.getElem?_set_ne n]
      exact rp.ow j ys y
  · rcases own e1 e3 with ⟨z1, rfl⟩ | ⟨n1, y1, y2⟩
    · rcases own e2 e4 with ⟨z2, _⟩ | ⟨n2, y3, y4⟩
      · rw [z1, z2]
      · exact absurd ⟨k, zs, y3, y4⟩ g4
    · rcases own e2 e4 with ⟨z2, rfl⟩ | ⟨n2, y3, y4⟩
      · exact absurd ⟨j, ys, y1, y2⟩ g4
      · exact rp.dj j k ys zs b y1 y3 y2 y4
  · rcases own e1 e2 with ⟨_, z⟩ | ⟨_, y1, y2⟩
    · exact .inr z
    · exact .inl ⟨j, ys, y1, y2⟩
/-- one slot is stored: by its content -/
theorem put1 {v : V} {s : Sl} {i : Nat} (x : ExS K adr io S0 H0 ρ0 σ0 S H ρ σ) (h : SlV K adr H0 S H ρ σ v s) (hi : i ∉ io) : ExS K adr io S0 H0 ρ0 σ0 S H (ρ.set i (some s)) (σ.set i (some v)) := by
  cases s with
  | sh d => exact x.tr ((x.rp.store (i := i) h).st fun j m z => by
      have e : j = i := by simpa using z
      exact hi (e ▸ m))
  | ow xs =>
    obtain ⟨a, _, rp, own, g5⟩ := x.rp.storeL (i := i) h hi x.th
    refine ⟨x.s, x.kp, x.th, rp, fun b z => ?_, x.fr, fun j m => ?_⟩
    · rcases own b z with y | y
      · exact x.ow b y
      · exact .inr (y ▸ g5)
    · rw [List.getElem?_set_ne (show i ≠ j from fun z => hi (by rw [z]; exact m))]
      exact x.io j m
/-- some lists of slots have become shared ones -/
structure ShO (K : PySem.W.Frag) (adr : Nat → Addr) (S H : Hp) (ρ : Env) (σ : L2.St) (S' : Hp) (ρ' : Env) : Prop where
  rp : Rep K adr S' H ρ' σ
  s : Le S S'
  ow : ∀ a, Own ρ' σ a → Own ρ σ a
  fr : ∀ a o, S' a = some o → S a = some o ∨ Own ρ σ a
  dm : ∀ (i : Nat) s, ρ[i]? = some (some s) → ∃ s', ρ'[i]? = some (some s')
theorem ShO.rf (rp : Rep K adr S H ρ σ) : ShO K adr S H ρ σ S ρ := ⟨rp, Le.rf, fun _ z => z, fun _ _ z => .inl z, fun _ s z => ⟨s, z⟩⟩
theorem ShO.tr (p : ShO K adr S H ρ σ S1 ρ1) (q : ShO K adr S1 H ρ1 σ S2 ρ2) : ShO K adr S H ρ σ S2 ρ2 :=
  ⟨q.rp, p.s.tr q.s, fun a z => p.ow a (q.ow a z), fun a o z => by
    rcases q.fr a o z with y | y
    · exact p.fr a o y
    · exact .inr (p.ow a y), fun i s z => by
    obtain ⟨s1, y⟩ := p.dm i s z
    exact q.dm i s1 y⟩
theorem ShO.shr (p : ShO K adr S H ρ σ S1 ρ1) : Shr K adr H0 S H ρ σ S1 ρ1 := ⟨p.rp, p.s, p.ow, fun a o z => (p.fr a o z).elim .inl fun y => .inr (.inr y), p.dm⟩
theorem RR.keep {v : V} {r : R} (h : RR K adr H0 S H ρ σ v r) (p : ShO K adr S H ρ σ S1 ρ1) : RR K adr H0 S1 H ρ1 σ v r := by
  cases r with
  | v d => exact RV.mono p.s h
  | nw xs =>
    obtain ⟨a, vs, e, b, c, d, n, f⟩ := h
    refine ⟨a, vs, e, b, ?_, d.mono p.s, fun z => n (p.ow a z), f⟩
    cases z : S1 a with
    | none => rfl
    | some o =>
      rcases p.fr a o z with y | y
      · rw [c] at y
        cases y
      · exact absurd y n
  | sl i =>
    obtain ⟨e, s, e2⟩ := h
    exact ⟨e, p.dm i s e2⟩
theorem SlV.keep {v : V} {s : Sl} (h : SlV K adr H0 S H ρ σ v s) (p : ShO K adr S H ρ σ S1 ρ1) : SlV K adr H0 S1 H ρ1 σ v s := by
  cases s with
  | sh d => exact RV.mono p.s h
  | ow xs => exact RR.keep (r := .nw xs) h p
theorem slOf_ok {v : V} {r : R} {s : Sl} (rp : Rep K adr S H ρ σ) (h : RR K adr H0 S H ρ σ v r) (e : slOf ρ r = some (s, ρ')) :
    ∃ S', ShO K adr S H ρ σ S' ρ' ∧ SlV K adr H0 S' H ρ' σ v s := by
  have key : isNw r = false → ∀ d, esc ρ r = some (d, ρ') → ∃ S', ShO K adr S H ρ σ S' ρ' ∧ SlV K adr H0 S' H ρ' σ v (.sh d) := fun hn d e1 => by
    obtain ⟨S', q, rv, f⟩ := h.esc rp e1
    refine ⟨S', ⟨q.rp, q.s, q.ow, fun a o z => ?_, q.dm⟩, rv⟩
    rcases f a o z with y | ⟨_, y⟩ | y
    · exact .inl y
    · rw [hn] at y
      cases y
    · exact .inr y
  have inv : isNw r = false → slOf ρ r = (match esc ρ r with
      | some (d, ρ1) => some (Sl.sh d, ρ1)
      | none => none) := fun hn => by
    cases r with
    | nw _ => cases hn
    | _ => rfl
  cases hn : isNw r with
  | true =>
    cases r with
    | nw xs =>
      cases e
      exact ⟨S, .rf rp, h⟩
    | _ => cases hn
  | false =>
    rw [inv hn] at e
    split at e
    · rename_i d ρ1 e1
      cases e
      exact key hn d e1
    · cases e
def isOw : Sl → Bool
  | .ow _ => true
  | _ => false
inductive SlVs (K : PySem.W.Frag) (adr : Nat → Addr) (H0 S H : Hp) (ρ : Env) (σ : L2.St) : List V → List Sl → Prop
  | nil : SlVs K adr H0 S H ρ σ [] []
  | cons {v : V} {s : Sl} {vs : List V} {ss : List Sl} (h : SlV K adr H0 S H ρ σ v s) (t : SlVs K adr H0 S H ρ σ vs ss) (nd : isOw s = true → ∀ (i : Nat) w u, vs[i]? = some w → ss[i]? = some u → isOw u = true → w ≠ v) : SlVs K adr H0 S H ρ σ (v :: vs) (s :: ss)
theorem SlVs.keep (p : ShO K adr S H ρ σ S1 ρ1) : ∀ {vs : List V} {ss : List Sl}, SlVs K adr H0 S H ρ σ vs ss → SlVs K adr H0 S1 H ρ1 σ vs ss
  | _, _, .nil => .nil
  | _, _, .cons h t nd => .cons (h.keep p) (SlVs.keep p t) nd
theorem RRs.keep (p : ShO K adr S H ρ σ S1 ρ1) : ∀ {vs : List V} {rs : List R}, RRs K adr H0 S H ρ σ vs rs → RRs K adr H0 S1 H ρ1 σ vs rs
  | _, _, .nil => .nil
  | _, _, .cons h t nd => .cons (h.keep p) (RRs.keep p t) nd
/-- a new list is what is its own content, and nothing else -/
theorem slOf_isOw {r : R} {s : Sl} (e : slOf ρ r = some (s, ρ')) : isOw s = isNw r := by
  cases r with
  | nw xs =>
    cases e
    rfl
  | v d =>
    cases e
    rfl
  | sl i =>
    have e' : (match esc ρ (.sl i) with
      | some (d, ρ1) => some (Sl.sh d, ρ1)
      | none => none) = some (s, ρ') := e
    split at e'
    · cases e'
      rfl
    · cases e'
theorem slsOf_ok : ∀ {vs : List V} {rs : List R} {ss : List Sl} {S : Hp} {ρ ρ' : Env}, Rep K adr S H ρ σ → RRs K adr H0 S H ρ σ vs rs → slsOf ρ rs = some (ss, ρ') →
    ∃ S', ShO K adr S H ρ σ S' ρ' ∧ SlVs K adr H0 S' H ρ' σ vs ss ∧ ss.map isOw = rs.map isNw
  | _, _, _, S, _, _, rp, .nil, e => by
    cases e
    exact ⟨S, .rf rp, .nil, rfl⟩
  | _, _, ss, S, ρ, ρ', rp, .cons (v := v) (r := r) (vs := vs) (rs := rs) h t nd, e => by
    unfold slsOf at e
    split at e
    · cases e
    · rename_i s ρ1 e1
      split at e
      · cases e
      · rename_i ss' ρ2 e2
        cases e
        obtain ⟨Sa, pa, sv⟩ := slOf_ok rp h e1
        obtain ⟨Sb, pb, svs, em⟩ := slsOf_ok pa.rp (t.keep pa) e2
        have eo := slOf_isOw e1
        refine ⟨Sb, pa.tr pb, .cons (sv.keep pb) svs fun k i w u z1 z2 z3 => ?_, by rw [List.map_cons, List.map_cons, em, eo]⟩
        rw [eo] at k
        have z4 : (ss'.map isOw)[i]? = some true := by rw [List.getElem?_map, z2, Option.map_some, z3]
        rw [em, List.getElem?_map] at z4
        obtain ⟨r', z5, z6⟩ := Option.map_eq_some_iff.mp z4
        exact nd k i w r' z1 z5 z6
def setAll (σ : L2.St) : List Nat → List V → L2.St
  | i :: is, v :: vs => setAll (σ.set i (some v)) is vs
  | _, _ => σ
theorem puts_ok {S0 : Hp} {ρ0 : Env} {σ0 : L2.St} : ∀ {is : List Nat} {vs : List V} {ss : List Sl} {ρ ρ' : Env} {σ : L2.St}, ExS K adr io S0 H0 ρ0 σ0 S H ρ σ → SlVs K adr H0 S H ρ σ vs ss → (∀ i ∈ is, i ∉ io) → putS ρ is ss = some ρ' →
    ExS K adr io S0 H0 ρ0 σ0 S H ρ' (setAll σ is vs)
  | [], _, _, ρ, ρ', σ, x, .nil, _, e => by
    cases e
    exact x
  | i :: is, _, _, ρ, ρ', σ, x, .cons (v := v) (s := s) (vs := vs) (ss := ss) h t nd, hi, e => by
    have x1 := put1 x h (hi i List.mem_cons_self)
    have own : ∀ b, Own (ρ.set i (some s)) (σ.set i (some v)) b → Own ρ σ b ∨ (isOw s = true ∧ v = .ref b) := fun b z => by
      cases s with
      | sh d =>
        obtain ⟨j, xs, z1, z2⟩ := z
        rcases set_get z1 with ⟨_, y⟩ | ⟨n, y⟩
        · cases y
        · rw [List.getElem?_set_ne n] at z2
          exact .inl ⟨j, xs, y, z2⟩
      | ow xs =>
        obtain ⟨a, ea, _, f, _⟩ := x.rp.storeL (io := io) (i := i) h (hi i List.mem_cons_self) x.th
        rcases f b z with y | y
        · exact .inl y
        · exact .inr ⟨rfl, by rw [y]; exact ea⟩
    have up : ∀ {ws : List V} {us : List Sl}, SlVs K adr H0 S H ρ σ ws us → (isOw s = true → ∀ (i : Nat) w u, ws[i]? = some w → us[i]? = some u → isOw u = true → w ≠ v) → SlVs K adr H0 S H (ρ.set i (some s)) (σ.set i (some v)) ws us := by
      intro ws us t
      induction t with
      | nil => exact fun _ => .nil
      | @cons w u ws us h' t' nd' ih =>
        intro nd
        refine .cons ?_ (ih fun k j w u a b c => nd k (j + 1) w u (by simpa using a) (by simpa using b) c) nd'
        cases u with
        | sh d => exact h'
        | ow xs =>
          obtain ⟨a, zs, e', g1, g2, g3, g4, g5⟩ := h'
          refine ⟨a, zs, e', g1, g2, g3, fun z => ?_, g5⟩
          rcases own a z with y | ⟨y, y2⟩
          · exact g4 y
          · exact nd y 0 w _ rfl rfl rfl (by rw [e', y2])
    exact puts_ok (is := is) (vs := vs) (ss := ss) x1 (up t nd) (fun j m => hi j (List.mem_cons_of_mem _ m)) (show putS (ρ.set i (some s)) is ss = some ρ' from e)
  | [], _, _, _, _, _, _, .cons _ _ _, _, e => by cases e
  | _ :: _, _, _, _, _, _, _, .nil, _, e => by cases e
end
section
variable {X : Cx} {adr cls : Nat → Addr} {W : WX} {io : List Nat} {C : Ctx} {L : Cls} {a b c : Expr} {as : List Expr} {ea eb ec : E} {es : Es} {pos p2 : Pos} {st : Stmt} {sts stb : List Stmt} {s : Vi.S} {ss sb : Ss}
theorem s_pass : PS X (.Pass pos) (tS X.K adr cls W io C L .skip) := PS.imp ps_pass fun D σ H q => by
  obtain ⟨S, ρ, rp, p⟩ := q
  exact p.nx (.rf rp)
theorem s_brk : PS X (.Break pos) (tS X.K adr cls W io C L .brk) := PS.imp ps_break fun D σ H q => by
  obtain ⟨S, ρ, rp, p⟩ := q
  exact p σ S H (.rf rp)
theorem s_cont : PS X (.Continue pos) (tS X.K adr cls W io C L .cont) := PS.imp ps_continue fun D σ H q => by
  obtain ⟨S, ρ, rp, p⟩ := q
  exact p σ S H (.rf rp)
theorem s_never : PS X st (tS X.K adr cls W io C L .never) := ⟨fun pins s σ H D I q => by
  obtain ⟨S, ρ, rp, p⟩ := q
  exact p.no⟩
theorem s_expr (ha : PE X a (tE X.K adr cls W C ea)) (hs : swapsWith a none pos.line X.env = pure false) : PS X (.Expr a pos) (tS X.K adr cls W io C L (.ex ea)) := PS.imp (ps_expr ha hs) fun D σ H q => by
  obtain ⟨S, ρ, rp, p⟩ := q
  unfold evS at p
  exact ⟨S, ρ, rp, p.first fun r S1 H1 ρ1 x1 p1 v h => p1.nx x1.st⟩
theorem s_ret (ha : PE X a (tE X.K adr cls W C ea)) : PS X (.Return (some a) pos) (tS X.K adr cls W io C L (.ret ea)) := PS.imp (ps_ret ha) fun D σ H q => by
  obtain ⟨S, ρ, rp, p⟩ := q
  unfold evS at p
  exact ⟨S, ρ, rp, p.first fun r S1 H1 ρ1 x1 p1 v h => p1 v σ S1 H1 x1.st h⟩
theorem s_retN : PS X (.Return none pos) (tS X.K adr cls W io C L .retN) := PS.imp ps_retN fun D σ H q => by
  obtain ⟨S, ρ, rp, p⟩ := q
  exact p .non σ S H (.rf rp) .non
theorem ss_nil : PSs X [] (tSs X.K adr cls W io C L .nil) := PSs.imp pss_nil fun D σ H q => by
  obtain ⟨S, ρ, rp, p⟩ := q
  exact p.nx (.rf rp)
theorem ss_cons (h1 : PS X st (tS X.K adr cls W io C L s)) (h2 : PSs X sts (tSs X.K adr cls W io C L ss)) : PSs X (st :: sts) (tSs X.K adr cls W io C L (.cons s ss)) := PSs.imp (pss_cons h1 h2) fun D σ H q => by
  obtain ⟨S, ρ, rp, p⟩ := q
  unfold evSs at p
  refine ⟨S, ρ, rp, ?_⟩
  cases e : evS C L io s ρ with
  | none =>
    rw [e] at p
    exact p
  | some fl =>
    rw [e] at p
    cases fl with
    | nx ρ1 => exact fun σ' S' H' x => ⟨S', ρ1, x.rp, PostS.later p x⟩
    | _ => exact p
theorem s_if (hc : PT X c (tT X.K adr cls W C ec)) (ha : PSs X sts (tSs X.K adr cls W io C L ss)) (hb : PSs X stb (tSs X.K adr cls W io C L sb)) : PS X (.If c sts stb pos) (tS X.K adr cls W io C L (.ite ec ss sb)) := PS.imp (ps_if hc ha hb) fun D σ H q => by
  obtain ⟨S, ρ, rp, p⟩ := q
  unfold evS at p
  refine ⟨S, ρ, rp, ?_⟩
  unfold evT
  cases e : evE C ec ρ with
  | none =>
    rw [e] at p
    exact p.no
  | some z => cases z with
    | ex x ρ' =>
      rw [e] at p
      exact fun c d S' H' y => p c d σ S' H' y.st
    | ok r ρ' =>
      rw [e] at p
      simp only [bnd, bndS] at p ⊢
      split
      · rename_i d ed
        rw [ed] at p
        simp only at p
        split
        · rename_i b eb
          rw [eb] at p
          intro S' H' x
          cases b with
          | true => exact ⟨S', ρ', x.rp, PostS.later p x.st⟩
          | false => exact ⟨S', ρ', x.rp, PostS.later p x.st⟩
        · rename_i eb
          rw [eb] at p
          exact p.no
      · rename_i ed
        rw [ed] at p
        exact p.no
theorem s_set {i : Nat} {x : Str} {pn : Pos} (hN : X.N.Nodup) (hi : X.N[i]? = some x) (hx : Loc X.env.scope x) (ha : PE X a (tE X.K adr cls W C ea)) (hs : swapsWith a (some (.Name x pn)) pos.line X.env = pure false) (hf : X.fn x = true ∨ X.env.scope.names.lookup x = some .local) :
    PS X (.Assign [.Name x pn] a pos) (tS X.K adr cls W io C L (.asg (.nm i) ea)) := PS.imp (ps_set hN hi hx ha hs hf) fun D σ H q => by
  obtain ⟨S, ρ, rp, p⟩ := q
  unfold evS at p
  refine ⟨S, ρ, rp, p.first fun r S1 H1 ρ1 x1 p1 v h => ?_⟩
  split at p1
  · rename_i ρ2 e0
    unfold put at e0
    by_cases hm : io.contains i = true
    · rw [if_pos hm] at e0
      cases e0
    · rw [if_neg hm] at e0
      split at e0
      · rename_i s ρ2 e2
        cases e0
        obtain ⟨S', q, sv⟩ := slOf_ok x1.rp h e2
        exact p1.nx (put1 (x1.shr q.shr).st sv fun m => hm (by simpa using m))
      · cases e0
  · exact p1.no
end
end Vi
set_option Elab.async false
set_option linter.all false
set_option maxRecDepth 100000
set_option maxHeartbeats 4000000
/-! Vi, part P: assignments. -/
namespace Vi
open PySem PySem.Spec PyProof.Rows L2
section
variable (K : PySem.W.Frag) (adr cls : Nat → Addr) (W : WX)
def endsQ (Q : L2.St → Hp → Prop) : Ends := { nx := Q, rt := fun _ _ => False }
def gT (io : List Nat) (C : Ctx) (t : Tg) : TG := fun v σ H Q => ∃ S ρ d, Rep K adr S H ρ σ ∧ RV K adr S v d ∧ PostS K adr cls W io (stTg C io t d ρ) S H ρ σ (endsQ Q)
def gTs (io : List Nat) (C : Ctx) (ts : List Tg) : TGs := fun vs σ H Q => ∃ S ρ ds, Rep K adr S H ρ σ ∧ RVs K adr S vs ds ∧ PostS K adr cls W io (stTgs C io ts ds ρ) S H ρ σ (endsQ Q)
end
section
variable {X : Cx} {adr cls : Nat → Addr} {W : WX} {io : List Nat} {C : Ctx} {L : Cls} {a b c : Expr} {as ts : List Expr} {ea eb ec : E} {es : Es} {pos p2 : Pos} {tgs : List Tg} {tgt : Tg}
/-- a store's end is none but the next -/
theorem stTg_ends (C : Ctx) (io : List Nat) (t : Tg) (d : Vi.D) (ρ : Env) : (∃ ρ', stTg C io t d ρ = some (.nx ρ')) ∨ (∃ x ρ', stTg C io t d ρ = some (.ex x ρ')) ∨ stTg C io t d ρ = none := by
  cases t with
  | nm i =>
    show (∃ ρ', (if io.contains i = true then none else some (Fl.nx (setS ρ i d))) = some (.nx ρ')) ∨ _ ∨ (if io.contains i = true then none else some (Fl.nx (setS ρ i d))) = none
    by_cases h : io.contains i = true
    · rw [if_pos h]
      exact .inr (.inr rfl)
    · rw [if_neg h]
      exact .inl ⟨_, rfl⟩
  | sub i e =>
    simp only [stTg]
    split
    · cases h : evE C e ρ with
      | none => exact .inr (.inr rfl)
      | some z => cases z with
        | ex x ρ' => exact .inr (.inl ⟨x, ρ', rfl⟩)
        | ok r ρ1 =>
          show (∃ ρ', (match pk ρ1 r with
            | some k => (match putIx ρ1 i k d with
              | some ρ2 => some (Fl.nx ρ2)
              | none => none)
            | none => none) = some (.nx ρ')) ∨ _ ∨ (match pk ρ1 r with
            | some k => (match putIx ρ1 i k d with
              | some ρ2 => some (Fl.nx ρ2)
              | none => none)
            | none => none) = none
          split
          · split
            · exact .inl ⟨_, rfl⟩
            · exact .inr (.inr rfl)
          · exact .inr (.inr rfl)
    · exact .inr (.inr rfl)
theorem g_nm {i : Nat} {x : Str} (hN : X.N.Nodup) (hi : X.N[i]? = some x) (hx : Loc X.env.scope x) (hf : X.fn x = true ∨ X.env.scope.names.lookup x = some .local) : PG X (.Name x pos) (gT X.K adr cls W io C (.nm i)) :=
  ⟨fun pins s σ H v u Q I r q => (pg_name hN hi hx hf).run pins s σ H v u Q I r (by
    obtain ⟨S, ρ, d, rp, rv, p⟩ := q
    have p' : PostS X.K adr cls W io (if io.contains i = true then none else some (Fl.nx (setS ρ i d))) S H ρ σ (endsQ Q) := p
    by_cases hm : io.contains i = true
    · rw [if_pos hm] at p'
      exact p'.no
    · rw [if_neg hm] at p'
      exact p'.nx ((rp.store rv).st fun j m z => by
        have e : j = i := by simpa using z
        subst e
        exact hm (by simpa using m)))⟩
theorem g_sub {i : Nat} {k : Expr} {x : Str} {px : Pos} {ek : E} (hv : PE X (.Name x px) (tVar i)) (hk : PE X k (tE X.K adr cls W C ek))
    (hs : ∀ v, assign (.Subscript (.Name x px) k pos) X.env v = (do
      let ov ← holding [v] (eval (.Name x px) X.env)
      let iv ← holding [v, ov] (eval k X.env)
      standAt pos
      holding [v, ov, iv] (setItem ov iv v)
      release [v, ov, iv] [])) : PG X (.Subscript (.Name x px) k pos) (gT X.K adr cls W io C (.sub i ek)) :=
  ⟨fun pins s σ H v u Q I r q => (pg_sub hv hk set_list hs).run pins s σ H v u Q I r (by
    obtain ⟨S, ρ, d, rp, rv, p⟩ := q
    simp only [stTg] at p
    split at p
    · rename_i xs0 e0
      obtain ⟨l, ws0, el, _, _, _⟩ := rp.ow i _ e0
      refine ⟨.ref l, el, S, ρ, rp, p.first fun r S1 H1 ρ1 x1 p1 kv hk => ?_⟩
      split at p1
      · rename_i kd ek
        have rk := hk.pk x1.rp ek
        split at p1
        · rename_i ρ2 e2
          unfold putIx at e2
          split at e2
          · rename_i xs j e3
            split at e2
            · rename_i n e4
              cases e2
              obtain ⟨l', ws, el', hl, _, rl⟩ := x1.rp.ow i _ e3
              rw [el] at el'
              cases el'
              have rs : RVs X.K adr S1 (ws.set n v) (xs.set n d) := RVs.set (rv.mono x1.s) n rl
              exact ⟨l, ws, j, n, rfl, rk.int, hl, by rw [rl.len]; exact e4, p1.nx (x1.tr (x1.rp.poke e3 el rs)).st⟩
            · cases e2
          · cases e2
        · exact p1.no
      · exact p1.no
    · exact p.no)⟩
theorem gs_nil : PGs X [] (gTs X.K adr cls W io C []) := ⟨fun pins s σ H vs us Q I r q => pgs_nil.run pins s σ H vs us Q I r (by
  obtain ⟨S, ρ, ds, rp, rv, p⟩ := q
  cases rv with
  | nil => exact ⟨rfl, p.nx (.rf rp)⟩
  | cons _ _ => exact p.no)⟩
theorem gs_cons (h1 : PG X a (gT X.K adr cls W io C tgt)) (h2 : PGs X ts (gTs X.K adr cls W io C tgs)) (hs : (assignEach (a :: ts) X.env).map (·.2) = assign a X.env :: (assignEach ts X.env).map (·.2)) : PGs X (a :: ts) (gTs X.K adr cls W io C (tgt :: tgs)) :=
  ⟨fun pins s σ H vs us Q I r q => (pgs_cons h1 h2 hs).run pins s σ H vs us Q I r (by
    obtain ⟨S, ρ, ds, rp, rv, p⟩ := q
    cases rv with
    | nil => exact p.no
    | @cons v d vs ds hv rv =>
      refine ⟨v, vs, rfl, S, ρ, d, rp, hv, ?_⟩
      unfold stTgs at p
      rcases stTg_ends C io tgt d ρ with ⟨ρ1, e⟩ | ⟨x, ρ1, e⟩ | e
      · rw [e] at p ⊢
        exact fun σ' S' H' x => ⟨S', ρ1, ds, x.rp, rv.mono x.s, PostS.later p x⟩
      · rw [e] at p ⊢
        exact p
      · rw [e] at p
        exact p.no)⟩
theorem s_asub {i : Nat} {ek : E} {tg : Expr} (ha : PE X a (tE X.K adr cls W C ea)) (hg : PG X tg (gT X.K adr cls W io C (.sub i ek))) (hs : swapsWithSole [tg] a pos.line X.env = pure false) (hw : swappedStores [tg] a X.env = pure none) (h1 : (assignEach [tg] X.env).map (·.2) = [assign tg X.env]) :
    PS X (.Assign [tg] a pos) (tS X.K adr cls W io C L (.asg (.sub i ek) ea)) := PS.imp (ps_asg ha hg hs hw h1) fun D σ H q => by
  obtain ⟨S, ρ, rp, p⟩ := q
  unfold evS at p
  refine ⟨S, ρ, rp, p.first fun r S1 H1 ρ1 x1 p1 v h => ?_⟩
  split at p1
  · rename_i d ρ2 e
    obtain ⟨S', q, rv, _⟩ := h.esc x1.rp e
    have x2 := (x1.shr q).st (io := io)
    have p2 := PostS.later p1 x2
    refine ⟨S', ρ2, d, q.rp, rv, ?_⟩
    rcases stTg_ends C io (.sub i ek) d ρ2 with ⟨ρ3, e⟩ | ⟨x, ρ3, e⟩ | e
    · rw [e] at p2 ⊢
      exact p2
    · rw [e] at p2 ⊢
      exact p2
    · rw [e] at p2
      exact p2.no
  · exact p1.no
theorem stTgs_ends (C : Ctx) (io : List Nat) : ∀ (ts : List Tg) (ds : List Vi.D) (ρ : Env), (∃ ρ', stTgs C io ts ds ρ = some (.nx ρ')) ∨ (∃ x ρ', stTgs C io ts ds ρ = some (.ex x ρ')) ∨ stTgs C io ts ds ρ = none
  | [], [], ρ => .inl ⟨ρ, rfl⟩
  | [], _ :: _, ρ => .inr (.inr rfl)
  | _ :: _, [], ρ => .inr (.inr rfl)
  | t :: ts, d :: ds, ρ => by
    unfold stTgs
    rcases stTg_ends C io t d ρ with ⟨ρ1, e⟩ | ⟨x, ρ1, e⟩ | e
    · rw [e]
      exact stTgs_ends C io ts ds ρ1
    · rw [e]
      exact .inr (.inl ⟨x, ρ1, rfl⟩)
    · rw [e]
      exact .inr (.inr rfl)
theorem s_unp {kk : Nat} {pt : Pos} (hc : X.calm = true) (ha : PE X a (tE X.K adr cls W C ea)) (hg : PGs X ts (gTs X.K adr cls W io C tgs)) (hn : (assignEach ts X.env).length = tgs.length) (hst : (assignEach ts X.env).findIdx? (·.1) = none)
    (hs : swapsWithSole [.Tuple ts kk pt] a pos.line X.env = pure false) (hw : swappedStores [.Tuple ts kk pt] a X.env = pure none) (h1 : (assignEach [.Tuple ts kk pt] X.env).map (·.2) = [assign (.Tuple ts kk pt) X.env]) :
    PS X (.Assign [.Tuple ts kk pt] a pos) (tS X.K adr cls W io C L (.unp tgs ea)) := PS.imp (ps_asg ha (pg_tup hc hg hn hst) hs hw h1) fun D σ H q => by
  obtain ⟨S, ρ, rp, p⟩ := q
  unfold evS at p
  refine ⟨S, ρ, rp, p.first fun r S1 H1 ρ1 x1 p1 v h => ?_⟩
  split at p1
  · rename_i ds
    by_cases hl : tgs.length = ds.length
    · rw [if_pos hl] at p1
      cases h with
      | @tup t vs _ hq rr =>
        have p2 := PostS.later p1 (x1.st (io := io))
        refine ⟨t, vs, rfl, x1.rp.sub.sqT hq, by rw [rr.len]; exact hl.symm, S1, ρ1, ds, x1.rp, rr, ?_⟩
        rcases stTgs_ends C io tgs ds ρ1 with ⟨ρ3, e⟩ | ⟨x, ρ3, e⟩ | e
        · rw [e] at p2 ⊢
          exact p2
        · rw [e] at p2 ⊢
          exact p2
        · rw [e] at p2
          exact p2.no
    · rw [if_neg hl] at p1
      exact p1.no
  · exact p1.no
/-! ### a, b = x, y -/
/-- all slots at once -/
theorem par_ops {is : List Nat} {D : Ends} {σ : L2.St} {H : Hp} (q : tS X.K adr cls W io C L (.par is es) D σ H) :
    tEs X.K adr cls W C es σ H fun vs H1 => vs.length = is.length ∧ D.nx (setAll σ is vs) H1 ∧ ∀ t, H1 t = none → D.nx (setAll σ is vs) (upd H1 t (.tup vs)) := by
  obtain ⟨S, ρ, rp, p⟩ := q
  unfold evS at p
  refine ⟨S, ρ, rp, p.first fun rs S1 H1 ρ1 x1 p1 vs hs => ?_⟩
  split at p1
  · rename_i ρ3 e0
    unfold putAll at e0
    by_cases hm : is.any (io.contains ·) = true
    · rw [if_pos hm] at e0
      cases e0
    · rw [if_neg hm] at e0
      split at e0
      · rename_i ss ρ2 e2
        obtain ⟨S', q, sv, _⟩ := slsOf_ok x1.rp hs e2
        have hi : ∀ i ∈ is, i ∉ io := fun i m z => hm (List.any_eq_true.mpr ⟨i, m, by simpa using z⟩)
        have x2 := (x1.shr q.shr).st (io := io)
        have lenS : ∀ {is : List Nat} {ss : List Sl} {ρ ρ' : Env}, putS ρ is ss = some ρ' → ss.length = is.length := by
          intro is
          induction is with
          | nil =>
            intro ss ρ ρ' e
            cases ss with
            | nil => rfl
            | cons _ _ => cases e
          | cons i is ih =>
            intro ss ρ ρ' e
            cases ss with
            | nil => cases e
            | cons s ss => exact congrArg Nat.succ (ih (show putS (ρ.set i (some s)) is ss = some ρ' from e))
        have lenV : ∀ {vs : List V} {ss : List Sl} {H : Hp}, SlVs X.K adr H S' H1 ρ2 σ vs ss → vs.length = ss.length := by
          intro vs ss H t
          induction t with
          | nil => rfl
          | cons _ _ _ ih => exact congrArg Nat.succ ih
        refine ⟨(lenV sv).trans (lenS e0), p1.nx (puts_ok x2 sv hi e0), fun t ht => ?_⟩
        have g : Grow S' H1 S' (upd H1 t (.tup vs)) := .own q.rp.sub ht
        have xg := Ext.grow q.rp g
        have sv2 : SlVs X.K adr H S' (upd H1 t (.tup vs)) ρ2 σ vs ss := by
          have up : ∀ {vs0 : List V} {vs : List V} {ss : List Sl}, SlVs X.K adr H S' H1 ρ2 σ vs ss → SlVs X.K adr H S' (upd H1 t (.tup vs0)) ρ2 σ vs ss := by
            intro vs0 vs ss h
            induction h with
            | nil => exact .nil
            | @cons v s vs ss h' t' nd ih =>
              refine .cons ?_ ih nd
              cases s with
              | sh d => exact h'
              | ow xs =>
                obtain ⟨a, zs, e', g1, g2⟩ := h'
                exact ⟨a, zs, e', by rw [upd_ne (ne_of_none g1 ht)]; exact g1, g2⟩
          exact up sv
        exact p1.nx (puts_ok (x2.tr xg.st) sv2 hi e0)
      · cases e0
  · exact p1.no
theorem s_par2 {i j : Nat} {x y : Str} {px py pt : Pos} {kt k2 pt2} (hc : X.calm = true) (hN : X.N.Nodup) (hi : X.N[i]? = some x) (hj : X.N[j]? = some y) (hij : i ≠ j) (hx : X.env.scope.names.lookup x = some .local) (hy : X.env.scope.names.lookup y = some .local)
    (ha : PA X [a, b] (tEs X.K adr cls W C es)) (hw : swappedStores [.Tuple [.Name x px, .Name y py] kt pt] (.Tuple [a, b] k2 pt2) X.env = pure (some [x, y])) (hs : swapsWithSole [.Tuple [.Name x px, .Name y py] kt pt] (.Tuple [a, b] k2 pt2) pos.line X.env = pure false) :
    PS X (.Assign [.Tuple [.Name x px, .Name y py] kt pt] (.Tuple [a, b] k2 pt2) pos) (tS X.K adr cls W io C L (.par [i, j] es)) := PS.imp (ps_par hc hN hi hj hij hx hy ha hw hs) fun D σ H q => by
  obtain ⟨S, ρ, rp, p⟩ := par_ops q
  refine ⟨S, ρ, rp, p.imp fun rs S1 H1 ρ1 x1 f vs hs => ?_⟩
  obtain ⟨hl, h2, _⟩ := f vs hs
  match vs, hl, h2 with
  | [v, w], _, h2 => exact ⟨v, w, rfl, h2⟩
theorem s_par3 {i j l : Nat} {x y z : Str} {px py pz pt : Pos} {kt k2 pt2} (hc : X.calm = true) (hN : X.N.Nodup) (hi : X.N[i]? = some x) (hj : X.N[j]? = some y) (hl : X.N[l]? = some z) (hij : i ≠ j) (hil : i ≠ l) (hjl : j ≠ l)
    (hx : X.env.scope.names.lookup x = some .local) (hy : X.env.scope.names.lookup y = some .local) (hz : X.env.scope.names.lookup z = some .local)
    (ha : PA X [a, b, c] (tEs X.K adr cls W C es)) (hw : swappedStores [.Tuple [.Name x px, .Name y py, .Name z pz] kt pt] (.Tuple [a, b, c] k2 pt2) X.env = pure (some [x, y, z])) (hs : swapsWithSole [.Tuple [.Name x px, .Name y py, .Name z pz] kt pt] (.Tuple [a, b, c] k2 pt2) pos.line X.env = pure false) :
    PS X (.Assign [.Tuple [.Name x px, .Name y py, .Name z pz] kt pt] (.Tuple [a, b, c] k2 pt2) pos) (tS X.K adr cls W io C L (.par [i, j, l] es)) := PS.imp (ps_par3 hc hN hi hj hl hij hil hjl hx hy hz ha hw hs) fun D σ H q => by
  obtain ⟨S, ρ, rp, p⟩ := par_ops q
  refine ⟨S, ρ, rp, p.imp fun rs S1 H1 ρ1 x1 f vs hs => ?_⟩
  obtain ⟨hl, h2, _⟩ := f vs hs
  match vs, hl, h2 with
  | [v, w, u], _, h2 => exact ⟨v, w, u, rfl, h2⟩
theorem nms_all : ∀ {is : List Nat} {vs : List V} {σ : L2.St} {H : Hp} {Q : L2.St → Hp → Prop}, vs.length = is.length → Q (setAll σ is vs) H → gNms is vs σ H Q
  | [], [], _, _, _, _, h => ⟨rfl, h⟩
  | i :: is, v :: vs, σ, H, Q, hl, h => ⟨v, vs, rfl, nms_all (Nat.succ.inj hl) h⟩
  | [], _ :: _, _, _, _, hl, _ => by cases hl
  | _ :: _, [], _, _, _, hl, _ => by cases hl
/-- the tuple is made -/
theorem s_parT {is : List Nat} {pt : Pos} {kt k2 pt2} (hc : X.calm = true) (ha : PA X as (tEs X.K adr cls W C es)) (hg : PGs X ts (gNms is)) (hlen : is.length ≤ 1000) (hn : (assignEach ts X.env).length = is.length) (hst : (assignEach ts X.env).findIdx? (·.1) = none)
    (hs : swapsWithSole [.Tuple ts kt pt] (.Tuple as k2 pt2) pos.line X.env = pure false) (hw : swappedStores [.Tuple ts kt pt] (.Tuple as k2 pt2) X.env = pure none) (h1 : (assignEach [.Tuple ts kt pt] X.env).map (·.2) = [assign (.Tuple ts kt pt) X.env]) :
    PS X (.Assign [.Tuple ts kt pt] (.Tuple as k2 pt2) pos) (tS X.K adr cls W io C L (.par is es)) := PS.imp (ps_asg (pe_tup ha) (pg_tup hc hg hn hst) hs hw h1) fun D σ H q => by
  obtain ⟨S, ρ, rp, p⟩ := par_ops q
  refine ⟨S, ρ, rp, p.imp fun rs S1 H1 ρ1 x1 f vs hs => ?_⟩
  obtain ⟨hl, _, h3⟩ := f vs hs
  exact ⟨by rw [hl, sizeLine_eq]; omega, fun t ht => ⟨t, vs, rfl, .inl (.inl upd_same), hl, nms_all hl (h3 t ht)⟩⟩
end
end Vi
set_option Elab.async false
set_option linter.all false
set_option maxRecDepth 100000
set_option maxHeartbeats 4000000
/-! Vi, part Q: loops, raise, name op= e. -/
namespace Vi
open PySem PySem.Spec PyProof.Rows L2
def forF (C : Ctx) (L : Cls) (io tg : List Nat) (tp : Bool) (b : Ss) : Env → Vi.D → Option Fl := fun ρa d => match setTgIo io ρa tg tp d with
  | some ρb => evSs C L io b ρb
  | none => none
theorem evS_for {C : Ctx} {L : Cls} {io tg : List Nat} {tp : Bool} {it : It} {b : Ss} {ρ : Env} : evS C L io (.for_ tg tp it b) ρ = bndS (evI C it ρ) fun items ρ1 => forLoop (forF C L io tg tp b) ρ1 items := by
  rw [evS]
  rfl
def whlF (C : Ctx) (L : Cls) (io : List Nat) (c : E) (b : Ss) : Env → Option Fl := fun ρa => bndS (evE C c ρa) fun r ρb => match pk ρb r with
  | some d => (match truth d with
    | some true => evSs C L io b ρb
    | some false => some (.bk ρb)
    | none => none)
  | none => none
theorem evS_whl {C : Ctx} {L : Cls} {io : List Nat} {n : Nat} {c : E} {b : Ss} {ρ : Env} : evS C L io (.whl n c b) ρ = whileLoop (whlF C L io c b) n ρ := by
  rw [evS]
  rfl
section
variable {X : Cx} {adr cls : Nat → Addr} {W : WX} {io : List Nat} {C : Ctx} {L : Cls} {a b c : Expr} {as ts : List Expr} {ea eb ec : E} {es : Es} {pos p2 : Pos} {sts : List Stmt} {ss : Ss}
theorem s_for {tgE iter : Expr} {it : It} {tg : List Nat} {tp : Bool} (hp : PassesOwn (model X.prog X.w) X.A X.env X.xe) (hc : X.calm = true) (hi : PI X tgE iter (tI X.K adr cls W C it)) (hg : PG X tgE (gTgt X.K tg tp)) (hb : PSs X sts (tSs X.K adr cls W io C L ss))
    (hs : ∀ x, foldedSetIterable iter X.env x = pure x) : PS X (.For tgE iter sts [] pos) (tS X.K adr cls W io C L (.for_ tg tp it ss)) := PS.imp (ps_for hp hc hi hg hb hs) fun D σ H q => by
  obtain ⟨S, ρ, rp, p⟩ := q
  rw [evS_for] at p
  refine ⟨S, ρ, rp, p.first fun items S1 H1 ρ1 x1 p1 J wk => ?_⟩
  have pa := PostS.later p1 (x1.st (io := io))
  let Pv : Nat → L2.St → Hp → Prop := fun i σ' H' => ∃ S' ρ', Le S1 S' ∧ Rep X.K adr S' H' ρ' σ' ∧ PostS X.K adr cls W io (forLoop (forF C L io tg tp ss) ρ' (items.drop i)) S' H' ρ' σ' D
  have P0 : Pv 0 σ H1 := ⟨S1, ρ1, Le.rf, x1.rp, by rw [List.drop_zero]; exact pa⟩
  refine ⟨fun i m σ' H' => m = items.length - i ∧ i ≤ items.length ∧ Pv i σ' H', ⟨_, rfl, Nat.zero_le _, P0⟩, ?_⟩
  rintro i m σ' H' ⟨rfl, hi', S', ρ', l', rp', p'⟩
  by_cases lt : i < items.length
  · refine .inr ⟨wk.goes i S' H' l' rp'.sub lt, Pv (i + 1), fun σ'' H'' q => ⟨items.length - (i + 1), by omega, rfl, lt, q⟩, fun x H'' y => ?_⟩
    obtain ⟨S'', g, rv⟩ := wk.yields i S' H' x H'' items[i] l' rp'.sub (by simp [lt]) y
    rw [drop_cons lt] at p'
    have xg := (Ext.grow rp' g).st (io := io)
    have pg := PostS.later p' xg
    unfold forLoop forF setTgIo at pg
    by_cases hm : tg.any (io.contains ·) = true
    · rw [if_pos hm] at pg
      exact pg.no
    rw [if_neg hm] at pg
    cases et : setTg ρ' tg tp items[i] with
    | none =>
      rw [et] at pg
      exact pg.no
    | some ρb =>
      rw [et] at pg
      refine tgt_ok xg.rp rv et fun σ2 st => ?_
      have xs := st.st (io := io) fun i m z => hm (List.any_eq_true.mpr ⟨i, z, by simpa using m⟩)
      have ps := PostS.later pg xs
      refine ⟨S'', ρb, st.rp, ?_⟩
      simp only at ps
      have lS : Le S1 S'' := l'.tr g.s
      cases eb : evSs C L io ss ρb with
      | none =>
        rw [eb] at ps
        exact ps.no
      | some fl =>
        rw [eb] at ps
        cases fl with
        | nx ρ3 => exact fun σ3 S3 H3 x3 => ⟨S3, ρ3, lS.tr x3.s, x3.rp, PostS.later ps x3⟩
        | ct ρ3 => exact fun σ3 S3 H3 x3 => ⟨S3, ρ3, lS.tr x3.s, x3.rp, PostS.later ps x3⟩
        | bk ρ3 => exact fun σ3 S3 H3 x3 => ps σ3 S3 H3 x3
        | rt r ρ3 => exact ps
        | ex x ρ3 => exact ps
  · have ei : i = items.length := by omega
    subst ei
    refine .inl ⟨wk.stops S' H' l' rp'.sub, ?_⟩
    rw [List.drop_length] at p'
    exact p'.nx (.rf rp')
theorem s_whl {n : Nat} (hp : PassesOwn (model X.prog X.w) X.A X.env X.xe) (hcd : PT X c (tT X.K adr cls W C ec)) (hb : PSs X sts (tSs X.K adr cls W io C L ss)) : PS X (.While c sts [] pos) (tS X.K adr cls W io C L (.whl n ec ss)) := PS.imp (ps_while hp hcd hb) fun D σ H q => by
  obtain ⟨S, ρ, rp, p⟩ := q
  rw [evS_whl] at p
  let Pv : Nat → L2.St → Hp → Prop := fun m σ' H' => ∃ S' ρ', Rep X.K adr S' H' ρ' σ' ∧ PostS X.K adr cls W io (whileLoop (whlF C L io ec ss) m ρ') S' H' ρ' σ' D
  refine ⟨Pv, ⟨n, S, ρ, rp, p⟩, ?_⟩
  rintro m σ' H' ⟨S', ρ', rp', p'⟩
  cases m with
  | zero => exact p'.no
  | succ m =>
    unfold whileLoop whlF at p'
    refine ⟨S', ρ', rp', ?_⟩
    unfold evT
    cases e : evE C ec ρ' with
    | none =>
      rw [e] at p'
      exact p'.no
    | some z => cases z with
      | ex x ρ1 =>
        rw [e] at p'
        exact fun c d S' H' y => p' c d σ' S' H' y.st
      | ok r ρ1 =>
        rw [e] at p'
        simp only [bnd, bndS] at p' ⊢
        cases ed : pk ρ1 r with
        | none =>
          rw [ed] at p'
          exact p'.no
        | some d =>
          rw [ed] at p'
          simp only at p' ⊢
          cases eb : truth d with
          | none =>
            rw [eb] at p'
            exact p'.no
          | some t =>
            rw [eb] at p'
            simp only at p' ⊢
            intro S2 H2 x
            have p2 := PostS.later p' (x.st (io := io))
            cases t with
            | false =>
              rw [if_neg Bool.false_ne_true]
              exact p2.nx (.rf x.rp)
            | true =>
              rw [if_pos rfl]
              refine ⟨Pv m, fun σ'' H'' w => ⟨m, Nat.lt_succ_self _, w⟩, S2, ρ1, x.rp, ?_⟩
              simp only at p2
              cases es : evSs C L io ss ρ1 with
              | none =>
                rw [es] at p2
                exact p2.no
              | some fl =>
                rw [es] at p2
                cases fl with
                | nx ρ3 => exact fun σ3 S3 H3 x3 => ⟨S3, ρ3, x3.rp, PostS.later p2 x3⟩
                | ct ρ3 => exact fun σ3 S3 H3 x3 => ⟨S3, ρ3, x3.rp, PostS.later p2 x3⟩
                | bk ρ3 => exact fun σ3 S3 H3 x3 => p2 σ3 S3 H3 x3
                | rt r ρ3 => exact p2
                | ex x ρ3 => exact p2
/-! ### raise X() -/
/-- X(), X an own exception class without own __init__ -/
theorem pmk_own0 {Ca : Addr} {bmB : List Value} {B newId initId : String} {x : Str} {pn : Pos} (F : ExcBaseFacts B newId initId bmB) (q : PySem.W.excIn X.K Ca bmB newId = true) (gC : X.mg x = some (.ref Ca)) (kC : PySem.W.keepIn X.K (.ref Ca) = true) (r : Raises X (.ref Ca)) (hg : Gl X x)
    (hdb : (x == ("__debug__" : Str)) = false) : PMk X (.Call (.Name x pn) [] [] pos) (fun _ H Q => Q (.ref Ca) none H) := by
  intro pins s σ H Q I h
  refine wpAny_Call_Name_kw (ld_glob I hg gC ?_ hdb)
  refine PySem.W.callWith_K0 I.kIn kC ?_
  show wpAny _ _ (PySem.call (.ref Ca) []) _ _ _
  obtain ⟨bm, N, nm, qn, bs, hdct, sn, sub, ab, col, dd, k0, k1, k2, k3, k5, mN, hC, hN, hni, T⟩ := exc_obj I.kIn q
  refine wpAny_call_exc_subT F T hC hN hni (fun h' e hm => ?_) (by show 0 ≤ sizeLine; exact Nat.zero_le _)
  exact mk_of I hm r h (I.hok.gone hm.new)
theorem s_raise0 {k : Nat} {bmB : List Value} {B newId initId : String} {x : Str} {pn pr : Pos} (hc : X.calm = true) (tk : Takes X W) (F : ExcBaseFacts B newId initId bmB) (q : PySem.W.excIn X.K (cls k) bmB newId = true) (gC : X.mg x = some (.ref (cls k))) (kC : PySem.W.keepIn X.K (.ref (cls k)) = true)
    (r : Raises X (.ref (cls k))) (hg : Gl X x) (hdb : (x == ("__debug__" : Str)) = false) : PS X (.Raise (some (.Call (.Name x pn) [] [] pos)) none pr) (tS X.K adr cls W io C L (.raise k .nil)) := PS.imp (ps_raise hc tk (pmk_own0 F q gC kC r hg hdb)) fun D σ H q => by
  obtain ⟨S, ρ, rp, p⟩ := q
  have p' : PostS X.K adr cls W io (some (.ex ⟨k, none⟩ ρ)) S H ρ σ D := p
  exact p' _ _ σ S H (.rf rp) ⟨rfl, rfl⟩
end
end Vi
set_option Elab.async false
set_option linter.all false
set_option maxRecDepth 100000
set_option maxHeartbeats 4000000
/-! Vi, part R: try with clauses that name the error. -/
namespace Vi
open PySem PySem.Spec PyProof.Rows L2
/-- what the clauses 'except c as n' wish of an exception of the body, one after the other -/
def wManyA (K : PySem.W.Frag) (Wout : WX) (D : Ends) : List (Value × Nat × (Addr → Value → Option Addr → TS)) → WX
  | [] => Wout
  | (c, i, ts) :: r => fun cls d σ H => ∃ b, PySem.W.exmOne K cls c = some b ∧
    (b = true → ∀ a, H a = none → ts a cls d { nx := fun σ' H' => D.nx (σ'.set i none) H', rt := D.rt, bk := fun σ' H' => D.bk (σ'.set i none) H', ct := fun σ' H' => D.ct (σ'.set i none) H' } (σ.set i (some (.ref a))) H) ∧
    (b = false → wManyA K Wout D r cls d σ H)
inductive HdsA (X : Cx) : List ExceptHandler → List (Value × Nat × (Addr → Value → Option Addr → TS)) → Prop
  | nil : HdsA X [] []
  | cons {x n : Str} {c : Value} {i : Nat} {ts : Addr → Value → Option Addr → TS} {b₀ : Stmt} {suite : List Stmt} {np pos' : Pos} {hds : List ExceptHandler} {l : List (Value × Nat × (Addr → Value → Option Addr → TS))} (hc : Names X x c)
      (hi : X.N[i]? = some n) (hln : X.env.kindOf n = some .local)
      (hsu : ∀ (a : Addr) (oe : Obj) (cls : Value) (d : Option Addr) (pn : List (Addr × Obj)), Zc cls d oe → (∃ vs, oe.data = .fields vs) → PSs (X.suite a ((a, oe) :: pn)) (b₀ :: suite) (ts a cls d)) (r : HdsA X hds l) :
      HdsA X (.ExceptHandler (some (.Name x np)) (some n) (b₀ :: suite) pos' :: hds) ((c, i, ts) :: l)
section
variable {X : Cx} {body : List Stmt} {h₀ : ExceptHandler} {hds : List ExceptHandler} {l : List (Value × Nat × (Addr → Value → Option Addr → TS))} {pos : Pos} {tb : WX → TS} {Wout : WX}
theorem ps_try_manyA (hs : X.stack = X.env :: X.outer) (hf : X.env.frame = some X.env.locals) (hN : X.N.Nodup) (tk : Takes X Wout)
    (hb : ∀ (W : WX) (pn : List (Addr × Obj)) (xe : Value → Shared → Prop), Takes (X.tr pn xe) W → PassesOwn (model X.prog X.w) X.A X.env xe → PSs (X.tr pn xe) body (tb W))
    (hh : HdsA X (h₀ :: hds) l) : PS X (.Try body (h₀ :: hds) [] [] pos) (fun D σ H => tb (wManyA X.K Wout D l) D σ H) := by
  refine ⟨fun pins s σ H D I h => ?_⟩
  have ok := I.ok
  have hfr : X.A.frames = some (X.env :: X.outer) := by rw [ok.frames, hs]
  refine wpAny_Try_except ?_
  refine wpAny_mono ((hb (wManyA X.K Wout D l) (X.pn ++ pins) (fun e s₁ => wpAny (model X.prog X.w) X.A (noteFrame e X.env) (fun _ s₂ => wpAny (model X.prog X.w) X.A (setFlight e none) (fun _ s₃ =>
    wpAny (model X.prog X.w) X.A (handleBy e X.env (h₀ :: hds)) (SP X pins D) X.xe s₃) X.xe s₂) X.xe s₁) (fun u s' xx => ?_) PassesOwn.looking).run [] s σ H D (I.toTry _) h) (fun f s1 hsp => ?_) (fun e s1 he => he)
  · obtain ⟨a, B, sI, pins', σ', H', cls, d, rfl, J', nb, up, sky, na, os, ag, w⟩ := xx
    have J : Inv X pins σ' H' sI := J'.ofTry ok
    have sky' : Sky B (X.env :: X.outer) a (Zc cls d) X.env.locals s'.heap := by rw [← hs]; exact sky
    show wpAny (model X.prog X.w) X.A (noteFrame (.ref a) X.env) _ _ _
    refine Sky.land Zc.steady hfr hf sky' fun h3 fl3 up3 => ?_
    have J3 : Inv X pins σ' H' { s' with heap := h3 } := J.landed nb fl3.1 (up.trans up3) os ag
    obtain ⟨oe3, vs3, he3, hz3, hd3⟩ := fl3.there
    have notFr : ∀ {h : Heap} {o : Obj} {vs : Array Value}, h.FunFrames B (X.env :: X.outer) → h.get? a = some o → o.data = .fields vs → a ∉ frs (X.env :: X.outer) := fun {h o vs} ff e dd hm => by
      obtain ⟨_, o', e', hnf⟩ := ff.mem hm
      rw [e] at e'; cases e'
      exact hnf _ dd
    have nfr := notFr fl3.2.2.1 he3 hd3
    have nL : a ≠ X.env.locals := fun z => nfr (List.mem_filterMap.mpr ⟨X.env, List.mem_cons_self, by rw [hf, z]⟩)
    have nF : a ∉ X.fs := fun hm => by
      obtain ⟨e, he, q⟩ := List.mem_filterMap.mp hm
      exact nfr (List.mem_filterMap.mpr ⟨e, List.mem_cons_of_mem _ he, q⟩)
    have S3 := J3.suite he3 hd3 na nL nF
    have go : ∀ {hds' : List ExceptHandler} {l' : List (Value × Nat × (Addr → Value → Option Addr → TS))}, HdsA X hds' l' → wManyA X.K Wout D l' cls d σ' H' →
        wpAny (model X.prog X.w) X.A (handleBy (.ref a) X.env hds') (SP X pins D) X.xe { s' with heap := h3 } := by
      intro hds' l' hk
      induction hk with
      | nil =>
        intro w
        refine wpAny_handleBy_nil ?_
        obtain ⟨k1, k2, k3, oe, vs, T, oT, ts', he, hz, hd, h1, hr⟩ := id fl3
        unfold PySem.passOn
        refine wpAny_bind (wpAny_field he hd h1 ?_)
        rw [if_neg (show ¬ ((Value.ref T == Value.none) = true) from by simp)]
        have fin : wpAny (model X.prog X.w) X.A (setFlight (.ref a) X.env.frame) (fun _ s4 => wpAny (model X.prog X.w) X.A (throw (.ref a) : Sem Flow) (SP X pins D) X.xe s4) X.xe { s' with heap := h3 } := by
          rw [hf]
          refine HandSPX.setFlight_upZ fl3 fun h4 hh4 up4 => wpAny_throw (tk _ _ ?_)
          exact ⟨a, B, sI, pins, σ', H', cls, d, rfl, J, nb, (up.trans up3).trans up4, .inr (.inr (by rw [hs]; exact hh4)), na, os, ag, w⟩
        first
          | exact wpAny_bind (wpAny_pure (wpAny_bind fin))
          | exact wpAny_bind fin
      | @cons x n c i ts b₀ suite np pos' hds2 l2 hc hi hln hsu r ih =>
        intro w
        obtain ⟨b, hb1, hyes, hno⟩ := w
        have hloc : Loc X.env.scope n := .inl hln
        refine wpAny_handleBy_cons (codeAny_handlers_test ?_) (by intro q; cases q)
        have LT : PySem.W.Looks (model X.prog X.w) h3 (typeOf (.ref a)) cls := fun A Q E s k q => wpAny_typeOf_ref (k _ _ he3) (by rw [hz3.1]; exact q)
        have LM := PySem.W.exm_one (M := model X.prog X.w) (J3.kIn) LT hb1
        have test : ∀ {Q : Value → Shared → Prop} {E : Value → Shared → Prop}, Q c { s' with heap := h3 } → wpAny (model X.prog X.w) (X.A.mark (some (.ref a))) (eval (.Name x np) X.env) Q E { s' with heap := h3 } := fun {Q E} q => by
          obtain ⟨hg, hdbg, hm | ⟨hm, hv, hnn⟩⟩ := hc
          · exact ld_glob (X := X.suite a ((a, oe3) :: (X.pn ++ pins))) S3 hg hm q hdbg
          · exact ld_blt (X := X.suite a ((a, oe3) :: (X.pn ++ pins))) S3 hg hm hv q hnn hdbg
        refine test (LM.here ?_)
        cases b with
        | true =>
          refine codeAny_handlers_suite_as ?_
          refine HandSPX.lands_againZ fl3 fun h4 fl4 up4 => ?_
          have J4 : Inv X pins σ' H' { s' with heap := h4 } := J.landed nb fl4.1 ((up.trans up3).trans up4) os ag
          obtain ⟨oe4, vs4, he4, hz4, hd4⟩ := fl4.there
          have S4 := J4.suite he4 hd4 na nL nF
          refine store_ok (X := X.suite a ((a, oe4) :: (X.pn ++ pins))) (v := .ref a) S4 hN hi hloc rfl (fun s5 S5 => ?_) (.inr hln)
          refine wpAny_mono ((hsu a oe4 cls d (X.pn ++ pins) hz4 ⟨_, hd4⟩).run [] s5 _ H' _ S5 (hyes rfl a na)) (fun f s6 hsp => ?_) (fun _ _ z => False.elim z)
          have end_ : ∀ {σ6 : L2.St} {H6 : Hp} {Q : Shared → Prop}, Inv (X.suite a ((a, oe4) :: (X.pn ++ pins))) [] σ6 H6 s6 → (∀ s7, Inv X pins (σ6.set i none) H6 s7 → Q s7) →
              wpAny (model X.prog X.w) X.A (do bindName X.env n .none; unbindBehindTheSuite X.env n pos') (fun _ s7 => Q s7) X.xe s6 := fun {σ6 H6 Q} S6 hq => gone_ok (S6.unsuite ok) hN hi hln hq
          cases f with
          | next =>
            obtain ⟨σ6, H6, S6, q6⟩ := hsp
            exact end_ S6 fun s7 J7 => ⟨_, _, J7, q6⟩
          | brk =>
            obtain ⟨σ6, H6, S6, q6⟩ := hsp
            exact end_ S6 fun s7 J7 => ⟨_, _, J7, q6⟩
          | cont =>
            obtain ⟨σ6, H6, S6, q6⟩ := hsp
            exact end_ S6 fun s7 J7 => ⟨_, _, J7, q6⟩
          | ret u =>
            obtain ⟨v6, σ6, H6, S6, r6, q6⟩ := hsp
            exact end_ S6 fun s7 J7 => ⟨_, _, _, J7, r6, q6⟩
        | false =>
          show wpAny _ X.A (handleBy (.ref a) X.env hds2) _ _ _
          exact ih (hno rfl)
    exact go hh w
  · cases f with
    | next =>
      obtain ⟨σ', H', J', q⟩ := hsp
      exact wpAny_execs_nil ⟨σ', H', J'.ofTry ok, q⟩
    | brk =>
      obtain ⟨σ', H', J', q⟩ := hsp
      exact ⟨σ', H', J'.ofTry ok, q⟩
    | cont =>
      obtain ⟨σ', H', J', q⟩ := hsp
      exact ⟨σ', H', J'.ofTry ok, q⟩
    | ret u =>
      obtain ⟨v, σ', H', J', r, q⟩ := hsp
      exact ⟨v, σ', H', J'.ofTry ok, r, q⟩
end
/-- what is told of the classes, by the written part -/
structure ClsOk (K : PySem.W.Frag) (cls : Nat → Addr) (L : Cls) : Prop where
  isA : ∀ i j b, L.isA i j = some b → PySem.W.exmOne K (.ref (cls i)) (.ref (cls j)) = some b
  isB : ∀ i n b, L.isB i n = some b → ExcC K (cls i) ∧ ∃ T, bootBuiltins n = some (.type T) ∧ n ≠ "__name__" ∧ (n == ("__debug__" : Str)) = false ∧ PySem.W.kitOne K (.ref (cls i)) (.type T) = some b
section
variable {K : PySem.W.Frag} {adr cls : Nat → Addr} {W : WX} {io : List Nat} {S H S' H' : Hp} {ρ ρ' : Env} {σ σ' : L2.St} {D : Ends}
/-- a slot is forgotten, whatever it holds -/
theorem Rep.blank (rp : Rep K adr S H ρ σ) (n : Nat) (x : Option V) : Rep K adr S H (ρ.set n none) (σ.set n x) := by
  have get : ∀ {i : Nat} {s : Sl}, (ρ.set n none)[i]? = some (some s) → n ≠ i ∧ ρ[i]? = some (some s) := fun {i s} e => by
    rcases set_get e with ⟨_, y⟩ | y
    · cases y
    · exact y
  refine ⟨rp.sub, by rw [List.length_set, List.length_set]; exact rp.len, fun i d e => ?_, fun i xs e => ?_, fun i j xs ys a e1 e2 e3 e4 => ?_⟩
  · obtain ⟨ne, e⟩ := get e
    rw [List.getElem?_set_ne ne]
    exact rp.sh i d e
  · obtain ⟨ne, e⟩ := get e
    rw [List.getElem?_set_ne ne]
    exact rp.ow i xs e
  · obtain ⟨n1, e1⟩ := get e1
    obtain ⟨n2, e2⟩ := get e2
    rw [List.getElem?_set_ne n1] at e3
    rw [List.getElem?_set_ne n2] at e4
    exact rp.dj i j xs ys a e1 e2 e3 e4
theorem Rep.blankS (rp : Rep K adr S H ρ σ) {n : Nat} (x : Option V) (hn : n ∉ io) : ExS K adr io S H ρ σ S H (ρ.set n none) (σ.set n x) := by
  refine ⟨Le.rf, fun _ _ e _ => e, fun _ o e => ⟨o, e⟩, rp.blank n x, fun a ⟨i, xs, e1, e2⟩ => ?_, fun _ _ e => .inl e, fun i m => ?_⟩
  · rcases set_get e1 with ⟨_, y⟩ | ⟨ne, y⟩
    · cases y
    · rw [List.getElem?_set_ne ne] at e2
      exact .inl ⟨i, xs, y, e2⟩
  · rw [List.getElem?_set_ne (show n ≠ i from fun z => hn (by rw [z]; exact m))]
end
section
variable {X : Cx} {adr cls : Nat → Addr} {W : WX} {io : List Nat} {C : Ctx} {L : Cls} {body : List Stmt} {ss : Ss} {pos : Pos}
/-- a clause as the program writes it: except cx as n: t = [word, isinstance(n, base)] -/
def hdS (cx n t word base : Str) (np p0 p1 p2 p3 p4 p5 p6 p7 pos' : Pos) (j : Nat) : ExceptHandler :=
  .ExceptHandler (some (.Name cx np)) (some n) [.Assign [.Name t p0] (.List [.Constant (.str word) j p1, .Call (.Name "isinstance" p2) [.Name n p3, .Name base p4] [] p5] p6) p7] pos'
/-- a clause's suite, as a reading: the error is of the class k -/
def tHd (K : PySem.W.Frag) (cls : Nat → Addr) (L : Cls) (n t : Nat) (word base : Str) : Addr → Value → Option Addr → TS := fun a c d D σ H => ∃ k b, ∃ σ0 : L2.St, c = .ref (cls k) ∧ d = none ∧ L.isB k base = some b ∧ σ = σ0.set n (some (.ref a)) ∧
  ∀ p, H p = none → D.nx (σ.set t (some (.ref p))) (upd H p (.lst [.str word, .bl b]))
theorem hd_suite {a : Addr} {oe : Obj} {c : Value} {d : Option Addr} {pn : List (Addr × Obj)} {n t : Nat} {nx tx word base : Str} {p0 p1 p2 p3 p4 p5 p6 p7 : Pos} {j : Nat} (K0 : ClsOk X.K cls L) (hz : Zc c d oe) (hf : ∃ vs, oe.data = .fields vs)
    (hN : X.N.Nodup) (hn : X.N[n]? = some nx) (hnv : Vis X.env.scope nx) (hnd : (nx == ("__debug__" : Str)) = false) (hncd : (nx == ("__classdict__" : Str)) = false) (ht : X.N[t]? = some tx) (htl : Loc X.env.scope tx) (htf : X.fn tx = true ∨ X.env.scope.names.lookup tx = some .local)
    (hi : BName X "isinstance" (.builtin "isinstance")) (hb1 : Gl X base) (hb2 : X.mg base = none) :
    PSs (X.suite a ((a, oe) :: pn)) [.Assign [.Name tx p0] (.List [.Constant (.str word) j p1, .Call (.Name "isinstance" p2) [.Name nx p3, .Name base p4] [] p5] p6) p7] (tHd X.K cls L n t word base a c d) := by
  refine ⟨fun pins s σ H D I q => ?_⟩
  obtain ⟨k, b, σ0, rfl, rfl, hB, es, q⟩ := q
  have hs : σ[n]? = some (some (.ref a)) := by
    have l : σ.length = X.N.length := I.len
    have lt : n < X.N.length := (List.getElem?_eq_some_iff.mp hn).1
    rw [es, List.length_set] at l
    rw [es, List.getElem?_set_self (by omega)]
  obtain ⟨ec, T, e1, e2, e3, e4⟩ := K0.isB k base b hB
  obtain ⟨i1, i2, i3, i4, i5⟩ := hi
  have hC := call_isE (X := X) (pn := pn) (a := a) ec hz hf
  have pe : PE (X.suite a ((a, oe) :: pn)) (.List [.Constant (.str word) j p1, .Call (.Name "isinstance" p2) [.Name nx p3, .Name base p4] [] p5] p6) _ :=
    pe_lst (pa_cons pe_str (pa_cons (pe_callB hC i1 i2 i3 (pa_cons (pe_var (i := n) hn hnv hnd hncd) (pa_cons (pe_bltn (v := .ty T) hb1 hb2 e1 rfl e2 e3) pa_nil)) i4 i5) pa_nil))
  refine (pss_one (ps_set (X := X.suite a ((a, oe) :: pn)) hN ht htl pe rfl htf)).run pins s σ H D I ?_
  refine ⟨.ref a, hs, .ty T, .type T, b, rfl, fun u r => r, e4, by show 2 ≤ sizeLine; rw [sizeLine_eq]; omega, fun p hp => q p hp⟩
/-- the clauses of the two sides -/
inductive HdOk (X : Cx) (cls : Nat → Addr) : List ExceptHandler → List Hd → Prop
  | nil : HdOk X cls [] []
  | cons {cx nx tx word base : Str} {c n t j : Nat} {np p0 p1 p2 p3 p4 p5 p6 p7 pos' : Pos} {hds : List ExceptHandler} {hs : List Hd} (hc : Names X cx (.ref (cls c))) (hn : X.N[n]? = some nx) (hln : X.env.kindOf nx = some .local) (hnv : Vis X.env.scope nx)
      (hnd : (nx == ("__debug__" : Str)) = false) (hncd : (nx == ("__classdict__" : Str)) = false) (ht : X.N[t]? = some tx) (htl : Loc X.env.scope tx) (htf : X.fn tx = true ∨ X.env.scope.names.lookup tx = some .local) (hb1 : Gl X base) (hb2 : X.mg base = none) (r : HdOk X cls hds hs) :
      HdOk X cls (hdS cx nx tx word base np p0 p1 p2 p3 p4 p5 p6 p7 pos' j :: hds) (.mk c n t word false base :: hs)
def hdL (K : PySem.W.Frag) (cls : Nat → Addr) (L : Cls) : List Hd → List (Value × Nat × (Addr → Value → Option Addr → TS))
  | [] => []
  | .mk c n t w _ b :: hs => (.ref (cls c), n, tHd K cls L n t w b) :: hdL K cls L hs
theorem HdOk.a (K0 : ClsOk X.K cls L) (hN : X.N.Nodup) (hi : BName X "isinstance" (.builtin "isinstance")) : ∀ {hds : List ExceptHandler} {hs : List Hd}, HdOk X cls hds hs → HdsA X hds (hdL X.K cls L hs)
  | _, _, .nil => .nil
  | _, _, .cons hc hn hln hnv hnd hncd ht htl htf hb1 hb2 r => .cons hc hn hln (fun a oe c d pn hz hf => hd_suite K0 hz hf hN hn hnv hnd hncd ht htl htf hi hb1 hb2) (HdOk.a K0 hN hi r)
/-- the clauses take what the interpreter says -/
theorem handle_ok {D : Ends} {S0 H0 : Hp} {ρ0 : Env} {σ0 : L2.St} (K0 : ClsOk X.K cls L) : ∀ {hs : List Hd} {x : Xc} {ρ : Env}, (∀ i ∈ hs, match i with | .mk _ _ _ w _ _ => PyData.canLay0 (.str w) = true) → PostS X.K adr cls W io (handle L io hs x ρ) S0 H0 ρ0 σ0 D → ∀ c d σ S H, ExS X.K adr io S0 H0 ρ0 σ0 S H ρ σ → RX cls x c d H → wManyA X.K W D (hdL X.K cls L hs) c d σ H
  | [], x, ρ, _, p, c, d, σ, S, H, e, rx => p c d σ S H e rx
  | .mk ci n t w ln b :: hs, x, ρ, hlt, p, c, d, σ, S, H, e, rx => by
    obtain ⟨ec, ed⟩ := rx
    unfold handle at p
    split at p
    · rename_i ea
      refine ⟨true, by rw [ec]; exact K0.isA _ _ _ ea, fun _ a ha => ?_, fun z => nomatch z⟩
      by_cases hm : (io.contains t || io.contains n || t == n) = true
      · rw [if_pos hm] at p
        exact p.no
      · rw [if_neg hm] at p
        have hmf := Bool.eq_false_iff.mpr hm
        rw [Bool.or_eq_false_iff, Bool.or_eq_false_iff] at hmf
        have nt : t ∉ io := fun m => by
          have := hmf.1.1
          simp [m] at this
        have nn : n ∉ io := fun m => by
          have := hmf.1.2
          simp [m] at this
        have ntn : t ≠ n := fun z => by
          have := hmf.2
          simp [z] at this
        split at p
        · rename_i k eb el
          rw [el] at ed
          refine ⟨x.c, k, σ, ec, ed, eb, rfl, fun q hq => ?_⟩
          have x1 := e.tr (e.rp.blankS (io := io) (some (.ref a)) nn)
          have xg := Ext.grow x1.rp (Grow.own (o := .lst [.str w, .bl k]) x1.rp.sub hq)
          have x2 := x1.tr (xg.st (io := io))
          have hv : SlV X.K adr H0 S (upd H q (.lst [.str w, .bl k])) (ρ.set n none) (σ.set n (some (.ref a))) (.ref q) (.ow [.str w, .bl k]) := by
            refine ⟨q, [.str w, .bl k], rfl, upd_same, x1.rp.sub.none_of hq, .cons (.str w ?_) (.cons (.bl k) .nil), fun z => ?_, x1.none_of hq⟩
            · exact hlt _ List.mem_cons_self
            · obtain ⟨_, ws, z2⟩ := x1.rp.nOwn z
              rw [hq] at z2
              cases z2
          have x3 := put1 (i := t) x2 hv nt
          have x4 := x3.tr (x3.rp.blankS (io := io) (n := n) none nn)
          have er : ((ρ.set n none).set t (some (.ow [.str w, .bl k]))).set n none = (ρ.set t (some (.ow [.str w, .bl k]))).set n none := by
            rw [List.set_comm _ _ ntn.symm, List.set_set]
          rw [er] at x4
          exact p.nx x4
        · exact p.no
    · rename_i ea
      exact ⟨false, by rw [ec]; exact K0.isA _ _ _ ea, (fun z => nomatch z), fun _ => handle_ok K0 (fun i m => hlt i (List.mem_cons_of_mem _ m)) p c d σ S H e ⟨ec, ed⟩⟩
    · exact p.no
end
end Vi
set_option Elab.async false
set_option linter.all false
set_option maxRecDepth 100000
set_option maxHeartbeats 4000000
/-! Vi, part S: try; a def by its body. -/
namespace Vi
open PySem PySem.Spec PyProof.Rows L2
section
variable {X : Cx} {adr cls : Nat → Addr} {W : WX} {io : List Nat} {C : Ctx} {L : Cls} {body : List Stmt} {ss : Ss} {pos : Pos} {h0 : ExceptHandler} {hds : List ExceptHandler} {hl : List Hd}
theorem s_tri (hs : X.stack = X.env :: X.outer) (hf : X.env.frame = some X.env.locals) (hN : X.N.Nodup) (tk : Takes X W) (K0 : ClsOk X.K cls L) (hi : BName X "isinstance" (.builtin "isinstance"))
    (hb : ∀ (W : WX) (pn : List (Addr × Obj)) (xe : Value → Shared → Prop), Takes (X.tr pn xe) W → PassesOwn (model X.prog X.w) X.A X.env xe → PSs (X.tr pn xe) body (tSs X.K adr cls W io C L ss))
    (hh : HdOk X cls (h0 :: hds) hl) (hw : ∀ i ∈ hl, match i with | .mk _ _ _ w _ _ => PyData.canLay0 (.str w) = true) : PS X (.Try body (h0 :: hds) [] [] pos) (tS X.K adr cls W io C L (.tri ss hl)) :=
  PS.imp (ps_try_manyA (tb := fun W => tSs X.K adr cls W io C L ss) hs hf hN tk hb (hh.a K0 hN hi)) fun D σ H q => by
    obtain ⟨S, ρ, rp, p⟩ := q
    unfold evS at p
    refine ⟨S, ρ, rp, ?_⟩
    cases e : evSs C L io ss ρ with
    | none =>
      rw [e] at p
      exact p
    | some fl =>
      rw [e] at p
      cases fl with
      | ex x ρ1 => exact fun c d σ' S' H' y rx => handle_ok K0 hw p c d σ' S' H' y rx
      | _ => exact p
end
section
variable {K : PySem.W.Frag} {adr cls : Nat → Addr} {S H S' H' : Hp} {ρ ρ' : Env} {σ σ' : L2.St}
/-- the slots at a def's start -/
theorem begin_ok {N : List Str} {vs : List V} {io : Option (List Vi.D)} {ds : List Vi.D} {ia : Option Addr} (l : Le S H) (h : ArgV K adr S H vs ds io ia) (hn : vs.length ≤ N.length) :
    Rep K adr S H (begin_ N.length io ds) (L2.start N vs) ∧ (∀ a, Own (begin_ N.length io ds) (L2.start N vs) a → ia = some a) ∧ (io.isSome = true → ∃ a, ia = some a ∧ (L2.start N vs)[(0 : Nat)]? = some (some (.ref a))) := by
  have tail : ∀ {vs : List V} {ds : List Vi.D} (m : Nat), RVs K adr S vs ds → ∀ (i : Nat) (s : Sl), (ds.map (fun d => some (Sl.sh d)) ++ List.replicate m none)[i]? = some (some s) → ∃ d v, s = .sh d ∧ (vs.map some ++ List.replicate m none)[i]? = some (some v) ∧ RV K adr S v d := by
    intro vs ds m r i s e
    by_cases lt : i < ds.length
    · rw [List.getElem?_append_left (by simpa using lt), List.getElem?_map] at e
      obtain ⟨d, e1, e2⟩ := Option.map_eq_some_iff.mp e
      cases e2
      obtain ⟨v, e3, rv⟩ := r.at e1
      refine ⟨d, v, rfl, ?_, rv⟩
      rw [List.getElem?_append_left (by rw [List.length_map, r.len]; exact lt), List.getElem?_map, e3]
      rfl
    · rw [List.getElem?_append_right (by simpa using lt), List.getElem?_replicate] at e
      split at e
      · cases e
      · cases e
  cases io with
  | none =>
    cases ia with
    | some _ => exact h.elim
    | none =>
      have r : RVs K adr S vs ds := h
      have et : begin_ N.length none ds = ds.map (fun d => some (Sl.sh d)) ++ List.replicate (N.length - vs.length) none := by
        show ds.map (fun d => some (Sl.sh d)) ++ List.replicate (N.length - ds.length) none = _
        rw [r.len]
      have no : ∀ (i : Nat) xs, (begin_ N.length none ds)[i]? ≠ some (some (.ow xs)) := fun i xs e => by
        rw [et] at e
        obtain ⟨d, v, z, _⟩ := tail _ r i _ e
        cases z
      refine ⟨⟨l, ?_, fun i d e => ?_, fun i xs e => absurd e (no i xs), fun i j xs ys a e => absurd e (no i xs)⟩, fun a ⟨i, xs, e, _⟩ => absurd e (no i xs), fun z => by cases z⟩
      · rw [et]
        unfold L2.start
        rw [List.length_append, List.length_append, List.length_map, List.length_map, List.length_replicate, List.length_replicate, r.len]
      · rw [et] at e
        obtain ⟨d', v, z, e2, rv⟩ := tail _ r i _ e
        cases z
        exact ⟨v, e2, rv⟩
  | some xs0 =>
    cases ia with
    | none => exact h.elim
    | some a0 =>
      obtain ⟨ws, us, rfl, h1, h2, h3, r⟩ := h
      have et : begin_ N.length (some xs0) ds = some (.ow xs0) :: (ds.map (fun d => some (Sl.sh d)) ++ List.replicate (N.length - (us.length + 1)) none) := by
        show some (Sl.ow xs0) :: (ds.map (fun d => some (Sl.sh d)) ++ List.replicate (N.length - (ds.length + 1)) none) = _
        rw [r.len]
      have es : L2.start N (.ref a0 :: us) = some (.ref a0) :: (us.map some ++ List.replicate (N.length - (us.length + 1)) none) := rfl
      have own : ∀ (i : Nat) xs, (begin_ N.length (some xs0) ds)[i]? = some (some (.ow xs)) → i = 0 ∧ xs = xs0 := fun i xs e => by
        rw [et] at e
        cases i with
        | zero => exact ⟨rfl, by cases e; rfl⟩
        | succ i =>
          rw [List.getElem?_cons_succ] at e
          obtain ⟨d, v, z, _⟩ := tail _ r i _ e
          cases z
      refine ⟨⟨l, ?_, fun i d e => ?_, fun i xs e => ?_, fun i j xs ys a e1 e2 _ _ => ?_⟩, fun a ⟨i, xs, e, e2⟩ => ?_, fun _ => ⟨a0, rfl, rfl⟩⟩
      · rw [et, es, List.length_cons, List.length_cons, List.length_append, List.length_append, List.length_map, List.length_map, List.length_replicate, List.length_replicate, r.len]
      · rw [et] at e
        cases i with
        | zero => cases e
        | succ i =>
          rw [List.getElem?_cons_succ] at e
          obtain ⟨d', v, z, e2, rv⟩ := tail _ r i _ e
          cases z
          exact ⟨v, by rw [es, List.getElem?_cons_succ]; exact e2, rv⟩
      · obtain ⟨rfl, rfl⟩ := own i xs e
        exact ⟨a0, ws, rfl, h1, h2, h3⟩
      · rw [(own i xs e1).1, (own j ys e2).1]
      · obtain ⟨rfl, rfl⟩ := own i xs e
        rw [es] at e2
        cases e2
        rfl
/-- from the body's end to the call's -/
theorem end_ok {b : Bool} {ia : Option Addr} {out : Option (List Vi.D)} (h0 : ∀ a, Own ρ σ a → ia = some a) (hb : b = ia.isSome) (h1 : b = true → ∃ a, ia = some a ∧ σ[(0 : Nat)]? = some (some (.ref a))) (x : ExS K adr (ioIx b) S H ρ σ S' H' ρ' σ') (e : outOf b ρ' = some out) :
    CE K adr S H ia S' H' out ∧ ∀ i xs a, (b && i == 0) = false → ρ'[i]? = some (some (.ow xs)) → σ'[i]? = some (some (.ref a)) → H a = none := by
  cases b with
  | false =>
    cases e
    have z : ia = none := by
      cases ia with
      | none => rfl
      | some _ => cases hb
    subst z
    have no : ∀ a, ¬ Own ρ σ a := fun a o => by cases h0 a o
    refine ⟨⟨x.s, x.rp.sub, fun a o e _ => x.kp a o e (no a), x.th, fun a o e => ?_, trivial⟩, fun i xs a _ e1 e2 => ?_⟩
    · rcases x.fr a o e with y | y | y
      · exact .inl y
      · exact .inr y
      · exact absurd y (no a)
    · rcases x.ow a ⟨i, xs, e1, e2⟩ with y | y
      · exact absurd y (no a)
      · exact y
  | true =>
    obtain ⟨a0, rfl, e0⟩ := h1 rfl
    have e' : (match ρ'[(0 : Nat)]? with
      | some (some (.ow xs)) => some (some xs)
      | _ => none) = some out := e
    split at e'
    · rename_i xs exs
      cases e'
      obtain ⟨a, ws, g1, g2, g3, g4⟩ := x.rp.ow 0 xs exs
      have : σ'[(0 : Nat)]? = σ[(0 : Nat)]? := x.io 0 (by simp [ioIx])
      rw [this, e0] at g1
      cases g1
      refine ⟨⟨x.s, x.rp.sub, fun a o e n => x.kp a o e fun z => n (h0 a z), x.th, fun a o e => ?_, ⟨ws, g2, g3, g4⟩⟩, fun i ys a ni e1 e2 => ?_⟩
      · rcases x.fr a o e with y | y | y
        · exact .inl y
        · exact .inr y
        · have := h0 a y
          cases this
          rw [g3] at e
          cases e
      · rcases x.ow a ⟨i, ys, e1, e2⟩ with y | y
        · have := h0 a y
          cases this
          have := x.rp.dj i 0 ys xs a0 e1 exs e2 (by rw [x.io 0 (by simp [ioIx])]; exact e0)
          subst this
          cases ni
        · exact y
    · cases e'
end
/-- what a call promises, from the body's reading -/
theorem post_fin {K : PySem.W.Frag} {adr cls : Nat → Addr} {S H : Hp} {ρ : Env} {σ : L2.St} {b : Bool} {ia : Option Addr} {Q : VK} {G : XK} {o : Option Fl} (h0 : ∀ a, Own ρ σ a → ia = some a) (hb : b = ia.isSome) (h1 : b = true → ∃ a, ia = some a ∧ σ[(0 : Nat)]? = some (some (.ref a)))
    (p : PostC K adr cls (match o with
      | some fl => fin b fl
      | none => none) S H ia Q G) : PostS K adr cls (fun c d _ H => G c d H) (ioIx b) o S H ρ σ { nx := fun _ H' => Q .non H', rt := Q } := by
  have key : ∀ {ρ'} {f : Option (List Vi.D) → CRes}, PostC K adr cls ((outOf b ρ').map f) S H ia Q G → ∃ out, outOf b ρ' = some out ∧ PostC K adr cls (some (f out)) S H ia Q G := fun {ρ' f} p => by
    cases e : outOf b ρ' with
    | none =>
      rw [e] at p
      exact p.elim
    | some out =>
      rw [e] at p
      exact ⟨out, rfl, p⟩
  cases o with
  | none => exact p
  | some fl =>
    cases fl with
    | bk _ => exact False.elim p
    | ct _ => exact False.elim p
    | nx ρ' =>
      obtain ⟨out, e, p⟩ := key (f := .ok (.v .non)) p
      intro σ' S' H' x
      exact p .non S' H' (end_ok h0 hb h1 x e).1 .non
    | ex y ρ' =>
      obtain ⟨out, e, p⟩ := key (f := .ex y) p
      intro c d σ' S' H' x rx
      exact p c d S' H' (end_ok h0 hb h1 x e).1 rx
    | rt r ρ' =>
      cases r with
      | v d =>
        obtain ⟨out, e, p⟩ := key (f := .ok (.v d)) p
        intro v σ' S' H' x rr
        exact p v S' H' (end_ok h0 hb h1 x e).1 rr
      | nw xs =>
        obtain ⟨out, e, p⟩ := key (f := .ok (.nw xs)) p
        intro v σ' S' H' x rr
        obtain ⟨a, ws, e1, g1, g2, g3, _, g5⟩ := rr
        exact p v S' H' (end_ok h0 hb h1 x e).1 ⟨a, ws, e1, g1, g2, g3, g5⟩
      | sl i =>
        have p' : PostC K adr cls (if (b && i == 0) = true then none else (match ρ'[i]? with
          | some (some (.ow xs)) => (outOf b ρ').map (.ok (.nw xs))
          | some (some (.sh d)) => (outOf b ρ').map (.ok (.v d))
          | _ => none)) S H ia Q G := p
        cases hz : (b && i == 0) with
        | true =>
          rw [if_pos hz] at p'
          exact p'.elim
        | false =>
          rw [if_neg (by rw [hz]; exact Bool.false_ne_true)] at p'
          intro v σ' S' H' x rr
          obtain ⟨ev, _⟩ := rr
          split at p'
          · rename_i xs e3
            obtain ⟨out, e, p⟩ := key (f := .ok (.nw xs)) p'
            obtain ⟨c1, c2⟩ := end_ok h0 hb h1 x e
            obtain ⟨a, ws, e4, g1, g2, g3⟩ := x.rp.ow i xs e3
            rw [ev] at e4
            cases e4
            exact p _ S' H' c1 ⟨a, ws, rfl, g1, g2, g3, c2 i xs a hz e3 ev⟩
          · rename_i d e3
            obtain ⟨out, e, p⟩ := key (f := .ok (.v d)) p'
            obtain ⟨v', e4, rv⟩ := x.rp.sh i d e3
            rw [ev] at e4
            cases e4
            exact p _ S' H' (end_ok h0 hb h1 x e).1 rv
          · exact p'.elim
/-- a def of the table, one depth on -/
theorem fn_ok {P : Program} {w : World} {K : PySem.W.Frag} {mg : Str → Option Value} {base : Heap} {adr cls : Nat → Addr} {defs : Nat → Option Def} {L : Cls} {n f : Nat} {df : Def} {x qual : Str} {params : Arguments} {body : List Stmt} {scope : Scope} {N ps : List Str} {fd : FuncData}
    (hd : defs f = some df) (F : FunD K x qual params body scope [] [] (adr f) fd) (Sc : FnScope N ps scope) (hnp : df.np = ps.length) (hn : df.n = N.length)
    (hbody : ∀ (cdv : Value) (A : Around) (outer : List PySem.Env) (s : Shared) (H : Hp) (G : XK), Room n (A.deeper (envOfC qual scope s.heap.objs.size (adr f) cdv)) →
      PSs (cxOf (L2.CX P w) P w K mg base N qual scope (adr f) cdv A outer s H G) body (tSs K adr cls (fun c d _ H => G c d H) (ioIx df.io) ⟨defs, Vi.call defs L n⟩ L df.body)) :
    FnOk P w K mg base (L2.CX P w) (n + 1) (adr f) fd ps (spF K adr cls (Vi.call defs L (n + 1)) df.np f) := by
  refine F.ok Sc (fun vs H Q E h => by rw [h.1, hnp]) fun cdv A outer s H vs Q G hr h => ?_
  refine ⟨_, hbody cdv A outer s H G hr, ?_⟩
  obtain ⟨hlen, S, io, ds, ia, l, av, p⟩ := h
  have hpl : ps.length ≤ N.length := by
    have := congrArg List.length Sc.pre
    rw [List.length_take] at this
    omega
  have p' : PostC K adr cls (if (df.io == io.isSome && df.np == ds.length + (if df.io then 1 else 0)) = true then
      (match evSs ⟨defs, Vi.call defs L n⟩ L (ioIx df.io) df.body (begin_ df.n io ds) with
      | some fl => fin df.io fl
      | none => none) else none) S H ia Q G := by
    have e : Vi.call defs L (n + 1) f io ds = (if (df.io == io.isSome && df.np == ds.length + (if df.io then 1 else 0)) = true then
      (match evSs ⟨defs, Vi.call defs L n⟩ L (ioIx df.io) df.body (begin_ df.n io ds) with
      | some fl => fin df.io fl
      | none => none) else none) := by
      first
        | (rw [Vi.call, hd]; done)
        | (rw [Vi.call, hd]; rfl)
    rw [← e]
    exact p
  by_cases hc : (df.io == io.isSome && df.np == ds.length + (if df.io then 1 else 0)) = true
  · rw [if_pos hc] at p'
    rw [Bool.and_eq_true] at hc
    have hio : df.io = io.isSome := eq_of_beq hc.1
    obtain ⟨rp, h0, h1⟩ := begin_ok (N := N) l av (by rw [hlen, hnp]; exact hpl)
    rw [hn] at p'
    refine ⟨S, begin_ N.length io ds, rp, post_fin h0 ?_ (fun z => h1 (by rw [← hio]; exact z)) p'⟩
    rw [hio]
    cases io with
    | none => cases ia with
      | none => rfl
      | some _ => exact av.elim
    | some _ => cases ia with
      | none => exact av.elim
      | some _ => rfl
  · rw [if_neg hc] at p'
    exact p'.elim
/-- at depth 0 nothing is promised -/
theorem fn_zero {P : Program} {w : World} {K : PySem.W.Frag} {mg : Str → Option Value} {base : Heap} {adr cls : Nat → Addr} {defs : Nat → Option Def} {L : Cls} {f : Nat} {df : Def} {ps : List Str} {fd : FuncData} (hnp : df.np = ps.length) :
    FnOk P w K mg base (L2.CX P w) 0 (adr f) fd ps (spF K adr cls (Vi.call defs L 0) df.np f) :=
  ⟨fun vs H Q E h => by rw [h.1, hnp], fun A outer s H args us vs Q E _ _ _ _ h => by
    obtain ⟨_, S, io, ds, ia, _, _, p⟩ := h
    exact p.elim⟩
theorem call_np {defs : Nat → Option Def} {L : Cls} : ∀ (n f : Nat) (df : Def) (io : Option (List Vi.D)) (ds : List Vi.D) (c : CRes), defs f = some df → Vi.call defs L n f io ds = some c → df.np = ds.length + (if io.isSome then 1 else 0)
  | 0, _, _, _, _, _, _, e => by cases e
  | n + 1, f, df, io, ds, c, hd, e => by
    rw [Vi.call, hd] at e
    simp only at e
    by_cases hc : (df.io == io.isSome && df.np == ds.length + (if df.io then 1 else 0)) = true
    · rw [Bool.and_eq_true] at hc
      have h1 := eq_of_beq hc.1
      have h2 := eq_of_beq hc.2
      rw [h2, h1]
    · rw [if_neg hc] at e
      cases e
end Vi
set_option Elab.async false
set_option linter.all false
set_option maxRecDepth 100000
set_option maxHeartbeats 4000000
/-! Vi, part T: sets of ints. -/
namespace Vi
open PySem PySem.Spec PyProof.Rows L2
theorem insU_mem {k j : Int} : ∀ {l : List Int}, j ∈ insU k l ↔ j = k ∨ j ∈ l
  | [] => by simp [insU]
  | x :: r => by
    unfold insU
    by_cases h1 : k < x
    · rw [if_pos h1, List.mem_cons]
    · rw [if_neg h1]
      by_cases h2 : x < k
      · rw [if_pos h2, List.mem_cons, insU_mem (l := r), List.mem_cons]
        constructor
        · rintro (h | h | h)
          · exact .inr (.inl h)
          · exact .inl h
          · exact .inr (.inr h)
        · rintro (h | h | h)
          · exact .inr (.inl h)
          · exact .inl h
          · exact .inr (.inr h)
      · rw [if_neg h2, List.mem_cons]
        have e : x = k := by omega
        constructor
        · exact .inr
        · rintro (h | h)
          · exact .inl (by omega)
          · exact h
theorem insU_rise {k : Int} : ∀ {l : List Int}, l.Pairwise (· < ·) → (insU k l).Pairwise (· < ·)
  | [], _ => List.pairwise_singleton _ _
  | x :: r, h => by
    obtain ⟨h1, h2⟩ := List.pairwise_cons.mp h
    unfold insU
    by_cases c1 : k < x
    · rw [if_pos c1]
      refine List.pairwise_cons.mpr ⟨fun y hy => ?_, h⟩
      rcases List.mem_cons.mp hy with e | hy
      · omega
      · have := h1 y hy
        omega
    · rw [if_neg c1]
      by_cases c2 : x < k
      · rw [if_pos c2]
        refine List.pairwise_cons.mpr ⟨fun y hy => ?_, insU_rise h2⟩
        rcases insU_mem.mp hy with e | hy
        · omega
        · exact h1 y hy
      · rw [if_neg c2]
        exact h
theorem sortU_mem {j : Int} : ∀ {l : List Int}, j ∈ sortU l ↔ j ∈ l
  | [] => by simp [sortU]
  | k :: r => by
    unfold sortU
    rw [insU_mem, sortU_mem (l := r), List.mem_cons]
theorem sortU_rise : ∀ {l : List Int}, (sortU l).Pairwise (· < ·)
  | [] => List.Pairwise.nil
  | k :: r => insU_rise sortU_rise
/-- two rising lists of the same numbers are one -/
theorem rise_eq : ∀ {l m : List Int}, l.Pairwise (· < ·) → m.Pairwise (· < ·) → (∀ k, k ∈ l ↔ k ∈ m) → l = m
  | [], [], _, _, _ => rfl
  | [], y :: m, _, _, h => absurd ((h y).mpr List.mem_cons_self) (by simp)
  | x :: l, [], _, _, h => absurd ((h x).mp List.mem_cons_self) (by simp)
  | x :: l, y :: m, hl, hm, h => by
    obtain ⟨l1, l2⟩ := List.pairwise_cons.mp hl
    obtain ⟨m1, m2⟩ := List.pairwise_cons.mp hm
    have e : x = y := by
      rcases List.mem_cons.mp ((h x).mp List.mem_cons_self) with e | hx
      · exact e
      · rcases List.mem_cons.mp ((h y).mpr List.mem_cons_self) with e | hy
        · exact e.symm
        · have := m1 x hx
          have := l1 y hy
          omega
    subst e
    have := rise_eq l2 m2 fun k => by
      have hk := h k
      constructor
      · intro hm'
        rcases List.mem_cons.mp (hk.mp (List.mem_cons_of_mem _ hm')) with e | z
        · have := l1 k hm'
          omega
        · exact z
      · intro hm'
        rcases List.mem_cons.mp (hk.mpr (List.mem_cons_of_mem _ hm')) with e | z
        · have := m1 k hm'
          omega
        · exact z
    rw [this]
section
variable {X : Cx} {adr cls : Nat → Addr} {W : WX} {C : Ctx} {a : Expr} {ea : E} {pos p2 : Pos}
theorem set_args {p : Pr} {σ : L2.St} {H : Hp} {Q : VK} (hp : p = .sortedSet ∨ p = .lenSet) (q : tE X.K adr cls W C (.prim p (.cons ea .nil)) σ H Q) :
    tE X.K adr cls W C ea σ H fun v H' => ∃ S l is, v = .ref l ∧ SqT X.K H' l (is.map V.int) ∧ is.length < 64 ∧ Le S H' ∧ FinR X.K adr S H' (if p = .sortedSet then .nw ((sortU is).map .int) else .v (.int (sortU is).length)) Q := by
  obtain ⟨S, ρ, rp, p0⟩ := q
  unfold evE at p0
  have e : evEs C (.cons ea .nil) ρ = bnd (evE C ea ρ) fun r1 ρ1 => some (.ok [r1] ρ1) := by
    simp only [evEs]
    rfl
  rw [e, bnd_assoc] at p0
  refine ⟨S, ρ, rp, p0.first fun r S1 H1 ρ1 x1 p1 v h => ?_⟩
  obtain ⟨ds, e1, p2⟩ := peeks_some p1
  obtain ⟨rr, e2, p3⟩ := liftR_some p2
  have e3 : (match pk ρ1 r with
    | some d => some [d]
    | none => none) = some ds := e1
  split at e3
  · rename_i d e4
    cases e3
    have hv := h.pk x1.rp e4
    have key : ∃ xs is, d = .tup xs ∧ dInts xs = some is ∧ is.length < 64 ∧ rr = (if p = .sortedSet then .nw ((sortU is).map .int) else .v (.int (sortU is).length)) := by
      rcases hp with rfl | rfl
      · cases d with
        | tup xs =>
          have e5 : (match dInts xs with
            | some is => if Nat.blt is.length 64 then some (R.nw ((sortU is).map .int)) else none
            | none => none) = some rr := e2
          split at e5
          · obtain ⟨c, rfl⟩ := ifSome e5
            exact ⟨xs, _, rfl, by assumption, Nat.ble_eq.mp c, rfl⟩
          · cases e5
        | _ => cases (show (none : Option R) = some rr from e2)
      · cases d with
        | tup xs =>
          have e5 : (match dInts xs with
            | some is => if Nat.blt is.length 64 then some (R.v (.int (sortU is).length)) else none
            | none => none) = some rr := e2
          split at e5
          · obtain ⟨c, rfl⟩ := ifSome e5
            exact ⟨xs, _, rfl, by assumption, Nat.ble_eq.mp c, rfl⟩
          · cases e5
        | _ => cases (show (none : Option R) = some rr from e2)
    obtain ⟨xs, is, rfl, e6, hz, rfl⟩ := key
    obtain ⟨t, vs, rfl, ht, rv⟩ := hv.tup x1.rp.sub
    have ev := rv.intsOf e6
    subst ev
    exact ⟨S1, t, is, rfl, ht, hz, x1.rp.sub, p3.fin x1⟩
  · cases e3
theorem e_lenSet {pl ps pos2 : Pos} (hc : X.calm = true) (hl : BName X "len" (.builtin "len")) (hs : BName X "set" (.type "set")) (ha : PE X a (tE X.K adr cls W C ea)) (na : starEach [a] X.env = (false, eval a X.env) :: starEach [] X.env)
    (nb : starEach [.Call (.Name "set" ps) [a] [] pos2] X.env = (false, eval (.Call (.Name "set" ps) [a] [] pos2) X.env) :: starEach [] X.env) :
    PE X (.Call (.Name "len" pl) [.Call (.Name "set" ps) [a] [] pos2] [] pos) (tE X.K adr cls W C (.prim .lenSet (.cons ea .nil))) := by
  obtain ⟨l1, l2, l3, l4, l5⟩ := hl
  obtain ⟨s1, s2, s3, s4, s5⟩ := hs
  refine ⟨fun pins s σ H Q I h => ?_⟩
  refine Call_ (ld_blt I l1 l2 l3 ?_ l4 l5)
  refine PyProof.Rows.callWith_builtin1 (PyProof.Rows.args_cons ?_ nb) nb rfl
  refine Call_ (ld_blt I s1 s2 s3 ?_ s4 s5)
  refine PyProof.Rows.callWith_type1 (PyProof.Rows.args_cons (thn (ha.run pins s σ H _ I (set_args (.inr rfl) h)) fun v s1 ⟨x, H1, I1, r1, q1⟩ => PyProof.Rows.args_nil ?_) na) na rfl
  obtain ⟨S, l, is, rfl, hq, hz, le, q⟩ := q1
  cases r1
  obtain ⟨its, r, pl, _⟩ := I1.tuple hq
  have hb : is.length + 1 < scanBound := by
    unfold scanBound
    omega
  refine call_set_tupI is (I1.ok.hd hc) (show s1.heap.IsTuple l its.toArray from pl) (by simpa using r.ints) hb fun h' tk c hS hc' hk => ?_
  refine PyProof.Rows.args_nil ?_
  obtain ⟨o, es, ep, t, ho, hex, hd, _, nd, hm, _, hf, hn, _⟩ := hS
  have I2 : Inv X pins σ H1 { s1 with heap := h', toks := tk } := I1.kept fun b o e => hk b o e
  have hcard : c = (sortU is).length := by
    have pm : (es.toList.map keyOf).Perm (sortU is) := by
      refine (List.perm_ext_iff_of_nodup nd ((sortU_rise (l := is)).imp fun h => Int.ne_of_lt h)).mpr fun k => ?_
      rw [← hm k, sortU_mem]
      simp
    have z := pm.length_eq
    rw [List.length_map, Array.length_toList, hn] at z
    exact z
  refine call_len_set ho hex hd hf (by rw [hn]; omega) ⟨.int (es.size : Nat), H1, I2.tok _, ⟨_, rfl⟩, ?_⟩
  rw [hn, hcard]
  exact q.val (by rw [if_neg (by decide)]) le (.int _)
theorem e_sortedSet {pl ps pos2 : Pos} (hc : X.calm = true) (hl : BName X "sorted" (.builtin "sorted")) (hs : BName X "set" (.type "set")) (ha : PE X a (tE X.K adr cls W C ea)) (na : starEach [a] X.env = (false, eval a X.env) :: starEach [] X.env)
    (nb : starEach [.Call (.Name "set" ps) [a] [] pos2] X.env = (false, eval (.Call (.Name "set" ps) [a] [] pos2) X.env) :: starEach [] X.env) :
    PE X (.Call (.Name "sorted" pl) [.Call (.Name "set" ps) [a] [] pos2] [] pos) (tE X.K adr cls W C (.prim .sortedSet (.cons ea .nil))) := by
  obtain ⟨l1, l2, l3, l4, l5⟩ := hl
  obtain ⟨s1, s2, s3, s4, s5⟩ := hs
  refine ⟨fun pins s σ H Q I h => ?_⟩
  refine Call_ (ld_blt I l1 l2 l3 ?_ l4 l5)
  refine PyProof.Rows.callWith_builtin1 (PyProof.Rows.args_cons ?_ nb) nb rfl
  refine Call_ (ld_blt I s1 s2 s3 ?_ s4 s5)
  refine PyProof.Rows.callWith_type1 (PyProof.Rows.args_cons (thn (ha.run pins s σ H _ I (set_args (.inl rfl) h)) fun v s1 ⟨x, H1, I1, r1, q1⟩ => PyProof.Rows.args_nil ?_) na) na rfl
  obtain ⟨S, l, is, rfl, hq, hz, le, q⟩ := q1
  cases r1
  obtain ⟨its, r, pl, _⟩ := I1.tuple hq
  have hb : is.length + 1 < scanBound := by
    unfold scanBound
    omega
  refine call_set_tupI is (I1.ok.hd hc) (show s1.heap.IsTuple l its.toArray from pl) (by simpa using r.ints) hb fun h' tk c hS hc' hk => ?_
  refine PyProof.Rows.args_nil ?_
  have I2 : Inv X pins σ H1 { s1 with heap := h', toks := tk } := I1.kept fun b o e => hk b o e
  refine sorted_set hS (I2.ok.hd hc) (by omega) fun s' p out c' ns k g o hp hg hi hs hm hl => ?_
  have hlen : (ns.map V.int).length ≤ sizeLine := by rw [List.length_map, hl, sizeLine_eq]; omega
  have hn : H1 p = none := I2.hok.fresh hp
  have J : Inv X pins σ (upd H1 p (.lst (ns.map V.int))) { ({ s1 with heap := h', toks := tk } : Shared) with heap := s'.heap, gens := s'.gens, drawn := s'.drawn, toks := s'.toks } :=
    I2.call (ch := []) (Un.laid k hp hn) (I2.hok.laid k hp ⟨hlen, out.toList, c', vals_of_ints hi, hg⟩) (by rw [g]; exact I2.bare) (fun _ z => nomatch z)
  have e : s' = { ({ s1 with heap := h', toks := tk } : Shared) with heap := s'.heap, gens := s'.gens, drawn := s'.drawn, toks := s'.toks } := by
    cases s'
    cases o
    rfl
  rw [e]
  have ens : ns = sortU is := rise_eq hs sortU_rise fun k => by
    rw [hm k, sortU_mem]
    simp
  refine ⟨.ref p, _, J, rfl, ?_⟩
  rw [ens]
  refine q.newL (ds := (sortU is).map .int) (by rw [if_pos rfl]) le ?_ hn
  exact RVs.ofInts _
end
end Vi
set_option Elab.async false
set_option linter.all false
set_option maxRecDepth 100000
set_option maxHeartbeats 1000000
/-! Vi, part Tb: a text's methods. -/
namespace Vi
open PySem PySem.Spec PyProof.Rows L2
section
variable {X : Cx} {adr cls : Nat → Addr} {W : WX} {C : Ctx} {o e : Expr} {apos pos : Pos}
/-- sep.join(e): what e raises goes on (its value is not followed yet) -/
theorem e_join {a : Str} {ee : E} (ho : PE X o (tE X.K adr cls W C (.lit (.str a)))) (he : PE X e (tE X.K adr cls W C ee)) (hs : starEach [e] X.env = [(false, eval e X.env)]) (hbase : attributeBase o "join" X.env (eval o X.env) = eval o X.env) (hline : (apos.endLine == pos.line) = true) :
    PE X (.Call (.Attribute o "join" apos) [e] [] pos) (tE X.K adr cls W C (.meth .join (.lit (.str a)) (.cons ee .nil))) := PE.imp (pe_join ho he hs hbase hline) fun σ H Q q => by
  obtain ⟨S, ρ, rp, p⟩ := q
  unfold evE at p
  refine ⟨S, ρ, rp, fun S1 H1 x1 v1 h1 => ?_⟩
  have e1 : v1 = .str a := by
    cases (show RV X.K adr S1 v1 (.str a) from h1)
    rfl
  subst e1
  refine ⟨⟨a, rfl⟩, S1, ρ, x1.rp, ?_⟩
  unfold evEs at p
  rw [show evE C (.lit (.str a)) ρ = some (.ok (.v (.str a)) ρ) from rfl] at p
  dsimp only [bnd] at p
  cases h : evE C ee ρ with
  | none =>
    rw [h] at p
    exact False.elim p
  | some z =>
    rw [h] at p
    cases z with
    | ex x ρ' => exact fun c d S' H' g => p c d S' H' (x1.tr g)
    | ok r ρ' =>
      refine False.elim ?_
      unfold evEs at p
      replace p := peek_some (show Post X.K adr cls W (peek ρ' (.v (.str a)) fun d => peeks ρ' [r] fun ds => liftR ρ' (evMe .join d ds)) S H ρ σ _ from p)
      obtain ⟨d, e, p⟩ := p
      obtain ⟨ds, e2, p⟩ := peeks_some p
      obtain ⟨r, e3, p⟩ := liftR_some p
      cases e
      unfold evMe at e3
      split at e3 <;> first | cases e3 | contradiction
end
end Vi
set_option Elab.async false
set_option linter.all false
set_option maxRecDepth 100000
set_option maxHeartbeats 4000000
/-! Vi, part U: the two sides are held against each other: expressions. -/
namespace Vi
open PySem PySem.Spec PyProof.Rows L2
structure Info where
  N : List Str
  sc : Scope
  fn : Str → Bool
structure Glob where
  names : List Str
  consts : List (Str × Vi.D)
  clss : List Str
  plain : List Nat
def blNames : List Str := ["len", "abs", "int", "str", "list", "tuple", "range", "sorted", "set", "sum", "any", "all", "min", "max", "isinstance", "zip", "enumerate", "bool", "dict", "ValueError"]
def isStar : Expr → Bool
  | .Starred .. => true
  | _ => false
def noSet : Expr → Bool
  | .Set .. => false
  | _ => true
def noSlice : Expr → Bool
  | .Slice .. => false
  | _ => true
def nmOk (x : Str) : Bool := !(x == ("__debug__" : Str)) && !(x == ("__classdict__" : Str))
def visB (I : Info) (x : Str) : Bool := match I.sc.names.lookup x with
  | some .local => true
  | some .cell => true
  | some .free => true
  | _ => false
def glB (I : Info) (x : Str) : Bool := decide (I.sc.names.lookup x = some .globalImplicit)
/-- a built-in name, as a global of the def -/
def bnB (I : Info) (x : Str) : Bool := glB I x && decide (x ∈ blNames)
def varB (I : Info) (i : Nat) (x : Str) : Bool := decide (I.N[i]? = some x) && visB I x && nmOk x
def opB : Op → Operator → Bool
  | .add, .Add => true
  | .sub, .Sub => true
  | .mul, .Mult => true
  | .fdiv, .FloorDiv => true
  | .mod, .Mod => true
  | .pow, .Pow => true
  | _, _ => false
def opC : Op → CmpOp → Bool
  | .eq, .Eq => true
  | .ne, .NotEq => true
  | .lt, .Lt => true
  | .le, .LtE => true
  | .gt, .Gt => true
  | .ge, .GtE => true
  | .isin, .In => true
  | .notin, .NotIn => true
  | _, _ => false
/-- what a built-in is named, as a function, as a type -/
def prB : Pr → Option (Str × Bool)
  | .len => some ("len", true)
  | .abs => some ("abs", true)
  | .int => some ("int", false)
  | .list => some ("list", false)
  | .tuple => some ("tuple", false)
  | .any => some ("any", true)
  | .all => some ("all", true)
  | .sum => some ("sum", true)
  | .min => some ("min", true)
  | .max => some ("max", true)
  | _ => none
def litB : Vi.D → Const → Bool
  | .non, .none => true
  | .bl b, .bool c => b == c
  | .int i, .int j => i == j
  | .str x, .str y => x == y && PyData.canLay0 (.str x)
  | _, _ => false
def deqB : Vi.D → Vi.D → Bool
  | .int i, .int j => i == j
  | .str x, .str y => x == y && PyData.canLay0 (.str x)
  | _, _ => false
def tyB : Ty → Expr → Bool
  | .int, .Name y _ => y == ("int" : Str)
  | .bool, .Name y _ => y == ("bool" : Str)
  | .str, .Name y _ => y == ("str" : Str)
  | .list, .Name y _ => y == ("list" : Str)
  | .tuple, .Name y _ => y == ("tuple" : Str)
  | .listTuple, .Tuple [.Name y _, .Name z _] _ _ => y == ("list" : Str) && z == ("tuple" : Str)
  | .boolStr, .Tuple [.Name y _, .Name z _] _ _ => y == ("bool" : Str) && z == ("str" : Str)
  | _, _ => false
def tyG (I : Info) : Ty → Bool
  | .int => glB I "int"
  | .bool => glB I "bool"
  | .str => glB I "str"
  | .list => glB I "list"
  | .tuple => glB I "tuple"
  | .listTuple => glB I "list" && glB I "tuple"
  | .boolStr => glB I "bool" && glB I "str"
def ownP (I : Info) (own : List Nat) : List (Str × Nat) := own.map fun i => ((I.N[i]?).getD "", i)
def blkI (I : Info) (scope : Scope) : Info := { I with sc := relS scope I.sc, fn := fun x => scope.names.lookup x == some .cell }
def locB (I : Info) (x : Str) : Bool := match I.sc.names.lookup x with
  | some .local => true
  | some .cell => I.fn x
  | _ => false
/-- a target that is a name -/
def tgN (I : Info) (i : Nat) : Expr → Bool
  | .Name x _ => decide (I.N[i]? = some x) && locB I x
  | _ => false
def tgNs (I : Info) : List Nat → List Expr → Bool
  | [], [] => true
  | i :: is, a :: as => tgN I i a && tgNs I is as
  | _, _ => false
def tgB (I : Info) (is : List Nat) (tp : Bool) (x : Expr) : Bool := match tp, is, x with
  | false, [i], x => tgN I i x
  | true, is, .Tuple es _ _ => tgNs I is es
  | _, _, _ => false
def isTup : Expr → Bool
  | .Tuple .. => true
  | _ => false
def stepB : Int → Expr → Bool
  | i, .Constant (.int j) _ _ => i == j && decide (0 < i)
  | i, .UnaryOp .USub (.Constant (.int j) _ _) _ => i == -1 && j == 1
  | _, _ => false
def loB : Option Nat → Option Expr → Bool
  | none, none => true
  | some k, some (.Constant (.int j) _ _) => j == (k : Int)
  | _, _ => false
def mutB : Mu → Option Str
  | .append => some "append"
  | .extend => some "extend"
  | .pop => some "pop"
def joinB : Me → E → Bool
  | .join, .lit (.str _) => true
  | _, _ => false
mutual
def ckE (G : Glob) : Info → E → Expr → Bool
  | I, .var i, x => match x with
    | .Name y _ => varB I i y
    | _ => false
  | I, .lit d, x => match x with
    | .Constant c _ _ => litB d c
    | _ => false
  | I, .glb y d, x => match x with
    | .Name z _ => z == y && glB I y && !(y == ("__debug__" : Str)) && (match G.consts.find? (fun p => p.1 == y) with
      | some p => deqB d p.2
      | none => false)
    | _ => false
  | I, .fnv f, x => match x with
    | .Name z _ => decide (G.names[f]? = some z) && glB I z && !(z == ("__debug__" : Str))
    | _ => false
  | I, .op o a b, x => match x with
    | .BinOp y op z _ => opB o op && ckE G I a y && ckE G I b z
    | .Compare y [op] [z] _ => opC o op && noSet z && ckE G I a y && ckE G I b z
    | .Subscript y z _ => (match o with
      | .ix => true
      | _ => false) && noSlice z && ckE G I a y && ckE G I b z
    | _ => false
  | I, .neg a, x => match x with
    | .UnaryOp .USub y _ => ckE G I a y
    | _ => false
  | I, .not a, x => match x with
    | .UnaryOp .Not y _ => ckE G I a y
    | _ => false
  | I, .and a b, x => match x with
    | .BoolOp .And (y :: z :: rest) p => ckE G I a y && (match rest with
      | [] => ckE G I b z
      | w :: rest => ckE G I b (.BoolOp .And (z :: w :: rest) p))
    | _ => false
  | I, .or a b, x => match x with
    | .BoolOp .Or (y :: z :: rest) p => ckE G I a y && (match rest with
      | [] => ckE G I b z
      | w :: rest => ckE G I b (.BoolOp .Or (z :: w :: rest) p))
    | _ => false
  | I, .ite c a b, x => match x with
    | .IfExp t y z _ => tOkE c && ckE G I c t && ckE G I a y && ckE G I b z
    | _ => false
  | I, .isN a no, x => match x with
    | .Compare y [op] [.Constant .none _ _] _ => decide (op = (if no then CmpOp.IsNot else CmpOp.Is)) && ckE G I a y
    | _ => false
  | I, .chain o1 o2 a b c, x => match x with
    | .Compare y [op1, op2] [z, w] _ => opC o1 op1 && opC o2 op2 && noSet w && ckE G I a y && ckE G I b z && ckE G I c w
    | _ => false
  | _, .chain3 .., _ => false
  | I, .prim p as, x => match x with
    | .Call (.Name f _) args [] _ => (match p with
      | .listR => f == ("list" : Str) && glB I "list" && glB I "range" && (match args with
        | [.Call (.Name r _) as' [] _] => r == ("range" : Str) && !as'.isEmpty && ckEs G I as as'
        | _ => false)
      | .tupleR => f == ("tuple" : Str) && glB I "tuple" && glB I "range" && (match args with
        | [.Call (.Name r _) as' [] _] => r == ("range" : Str) && !as'.isEmpty && ckEs G I as as'
        | _ => false)
      | .lenSet => f == ("len" : Str) && glB I "len" && glB I "set" && (match args with
        | [.Call (.Name r _) [y] [] _] => r == ("set" : Str) && ckEs G I as [y]
        | _ => false)
      | .sortedSet => f == ("sorted" : Str) && glB I "sorted" && glB I "set" && (match args with
        | [.Call (.Name r _) [y] [] _] => r == ("set" : Str) && ckEs G I as [y]
        | _ => false)
      | p => (match prB p with
        | some (n, _) => f == n && glB I n && !args.isEmpty && ckEs G I as args
        | none => false))
    | _ => false
  | I, .isi a t, x => match x with
    | .Call (.Name f _) [y, ty] [] _ => f == ("isinstance" : Str) && glB I "isinstance" && tyB t ty && tyG I t && !isStar y && ckE G I a y
    | _ => false
  | I, .sli a lo hi, x => match x with
    | .Subscript y (.Slice lo' hi' none _) _ => ckE G I a y && ckEo G I lo lo' && ckEo G I hi hi'
    | _ => false
  | I, .sls a lo st, x => match x with
    | .Subscript y (.Slice lo' none (some st') _) _ => ckE G I a y && loB lo lo' && stepB st st'
    | _ => false
  | I, .tup as, x => match x with
    | .Tuple xs _ _ => ckEs G I as xs
    | _ => false
  | I, .lst as, x => match x with
    | .List xs _ => ckEs G I as xs
    | _ => false
  | I, .lc own tg tp it c elt, x => match x with
    | .ListComp e [⟨tgE, iter, ifs, k⟩] scope _ => decide (k = 0) && blkC I.N I.sc scope (ownP I own) && tg.all (fun i => decide (i ∈ own)) && tgB (blkI I scope) tg tp tgE && noSet iter && ckI G I it iter (isTup tgE) &&
        ckC G (blkI I scope) c ifs && ckE G (blkI I scope) elt e
    | _ => false
  | _, .lc2 .., _ => false
  | I, .call f as, x => match x with
    | .Call (.Name y _) args [] _ => decide (G.names[f]? = some y) && glB I y && !(y == ("__debug__" : Str)) && ckEs G I as args
    | _ => false
  | I, .callv i as, x => match x with
    | .Call (.Name y _) args [] _ => varB I i y && !args.isEmpty && ckEs G I as args
    | _ => false
  | I, .meth m o (.cons e .nil), x => match x with
    | .Call (.Attribute (.Constant c kc pc) name apos) [y] [] pos => joinB m o && (name == ("join" : Str)) && (apos.endLine == pos.line) && !isStar y && ckE G I o (.Constant c kc pc) && ckE G I e y
    | _ => false
  | _, .meth .., _ => false
  | I, .mut m i as, x => match x with
    | .Call (.Attribute (.Name y _) name apos) args [] pos => varB I i y && decide (mutB m = some name) && (apos.endLine == pos.line) && decide (args.length < 20) && ckEs G I as args
    | _ => false
  | _, .never, _ => true
def ckEs (G : Glob) : Info → Es → List Expr → Bool
  | I, .nil, xs => xs.isEmpty
  | I, .cons e r, xs => match xs with
    | x :: xs => !isStar x && ckE G I e x && ckEs G I r xs
    | [] => false
def ckEo (G : Glob) : Info → Eo → Option Expr → Bool
  | _, .no, x => x.isNone
  | I, .so e, x => match x with
    | some y => ckE G I e y
    | none => false
/-- a comprehension's test -/
def ckC (G : Glob) : Info → Eo → List Expr → Bool
  | _, .no, xs => xs.isEmpty
  | I, .so e, xs => match xs with
    | [y] => tOkE e && ckE G I e y
    | _ => false
def ckI (G : Glob) : Info → It → Expr → Bool → Bool
  | I, .ov e, x, _ => ckE G I e x
  | I, .rng as, x, _ => match x with
    | .Call (.Name r _) args [] _ => r == ("range" : Str) && glB I "range" && !args.isEmpty && ckEs G I as args
    | _ => false
  | I, .zip a b, x, t => match x with
    | .Call (.Name r _) [y, z] [] _ => t && r == ("zip" : Str) && glB I "zip" && !isStar y && !isStar z && ckE G I a y && ckE G I b z
    | _ => false
  | I, .enm a, x, t => match x with
    | .Call (.Name r _) [y] [] _ => t && r == ("enumerate" : Str) && glB I "enumerate" && !isStar y && ckE G I a y
    | _ => false
/-- may stand as a test -/
def tOkE : E → Bool
  | .ite .. => false
  | .not a => tOkE a
  | .and a b => tOkE a && tOkE b
  | .or a b => tOkE a && tOkE b
  | _ => true
end
end Vi
set_option Elab.async false
set_option linter.all false
set_option maxRecDepth 100000
set_option maxHeartbeats 1000000
/-! Vi, part V: what is held so keeps to the interpreter: expressions. -/
namespace Vi
open PySem PySem.Spec PyProof.Rows L2
/-- the context is as the check takes it -/
structure Good (X : Cx) (G : Glob) (I : Info) (adr cls : Nat → Addr) (W : WX) (C : Ctx) (k : Nat) : Prop where
  hN : X.N = I.N
  nd : X.N.Nodup
  sc : X.env.scope = I.sc
  fn : ∀ x, I.fn x = true → X.fn x = true
  calm : X.calm = true
  mgf : ∀ f x, G.names[f]? = some x → X.mg x = some (.ref (adr f))
  mgc : ∀ p ∈ G.consts, ∃ u v, X.mg p.1 = some u ∧ RelV v u ∧ (match p.2 with
    | .int i => v = .int i
    | .str s => v = .str s
    | _ => False)
  mgb : ∀ x ∈ blNames, X.mg x = none
  df : ∀ f x, G.names[f]? = some x → ∃ d, C.defs f = some d
  tab : Tab X adr cls C k
  room : Room k X.A
  tk : Takes X W
theorem Tab.blk {X : Cx} {adr cls : Nat → Addr} {C : Ctx} {k : Nat} (T : Tab X adr cls C k) (s : Shared) (H : Hp) (scope : Scope) (cenv : PySem.Env) (fp : List Addr) : Tab (X.blk s H scope cenv fp) adr cls C k := ⟨T.ok, T.np⟩
theorem Good.blk {X : Cx} {G : Glob} {I : Info} {adr cls : Nat → Addr} {W : WX} {C : Ctx} {k : Nat} (g : Good X G I adr cls W C k) (s : Shared) (H : Hp) (scope : Scope) (a : Addr) (cl : List (Str × Addr)) (fp : List Addr) :
    Good (X.blk s H scope (compEnvC scope cl a X.env) fp) G (blkI I scope) adr cls W0 C k where
  hN := g.hN
  nd := g.nd
  sc := by
    show relS scope X.env.scope = relS scope I.sc
    rw [g.sc]
  fn := fun x h => h
  calm := g.calm
  mgf := g.mgf
  mgc := g.mgc
  mgb := g.mgb
  df := g.df
  tab := g.tab.blk s H scope _ fp
  room := g.room
  tk := takes_none5
section
variable {X : Cx} {G : Glob} {I : Info} {adr cls : Nat → Addr} {W : WX} {C : Ctx} {k : Nat} {a : Expr} {as : List Expr}
theorem and2 {a b : Bool} (h : (a && b) = true) : a = true ∧ b = true := (Bool.and_eq_true _ _).mp h
theorem Good.gl (g : Good X G I adr cls W C k) {x : Str} (h : glB I x = true) : Gl X x := by
  have e : I.sc.names.lookup x = some .globalImplicit := of_decide_eq_true h
  show X.env.scope.names.lookup x = _
  rw [g.sc]
  exact e
theorem Good.vis (g : Good X G I adr cls W C k) {x : Str} (h : visB I x = true) : Vis X.env.scope x := by
  rw [g.sc]
  unfold visB at h
  split at h
  · exact .inl (by assumption)
  · exact .inr (.inl (by assumption))
  · exact .inr (.inr (by assumption))
  · cases h
theorem nm2 {x : Str} (h : nmOk x = true) : (x == ("__debug__" : Str)) = false ∧ (x == ("__classdict__" : Str)) = false := by
  unfold nmOk at h
  obtain ⟨a, b⟩ := and2 h
  exact ⟨by simpa using a, by simpa using b⟩
theorem Good.var (g : Good X G I adr cls W C k) {i : Nat} {x : Str} {p : Pos} (h : varB I i x = true) : PE X (.Name x p) (tVar i) := by
  unfold varB at h
  obtain ⟨h, h3⟩ := and2 h
  obtain ⟨h1, h2⟩ := and2 h
  obtain ⟨d1, d2⟩ := nm2 h3
  exact pe_var (by rw [g.hN]; exact of_decide_eq_true h1) (g.vis h2) d1 d2
theorem bl_nm {x : Str} (h : x ∈ blNames) : x ≠ "__name__" ∧ (x == ("__debug__" : Str)) = false := by
  have key : (blNames.all fun x => !(x == ("__name__" : Str)) && !(x == ("__debug__" : Str))) = true := by decide +kernel
  have := List.all_eq_true.mp key x h
  obtain ⟨a, b⟩ := and2 this
  exact ⟨by simpa using a, by simpa using b⟩
theorem Good.bn (g : Good X G I adr cls W C k) {x : Str} {u : Value} (h : glB I x = true) (hm : x ∈ blNames) (hb : bootBuiltins x = some u) : BName X x u :=
  ⟨g.gl h, g.mgb x hm, hb, (bl_nm hm).1, (bl_nm hm).2⟩
theorem star_ok {env : PySem.Env} (h : isStar a = false) : starEach (a :: as) env = (false, eval a env) :: starEach as env := by
  cases a <;> first | rfl | cases h
theorem plain_ok {env : PySem.Env} {pos : Pos} : ∀ {as : List Expr}, as.all (fun a => !isStar a) = true → (backTo pos (starEach as env)).any (·.1) = false
  | [], _ => rfl
  | a :: as, h => by
    rw [List.all_cons] at h
    obtain ⟨h1, h2⟩ := and2 h
    rw [star_ok (by simpa using h1)]
    show (false || (backTo pos (starEach as env)).any (·.1)) = false
    rw [plain_ok h2]
    rfl
theorem plainAll_ok {env : PySem.Env} {pos : Pos} : ∀ {as : List Expr}, as.all (fun a => !isStar a) = true → (backTo pos (starEach as env)).all (fun x => !x.1) = true
  | [], _ => rfl
  | a :: as, h => by
    rw [List.all_cons] at h
    obtain ⟨h1, h2⟩ := and2 h
    rw [star_ok (by simpa using h1)]
    show (true && (backTo pos (starEach as env)).all (fun x => !x.1)) = true
    rw [plainAll_ok h2]
    rfl
theorem nobehindS {op : CmpOp} (h : noSet a = true) : behindInMarks op a = false := by
  cases a <;> first | rfl | cases h
theorem nofold {env : PySem.Env} (h : noSet a = true) : ∀ x, foldedSetIterable a env x = pure x := fun x => by
  cases a <;> first | rfl | cases h
theorem plainIx {b : Expr} (h : noSlice b = true) : PlainIx b := fun o i => by
  cases b <;> first | rfl | cases h
theorem opB_ok {o : Op} {op : Operator} (h : opB o op = true) : OpR X (binaryOp op) (tO X.K adr o) := by
  unfold opB at h
  split at h
  · exact op_addV
  · exact op_subV
  · exact op_mulV
  · exact op_fdivV
  · exact op_modV
  · exact op_powV
  · cases h
theorem opC_ok (hr : Room k X.A) {o : Op} {op : CmpOp} (h : opC o op = true) : OpR X (compareOp op) (tO X.K adr o) ∧ isCmp o := by
  have u1 : X.A.units + 64 < cLine := hr.units
  have u2 : X.A.units + 65 < cLine := by
    have := hr.un
    omega
  unfold opC at h
  split at h
  · exact ⟨op_eqV u1, by simp [isCmp]⟩
  · exact ⟨op_neV u1, by simp [isCmp]⟩
  · exact ⟨op_ltV hr.units0, by simp [isCmp]⟩
  · exact ⟨op_leV, by simp [isCmp]⟩
  · exact ⟨op_gtV, by simp [isCmp]⟩
  · exact ⟨op_geV, by simp [isCmp]⟩
  · exact ⟨op_inV u2 false, by simp [isCmp]⟩
  · exact ⟨op_inV u2 true, by simp [isCmp]⟩
  · cases h
theorem locB_ok (g : Good X G I adr cls W C k) {x : Str} (h : locB I x = true) : Loc X.env.scope x ∧ (X.fn x = true ∨ X.env.scope.names.lookup x = some .local) := by
  rw [g.sc]
  unfold locB at h
  split at h
  · exact ⟨.inl (by assumption), .inr (by assumption)⟩
  · exact ⟨.inr (by assumption), .inl (g.fn x h)⟩
  · cases h
theorem tgN_ok (g : Good X G I adr cls W C k) {i : Nat} (h : tgN I i a = true) : PG X a (gName i) ∧ isStar a = false := by
  unfold tgN at h
  split at h
  · obtain ⟨h1, h2⟩ := and2 h
    obtain ⟨l1, l2⟩ := locB_ok g h2
    exact ⟨pg_name g.nd (by rw [g.hN]; exact of_decide_eq_true h1) l1 l2, rfl⟩
  · cases h
theorem assign_star {env : PySem.Env} {as : List Expr} (h : isStar a = false) : assignEach (a :: as) env = (false, assign a env) :: assignEach as env := by
  cases a <;> first | rfl | cases h
theorem tgNs_ok (g : Good X G I adr cls W C k) : ∀ {is : List Nat} {as : List Expr}, tgNs I is as = true → PGs X as (gNms is) ∧ (assignEach as X.env).length = is.length ∧ (assignEach as X.env).findIdx? (·.1) = none
  | [], [], _ => ⟨pgs_nil, rfl, rfl⟩
  | i :: is, a :: as, h => by
    obtain ⟨h1, h2⟩ := and2 (show (tgN I i a && tgNs I is as) = true from h)
    obtain ⟨p1, s1⟩ := tgN_ok g h1
    obtain ⟨p2, l2, f2⟩ := tgNs_ok g h2
    refine ⟨pgs_cons p1 p2 (by rw [assign_star s1]; rfl), by rw [assign_star s1, List.length_cons, l2]; rfl, ?_⟩
    rw [assign_star s1, List.findIdx?_cons]
    show (if false = true then some 0 else Option.map (· + 1) (List.findIdx? (·.1) (assignEach as X.env))) = none
    rw [if_neg Bool.false_ne_true, f2]
    rfl
  | [], _ :: _, h => by cases h
  | _ :: _, [], h => by cases h
theorem tgB_ok (g : Good X G I adr cls W C k) {is : List Nat} {tp : Bool} (h : tgB I is tp a = true) : PG X a (gTgt X.K is tp) := by
  cases tp with
  | false =>
    match is, h with
    | [i], h => exact (tgN_ok g h).1
    | [], h => cases h
    | _ :: _ :: _, h => cases h
  | true =>
    cases a with
    | Tuple es j p =>
      obtain ⟨p1, l1, f1⟩ := tgNs_ok g (show tgNs I is es = true from h)
      exact pg_tup g.calm p1 l1 f1
    | _ => cases is <;> cases h
/-- what is shown of an expression -/
def SoE (X : Cx) (adr cls : Nat → Addr) (W : WX) (C : Ctx) (e : E) (x : Expr) : Prop :=
  PE X x (tE X.K adr cls W C e) ∧ (tOkE e = true → PT X x (tT X.K adr cls W C e) ∧ ∀ op xs p, x = .BoolOp op xs p → PW X x (tT X.K adr cls W C e))
def SoEs (X : Cx) (adr cls : Nat → Addr) (W : WX) (C : Ctx) (es : Es) (xs : List Expr) : Prop := PA X xs (tEs X.K adr cls W C es) ∧ xs.all (fun a => !isStar a) = true ∧ (xs = [] → es = .nil)
theorem SoE.plain {e : E} {x : Expr} (h : PE X x (tE X.K adr cls W C e)) (ht : ∀ whole, isTrue x X.env whole = (do let v ← whole; standAt x.pos; holding [v] (truthy v))) (hb : ∀ op xs p, x ≠ .BoolOp op xs p) : SoE X adr cls W C e x :=
  ⟨h, fun _ => ⟨t_plain h ht, fun op xs p z => absurd z (hb op xs p)⟩⟩
theorem blkOk_of {N : List Str} {sc scope : Scope} {own : List (Str × Nat)} (h : blkC N sc scope own = true) : BlkOk N sc scope own := blkOk_by h
theorem ownP_snd (I : Info) (own : List Nat) : (ownP I own).map (·.2) = own := by
  unfold ownP
  rw [List.map_map]
  induction own with
  | nil => rfl
  | cons i is ih =>
    rw [List.map_cons, ih]
    rfl
end
end Vi
set_option Elab.async false
set_option linter.all false
set_option maxRecDepth 100000
set_option maxHeartbeats 1000000
/-! Vi, part W: what is held so keeps to the interpreter: expressions, all of them. -/
namespace Vi
open PySem PySem.Spec PyProof.Rows L2
section
variable {X : Cx} {G : Glob} {I : Info} {adr cls : Nat → Addr} {W : WX} {C : Ctx} {k : Nat} {x a b : Expr} {as : List Expr} {ea eb ec : E} {es : Es} {pos p2 : Pos}
theorem beqS {x y : Str} (h : (x == y) = true) : x = y := eq_of_beq h
theorem bl_mem {x : Str} (h : decide (x ∈ blNames) = true) : x ∈ blNames := of_decide_eq_true h
/-! ### single constructs -/
theorem ck_lit {d : Vi.D} (h : ckE G I (.lit d) x = true) : SoE X adr cls W C (.lit d) x := by
  simp only [ckE] at h
  split at h
  · rename_i c j p
    unfold litB at h
    split at h
    · exact .plain (e_lit pe_non fun _ => .non) (fun _ => rfl) (fun _ _ _ z => nomatch z)
    · have e := eq_of_beq h
      subst e
      exact .plain (e_lit pe_bl fun _ => .bl _) (fun _ => rfl) (fun _ _ _ z => nomatch z)
    · have e := eq_of_beq h
      subst e
      exact .plain (e_lit pe_int fun _ => .int _) (fun _ => rfl) (fun _ _ _ z => nomatch z)
    · obtain ⟨h1, h2⟩ := and2 h
      have e := beqS h1
      subst e
      exact .plain (e_lit pe_str fun _ => .str _ h2) (fun _ => rfl) (fun _ _ _ z => nomatch z)
    · cases h
  · cases h
theorem ck_glb (g : Good X G I adr cls W C k) {y : Str} {d : Vi.D} (h : ckE G I (.glb y d) x = true) : SoE X adr cls W C (.glb y d) x := by
  simp only [ckE] at h
  split at h
  · obtain ⟨h, h4⟩ := and2 h
    obtain ⟨h, h3⟩ := and2 h
    obtain ⟨h1, h2⟩ := and2 h
    have e := beqS h1
    subst e
    split at h4
    · rename_i p ef
      have hp := List.mem_of_find?_eq_some ef
      have hn := List.find?_some ef
      have en := beqS hn
      obtain ⟨u, v, m, r, hv⟩ := g.mgc p hp
      rw [en] at m
      refine .plain (e_glb (v := v) (pe_glob (g.gl h2) m r (by simpa using h3)) fun S => ?_) (fun _ => rfl) (fun _ _ _ z => nomatch z)
      cases hd : p.2 with
      | int j =>
        rw [hd] at hv h4
        cases d with
        | int i =>
          have e := eq_of_beq (show (i == j) = true from h4)
          subst e
          have hv' : v = .int i := hv
          subst hv'
          exact .int i
        | _ => cases (show false = true from h4)
      | str s =>
        rw [hd] at hv h4
        cases d with
        | str i =>
          obtain ⟨q1, q2⟩ := and2 (show (i == s && PyData.canLay0 (.str i)) = true from h4)
          have e := beqS q1
          subst e
          have hv' : v = .str i := hv
          subst hv'
          exact .str i q2
        | _ => cases (show false = true from h4)
      | _ =>
        rw [hd] at hv
        exact hv.elim
    · cases h4
  · cases h
theorem ck_fnv (g : Good X G I adr cls W C k) {f : Nat} (h : ckE G I (.fnv f) x = true) : SoE X adr cls W C (.fnv f) x := by
  simp only [ckE] at h
  split at h
  · obtain ⟨h, h3⟩ := and2 h
    obtain ⟨h1, h2⟩ := and2 h
    exact .plain (e_fnv (pe_glob (g.gl h2) (g.mgf f _ (of_decide_eq_true h1)) rfl (by simpa using h3))) (fun _ => rfl) (fun _ _ _ z => nomatch z)
  · cases h
theorem prB_mem {p : Pr} {n : Str} {b : Bool} (h : prB p = some (n, b)) : n ∈ blNames := by
  cases p <;> first
    | (cases h; done)
    | (cases h; exact bl_mem (by decide +kernel))
theorem ck_primB (g : Good X G I adr cls W C k) {p : Pr} {n f : Str} {b : Bool} {pn : Pos} (hp : prB p = some (n, b)) (hn : f = n) (hg : glB I n = true) (hne : as ≠ []) (ha : SoEs X adr cls W C es as) :
    PE X (.Call (.Name f pn) as [] pos) (tE X.K adr cls W C (.prim p es)) := by
  subst hn
  cases as with
  | nil => exact absurd rfl hne
  | cons a as =>
    obtain ⟨pa, al, _⟩ := ha
    rw [List.all_cons] at al
    obtain ⟨s1, s2⟩ := and2 al
    have he := star_ok (env := X.env) (as := as) (show isStar a = false by simpa using s1)
    have hpl := plain_ok (env := X.env) (pos := pos) s2
    have bB : ∀ {id : String}, f ∈ blNames → bootBuiltins f = some (.builtin id) → CallR X (.builtin id) (tP X.K adr p) → PE X (.Call (.Name f pn) (a :: as) [] pos) (tE X.K adr cls W C (.prim p es)) := fun m hb hc => by
      obtain ⟨b1, b2, b3, b4, b5⟩ := g.bn hg m hb
      exact e_primB hc b1 b2 b3 b4 b5 pa he hpl
    have bT : ∀ {id : String}, f ∈ blNames → bootBuiltins f = some (.type id) → CallR X (.type id) (tP X.K adr p) → PE X (.Call (.Name f pn) (a :: as) [] pos) (tE X.K adr cls W C (.prim p es)) := fun m hb hc => by
      obtain ⟨b1, b2, b3, b4, b5⟩ := g.bn hg m hb
      exact e_primT hc b1 b2 b3 b4 b5 pa he hpl
    have m := prB_mem hp
    cases p with
    | len => cases hp; exact bB m (by decide +kernel) p_len
    | abs => cases hp; exact bB m (by decide +kernel) p_abs
    | int => cases hp; exact bT m (by decide +kernel) p_int
    | list => cases hp; exact bT m (by decide +kernel) p_list
    | tuple => cases hp; exact bT m (by decide +kernel) p_tuple
    | any => cases hp; exact bB m (by decide +kernel) (p_any g.calm)
    | all => cases hp; exact bB m (by decide +kernel) (p_all g.calm)
    | sum => cases hp; exact bB m (by decide +kernel) (p_sum g.calm)
    | min => cases hp; exact bB m (by decide +kernel) (p_min g.calm)
    | max => cases hp; exact bB m (by decide +kernel) (p_max g.calm)
    | _ => cases hp
theorem bl_in (n : Str) (h : decide (n ∈ blNames) = true := by decide +kernel) : n ∈ blNames := of_decide_eq_true h
theorem isStarCall {f : Expr} {l : List Expr} {kw : List Keyword} {p : Pos} : isStar (.Call f l kw p) = false := rfl
theorem ck_isi (g : Good X G I adr cls W C k) {t : Ty} {y ty : Expr} {f : Str} {pn : Pos} (hf : f = "isinstance") (hg : glB I "isinstance" = true) (ht : tyB t ty = true) (hG : tyG I t = true) (hs : isStar y = false) (hy : PE X y (tE X.K adr cls W C ea)) :
    PE X (.Call (.Name f pn) [y, ty] [] pos) (tE X.K adr cls W C (.isi ea t)) := by
  subst hf
  have hi : BName X "isinstance" (.builtin "isinstance") := g.bn hg (bl_in _) (by decide +kernel)
  have one : ∀ {n : String} {z : Str} {pz : Pos}, z = Str.ofString n → tyS t = [n] → glB I z = true → z ∈ blNames → bootBuiltins z = some (.type n) → PE X (.Call (.Name "isinstance" pn) [y, .Name z pz] [] pos) (tE X.K adr cls W C (.isi ea t)) := fun ez et hz hm hb =>
    e_isi1 et hi (g.bn hz hm hb) hy (star_ok hs) rfl rfl
  have two : ∀ {n m : String} {z w : Str} {pz pw pt : Pos} {j : Nat}, tyS t = [n, m] → glB I z = true → z ∈ blNames → bootBuiltins z = some (.type n) → glB I w = true → w ∈ blNames → bootBuiltins w = some (.type m) →
      PE X (.Call (.Name "isinstance" pn) [y, .Tuple [.Name z pz, .Name w pw] j pt] [] pos) (tE X.K adr cls W C (.isi ea t)) := fun et hz hm hb hw hm2 hb2 =>
    e_isi2 et hi (g.bn hz hm hb) (g.bn hw hm2 hb2) hy (star_ok hs) rfl rfl rfl rfl
  unfold tyB at ht
  split at ht
  · have e := beqS ht
    subst e
    exact one (n := "int") rfl rfl hG (bl_in _) (by decide +kernel)
  · have e := beqS ht
    subst e
    exact one (n := "bool") rfl rfl hG (bl_in _) (by decide +kernel)
  · have e := beqS ht
    subst e
    exact one (n := "str") rfl rfl hG (bl_in _) (by decide +kernel)
  · have e := beqS ht
    subst e
    exact one (n := "list") rfl rfl hG (bl_in _) (by decide +kernel)
  · have e := beqS ht
    subst e
    exact one (n := "tuple") rfl rfl hG (bl_in _) (by decide +kernel)
  · obtain ⟨h1, h2⟩ := and2 ht
    have e := beqS h1
    have e' := beqS h2
    subst e e'
    obtain ⟨g1, g2⟩ := and2 (show (glB I "list" && glB I "tuple") = true from hG)
    exact two (n := "list") (m := "tuple") rfl g1 (bl_in _) (by decide +kernel) g2 (bl_in _) (by decide +kernel)
  · obtain ⟨h1, h2⟩ := and2 ht
    have e := beqS h1
    have e' := beqS h2
    subst e e'
    obtain ⟨g1, g2⟩ := and2 (show (glB I "bool" && glB I "str") = true from hG)
    exact two (n := "bool") (m := "str") rfl g1 (bl_in _) (by decide +kernel) g2 (bl_in _) (by decide +kernel)
  · cases ht
theorem ck_lo {n : Option Nat} {lo : Option Expr} (h : loB n lo = true) : PO X lo (fun _ H Q => Q (n.map Int.ofNat) H) := by
  unfold loB at h
  split at h
  · exact ⟨fun pins s σ H Q I q => po_none.run pins s σ H Q I q⟩
  · have e := eq_of_beq h
    subst e
    exact po_nat
  · cases h
theorem ck_step {i : Int} {st : Expr} (h : stepB i st = true) : PO X (some st) (fun _ H Q => Q (some i) H) := by
  unfold stepB at h
  split at h
  · obtain ⟨h1, h2⟩ := and2 h
    have e := eq_of_beq h1
    subst e
    exact ⟨fun pins s σ H Q I q => (po_some pe_int).run pins s σ H Q I ⟨_, rfl, q⟩⟩
  · obtain ⟨h1, h2⟩ := and2 h
    have e := eq_of_beq h1
    have e' := eq_of_beq h2
    subst e e'
    exact po_m1
  · cases h
theorem ck_mut (g : Good X G I adr cls W C k) {m : Mu} {i : Nat} {y name : Str} {py apos : Pos} (hv : varB I i y = true) (hm : mutB m = some name) (hl : (apos.endLine == pos.line) = true) (hlen : as.length < 20) (ha : SoEs X adr cls W C es as) :
    PE X (.Call (.Attribute (.Name y py) name apos) as [] pos) (tE X.K adr cls W C (.mut m i es)) := by
  obtain ⟨pa, al, hnil⟩ := ha
  have pv : PE X (.Name y py) (tVar i) := g.var hv
  have fin : ∀ {id : String}, Slot "list" name id → typeOf (.builtin id) = pure (.type "method_descriptor") → MtR X id (tMu X.K adr m) → PE X (.Call (.Attribute (.Name y py) name apos) as [] pos) (tE X.K adr cls W C (.mut m i es)) := fun {id} slot hty hmt => by
    cases as with
    | nil =>
      have e := hnil rfl
      subst e
      exact e_mut0 slot hty hmt pv rfl hl
    | cons a as =>
      rw [List.all_cons] at al
      obtain ⟨s1, s2⟩ := and2 al
      have hs := star_ok (env := X.env) (as := as) (show isStar a = false by simpa using s1)
      refine e_mut slot hty hmt pv pa rfl ?_ hl hs (plain_ok s2)
      have z : ((backTo pos (starEach (a :: as) X.env)).all (fun x => !x.1)) = true := plainAll_ok (by rw [List.all_cons, s1, s2]; rfl)
      have z2 : (backToKw pos (keywordEach [] X.env)).all (fun x => x.1.isSome) = true := rfl
      rw [z, z2]
      have z3 : (a :: as).length + ([] : List Keyword).length + (if ([] : List Keyword).isEmpty then 0 else 1) < 30 := by
        show (a :: as).length + 0 + 0 < 30
        omega
      rw [decide_eq_true z3]
      rfl
  cases m with
  | append =>
    cases hm
    exact fin F.slot_list_append F.type_list_append m_append
  | extend =>
    cases hm
    exact fin F.slot_list_extend F.type_list_extend m_extend
  | pop =>
    cases hm
    exact fin F.slot_list_pop F.type_list_pop m_pop
theorem ck_call (g : Good X G I adr cls W C k) {f : Nat} {y : Str} {py : Pos} (hf : G.names[f]? = some y) (hg : glB I y = true) (hd : (y == ("__debug__" : Str)) = false) (ha : SoEs X adr cls W C es as) :
    PE X (.Call (.Name y py) as [] pos) (tE X.K adr cls W C (.call f es)) := by
  obtain ⟨pa, al, hnil⟩ := ha
  obtain ⟨df, edf⟩ := g.df f y hf
  cases as with
  | nil =>
    have e := hnil rfl
    subst e
    exact e_call0 g.tab g.room g.tk edf (g.gl hg) (g.mgf f y hf) hd
  | cons a as =>
    rw [List.all_cons] at al
    obtain ⟨s1, s2⟩ := and2 al
    exact e_call g.tab g.room g.tk edf (g.gl hg) (g.mgf f y hf) hd pa (star_ok (by simpa using s1)) (plain_ok s2)
theorem ck_callv (g : Good X G I adr cls W C k) {i : Nat} {y : Str} {py : Pos} (hv : varB I i y = true) (hne : as ≠ []) (ha : SoEs X adr cls W C es as) :
    PE X (.Call (.Name y py) as [] pos) (tE X.K adr cls W C (.callv i es)) := by
  obtain ⟨pa, al, hnil⟩ := ha
  cases as with
  | nil => exact absurd rfl hne
  | cons a as =>
    rw [List.all_cons] at al
    obtain ⟨s1, s2⟩ := and2 al
    exact e_callv g.tab g.room g.tk (g.var hv) pa (star_ok (by simpa using s1)) (plain_ok s2)
theorem ne_of_emp {l : List Expr} (h : (!l.isEmpty) = true) : l ≠ [] := fun z => by
  rw [z] at h
  cases h
theorem ck_range (g : Good X G I adr cls W C k) {p : Pr} {f r : Str} {pf pr pos2 : Pos} (hp : (p = .listR ∧ f = "list") ∨ (p = .tupleR ∧ f = "tuple")) (hr : r = "range") (h1 : glB I f = true) (h2 : glB I "range" = true) (hne : as ≠ []) (ha : SoEs X adr cls W C es as) :
    PE X (.Call (.Name f pf) [.Call (.Name r pr) as [] pos2] [] pos) (tE X.K adr cls W C (.prim p es)) := by
  obtain ⟨pa, al, _⟩ := ha
  subst hr
  have hx : BName X "range" (.type "range") := g.bn h2 (bl_in _) (by decide +kernel)
  cases as with
  | nil => exact absurd rfl hne
  | cons a as =>
    rw [List.all_cons] at al
    obtain ⟨s1, s2⟩ := and2 al
    rcases hp with ⟨rfl, rfl⟩ | ⟨rfl, rfl⟩
    · exact e_listR g.calm (g.bn h1 (bl_in _) (by decide +kernel)) hx pa (star_ok (by simpa using s1)) (plain_ok s2) rfl
    · exact e_tupleR g.calm (g.bn h1 (bl_in _) (by decide +kernel)) hx pa (star_ok (by simpa using s1)) (plain_ok s2) rfl
theorem callS {e : E} {f : Expr} {l : List Expr} {kw : List Keyword} (h : PE X (.Call f l kw pos) (tE X.K adr cls W C e)) : SoE X adr cls W C e (.Call f l kw pos) := .plain h (fun _ => rfl) (fun _ _ _ z => nomatch z)
end
section
variable {G : Glob} {adr cls : Nat → Addr} {C : Ctx} {k : Nat}
mutual
theorem ckE_ok : ∀ (e : E) {x : Expr} {X : Cx} {I : Info} {W : WX}, Good X G I adr cls W C k → ckE G I e x = true → SoE X adr cls W C e x
  | .var i, x, X, I, W, g, h => by
    simp only [ckE] at h
    split at h
    · exact .plain (e_var (g.var h)) (fun _ => rfl) (fun _ _ _ z => nomatch z)
    · cases h
  | .lit d, x, X, I, W, g, h => ck_lit h
  | .glb y d, x, X, I, W, g, h => ck_glb g h
  | .fnv f, x, X, I, W, g, h => ck_fnv g h
  | .op o a b, x, X, I, W, g, h => by
    simp only [ckE] at h
    split at h
    · obtain ⟨h, hb⟩ := and2 h
      obtain ⟨h, ha⟩ := and2 h
      exact .plain (e_bin (opB_ok h) (ckE_ok a g ha).1 (ckE_ok b g hb).1) (fun _ => rfl) (fun _ _ _ z => nomatch z)
    · obtain ⟨h, hb⟩ := and2 h
      obtain ⟨h, ha⟩ := and2 h
      obtain ⟨h, hs⟩ := and2 h
      obtain ⟨ho, hc⟩ := opC_ok (X := X) (adr := adr) g.room h
      exact ⟨e_cmp ho (ckE_ok a g ha).1 (ckE_ok b g hb).1 (nobehindS hs), fun _ => ⟨t_cmp hc ho (ckE_ok a g ha).1 (ckE_ok b g hb).1 (nobehindS hs), fun _ _ _ z => nomatch z⟩⟩
    · obtain ⟨h, hb⟩ := and2 h
      obtain ⟨h, ha⟩ := and2 h
      obtain ⟨h, hs⟩ := and2 h
      cases o with
      | ix => exact .plain (e_ix (ckE_ok a g ha).1 (ckE_ok b g hb).1 (plainIx hs)) (fun _ => rfl) (fun _ _ _ z => nomatch z)
      | _ => cases h
    · cases h
  | .neg a, x, X, I, W, g, h => by
    simp only [ckE] at h
    split at h
    · exact .plain (e_neg (ckE_ok a g h).1) (fun _ => rfl) (fun _ _ _ z => nomatch z)
    · cases h
  | .not a, x, X, I, W, g, h => by
    simp only [ckE] at h
    split at h
    · obtain ⟨pe, pt⟩ := ckE_ok a g h
      exact ⟨e_not pe, fun t => ⟨t_not (pt (by simpa only [tOkE] using t)).1, fun _ _ _ z => nomatch z⟩⟩
    · cases h
  | .and a b, x, X, I, W, g, h => by
    simp only [ckE] at h
    split at h
    · rename_i y z rest p
      obtain ⟨ha, hb⟩ := and2 h
      obtain ⟨pa, ta⟩ := ckE_ok a g ha
      have tb : tOkE (.and a b) = true → tOkE a = true ∧ tOkE b = true := fun t => and2 (by simpa only [tOkE] using t)
      cases rest with
      | nil =>
        obtain ⟨pb, tb'⟩ := ckE_ok b g hb
        have w := fun t => w_and (pos := p) (ta (tb t).1).1 (pw_and1 (pos := p) (tb' (tb t).2).1)
        exact ⟨e_and pa (pe_one pb), fun t => ⟨(w t).pt, fun op xs q e => by cases e; exact w t⟩⟩
      | cons w rest =>
        obtain ⟨pb, tb'⟩ := ckE_ok b g hb
        have w' := fun t => w_and (pos := p) (ta (tb t).1).1 ((tb' (tb t).2).2 _ _ _ rfl)
        exact ⟨e_and pa pb, fun t => ⟨(w' t).pt, fun op xs q e => by cases e; exact w' t⟩⟩
    · cases h
  | .or a b, x, X, I, W, g, h => by
    simp only [ckE] at h
    split at h
    · rename_i y z rest p
      obtain ⟨ha, hb⟩ := and2 h
      obtain ⟨pa, ta⟩ := ckE_ok a g ha
      have tb : tOkE (.or a b) = true → tOkE a = true ∧ tOkE b = true := fun t => and2 (by simpa only [tOkE] using t)
      cases rest with
      | nil =>
        obtain ⟨pb, tb'⟩ := ckE_ok b g hb
        have w := fun t => w_or (pos := p) (ta (tb t).1).1 (pw_or1 (pos := p) (tb' (tb t).2).1)
        exact ⟨e_or pa (pe_one pb), fun t => ⟨(w t).pt, fun op xs q e => by cases e; exact w t⟩⟩
      | cons w rest =>
        obtain ⟨pb, tb'⟩ := ckE_ok b g hb
        have w' := fun t => w_or (pos := p) (ta (tb t).1).1 ((tb' (tb t).2).2 _ _ _ rfl)
        exact ⟨e_or pa pb, fun t => ⟨(w' t).pt, fun op xs q e => by cases e; exact w' t⟩⟩
    · cases h
  | .ite c a b, x, X, I, W, g, h => by
    simp only [ckE] at h
    split at h
    · obtain ⟨h, hb⟩ := and2 h
      obtain ⟨h, ha⟩ := and2 h
      obtain ⟨ht, hc⟩ := and2 h
      exact ⟨e_ite ((ckE_ok c g hc).2 ht).1 (ckE_ok a g ha).1 (ckE_ok b g hb).1, fun t => by cases (show false = true by simpa only [tOkE] using t)⟩
    · cases h
  | .isN a no, x, X, I, W, g, h => by
    simp only [ckE] at h
    split at h
    · obtain ⟨ho, ha⟩ := and2 h
      have e := of_decide_eq_true ho
      subst e
      exact ⟨e_isN (ckE_ok a g ha).1, fun _ => ⟨t_isN (ckE_ok a g ha).1, fun _ _ _ z => nomatch z⟩⟩
    · cases h
  | .chain o1 o2 a b c, x, X, I, W, g, h => by
    simp only [ckE] at h
    split at h
    · obtain ⟨h, hc⟩ := and2 h
      obtain ⟨h, hb⟩ := and2 h
      obtain ⟨h, ha⟩ := and2 h
      obtain ⟨h, hs⟩ := and2 h
      obtain ⟨h1, h2⟩ := and2 h
      obtain ⟨k1, _⟩ := opC_ok (X := X) (adr := adr) g.room h1
      obtain ⟨k2, c2⟩ := opC_ok (X := X) (adr := adr) g.room h2
      exact ⟨e_chain k1 k2 (ckE_ok a g ha).1 (ckE_ok b g hb).1 (ckE_ok c g hc).1 (nobehindS hs), fun _ => ⟨t_chain c2 k1 k2 (ckE_ok a g ha).1 (ckE_ok b g hb).1 (ckE_ok c g hc).1 (nobehindS hs), fun _ _ _ z => nomatch z⟩⟩
    · cases h
  | .chain3 .., x, X, I, W, g, h => by
    simp only [ckE] at h
    cases h
  | .prim p as, x, X, I, W, g, h => by
    simp only [ckE] at h
    split at h
    · rename_i f pn args ps
      split at h
      · obtain ⟨h, ha⟩ := and2 h
        obtain ⟨h, h2⟩ := and2 h
        obtain ⟨h0, h1⟩ := and2 h
        split at ha
        · obtain ⟨ha, hs⟩ := and2 ha
          obtain ⟨hr, hne⟩ := and2 ha
          have e := beqS h0
          subst e
          exact callS (ck_range g (.inl ⟨rfl, rfl⟩) (beqS hr) h1 h2 (ne_of_emp hne) (ckEs_ok as g hs))
        · cases ha
      · obtain ⟨h, ha⟩ := and2 h
        obtain ⟨h, h2⟩ := and2 h
        obtain ⟨h0, h1⟩ := and2 h
        split at ha
        · obtain ⟨ha, hs⟩ := and2 ha
          obtain ⟨hr, hne⟩ := and2 ha
          have e := beqS h0
          subst e
          exact callS (ck_range g (.inr ⟨rfl, rfl⟩) (beqS hr) h1 h2 (ne_of_emp hne) (ckEs_ok as g hs))
        · cases ha
      · obtain ⟨h, ha⟩ := and2 h
        obtain ⟨h, h2⟩ := and2 h
        obtain ⟨h0, h1⟩ := and2 h
        split at ha
        · obtain ⟨hr, hs⟩ := and2 ha
          have e := beqS h0
          subst e
          have e2 := beqS hr
          subst e2
          cases as with
          | nil =>
            simp only [ckEs] at hs
            cases hs
          | cons ea rest =>
            simp only [ckEs] at hs
            obtain ⟨hs, hr2⟩ := and2 hs
            obtain ⟨hs1, hs2⟩ := and2 hs
            cases rest with
            | nil => exact callS (e_lenSet g.calm (g.bn h1 (bl_in _) (by decide +kernel)) (g.bn h2 (bl_in _) (by decide +kernel)) (ckE_ok ea g hs2).1 (star_ok (by simpa using hs1)) rfl)
            | cons _ _ =>
              simp only [ckEs] at hr2
              cases hr2
        · cases ha
      · obtain ⟨h, ha⟩ := and2 h
        obtain ⟨h, h2⟩ := and2 h
        obtain ⟨h0, h1⟩ := and2 h
        split at ha
        · obtain ⟨hr, hs⟩ := and2 ha
          have e := beqS h0
          subst e
          have e2 := beqS hr
          subst e2
          cases as with
          | nil =>
            simp only [ckEs] at hs
            cases hs
          | cons ea rest =>
            simp only [ckEs] at hs
            obtain ⟨hs, hr2⟩ := and2 hs
            obtain ⟨hs1, hs2⟩ := and2 hs
            cases rest with
            | nil => exact callS (e_sortedSet g.calm (g.bn h1 (bl_in _) (by decide +kernel)) (g.bn h2 (bl_in _) (by decide +kernel)) (ckE_ok ea g hs2).1 (star_ok (by simpa using hs1)) rfl)
            | cons _ _ =>
              simp only [ckEs] at hr2
              cases hr2
        · cases ha
      · split at h
        · rename_i n b ep
          obtain ⟨h, hs⟩ := and2 h
          obtain ⟨h, hne⟩ := and2 h
          obtain ⟨h0, h1⟩ := and2 h
          exact callS (ck_primB g ep (beqS h0) h1 (ne_of_emp hne) (ckEs_ok as g hs))
        · cases h
    · cases h
  | .isi a t, x, X, I, W, g, h => by
    simp only [ckE] at h
    split at h
    · obtain ⟨h, ha⟩ := and2 h
      obtain ⟨h, hs⟩ := and2 h
      obtain ⟨h, hG⟩ := and2 h
      obtain ⟨h, ht⟩ := and2 h
      obtain ⟨h0, h1⟩ := and2 h
      exact callS (ck_isi g (beqS h0) h1 ht hG (by simpa using hs) (ckE_ok a g ha).1)
    · cases h
  | .sli a lo hi, x, X, I, W, g, h => by
    simp only [ckE] at h
    split at h
    · obtain ⟨h, hh⟩ := and2 h
      obtain ⟨ha, hl⟩ := and2 h
      exact .plain (e_sli (ckE_ok a g ha).1 (ckEo_ok lo g hl) (ckEo_ok hi g hh)) (fun _ => rfl) (fun _ _ _ z => nomatch z)
    · cases h
  | .sls a lo st, x, X, I, W, g, h => by
    simp only [ckE] at h
    split at h
    · obtain ⟨h, hh⟩ := and2 h
      obtain ⟨ha, hl⟩ := and2 h
      exact .plain (e_sls (ckE_ok a g ha).1 (ck_lo hl) (ck_step hh)) (fun _ => rfl) (fun _ _ _ z => nomatch z)
    · cases h
  | .tup as, x, X, I, W, g, h => by
    simp only [ckE] at h
    split at h
    · exact .plain (e_tup (ckEs_ok as g h).1) (fun _ => rfl) (fun _ _ _ z => nomatch z)
    · cases h
  | .lst as, x, X, I, W, g, h => by
    simp only [ckE] at h
    split at h
    · exact .plain (e_lst (ckEs_ok as g h).1) (fun _ => rfl) (fun _ _ _ z => nomatch z)
    · cases h
  | .lc own tg tp it c elt, x, X, I, W, g, h => by
    simp only [ckE] at h
    split at h
    · rename_i e tgE iter ifs k0 scope p
      obtain ⟨h, he⟩ := and2 h
      obtain ⟨h, hc⟩ := and2 h
      obtain ⟨h, hi⟩ := and2 h
      obtain ⟨h, hs⟩ := and2 h
      obtain ⟨h, ht⟩ := and2 h
      obtain ⟨h, hto⟩ := and2 h
      obtain ⟨hk, hb⟩ := and2 h
      have ek := of_decide_eq_true hk
      subst ek
      have ok : BlkOk X.N X.env.scope scope (ownP I own) := by
        rw [g.hN, g.sc]
        exact blkOk_by hb
      have hto' : ∀ i ∈ tg, i ∈ (ownP I own).map (·.2) := fun i m => by
        rw [ownP_snd]
        exact of_decide_eq_true (List.all_eq_true.mp hto i m)
      have hiI : PI X tgE iter (tI X.K adr cls W C it) := by
        refine ckI_ok it g hi (fun z => ?_)
        cases tgE <;> first
          | exact ⟨_, _, _, rfl⟩
          | cases z
      have := (e_lc (pos := p) (adr := adr) (cls := cls) (W := W) (C := C) g.calm g.nd hiI ok hto' (fun s H a cl fp => tgB_ok (g.blk s H scope a cl fp) ht) (fun s H a cl fp => ckC_ok c (g.blk s H scope a cl fp) hc) (fun s H a cl fp => (ckE_ok elt (g.blk s H scope a cl fp) he).1) (nofold hs)).2
      rw [ownP_snd] at this
      exact .plain this (fun _ => rfl) (fun _ _ _ z => nomatch z)
    · cases h
  | .lc2 .., x, X, I, W, g, h => by
    simp only [ckE] at h
    cases h
  | .call f as, x, X, I, W, g, h => by
    simp only [ckE] at h
    split at h
    · obtain ⟨h, hs⟩ := and2 h
      obtain ⟨h, hd⟩ := and2 h
      obtain ⟨h0, h1⟩ := and2 h
      exact callS (ck_call g (of_decide_eq_true h0) h1 (by simpa using hd) (ckEs_ok as g hs))
    · cases h
  | .callv i as, x, X, I, W, g, h => by
    simp only [ckE] at h
    split at h
    · obtain ⟨h, hs⟩ := and2 h
      obtain ⟨h0, h1⟩ := and2 h
      exact callS (ck_callv g h0 (ne_of_emp h1) (ckEs_ok as g hs))
    · cases h
  | .meth m o (.cons e .nil), x, X, I, W, g, h => by
    simp only [ckE] at h
    split at h
    · obtain ⟨h, he⟩ := and2 h
      obtain ⟨h, ho⟩ := and2 h
      obtain ⟨h, hs⟩ := and2 h
      obtain ⟨h, hl⟩ := and2 h
      obtain ⟨hj, hn⟩ := and2 h
      have so := (ckE_ok o g ho).1
      have se := (ckE_ok e g he).1
      have en := eq_of_beq hn
      subst en
      unfold joinB at hj
      split at hj
      · exact callS (e_join so se (star_ok (as := []) (by simpa using hs)) rfl hl)
      · cases hj
    · cases h
  | .meth m o .nil, x, X, I, W, g, h => by
    simp only [ckE] at h
    cases h
  | .meth m o (.cons e (.cons e2 r)), x, X, I, W, g, h => by
    simp only [ckE] at h
    cases h
  | .mut m i as, x, X, I, W, g, h => by
    simp only [ckE] at h
    split at h
    · obtain ⟨h, hs⟩ := and2 h
      obtain ⟨h, hlen⟩ := and2 h
      obtain ⟨h, hl⟩ := and2 h
      obtain ⟨h0, h1⟩ := and2 h
      exact callS (ck_mut g h0 (of_decide_eq_true h1) hl (of_decide_eq_true hlen) (ckEs_ok as g hs))
    · cases h
  | .never, x, X, I, W, g, h => ⟨⟨fun pins s σ H Q I q => by
      obtain ⟨S, ρ, rp, p⟩ := q
      exact p.no⟩, fun _ => ⟨⟨fun pins s σ H Q I q => by
      obtain ⟨S, ρ, rp, p⟩ := q
      exact p.no⟩, fun _ _ _ _ => ⟨fun w pins s σ H Q I q => by
      obtain ⟨S, ρ, rp, p⟩ := q
      exact p.no⟩⟩⟩
theorem ckEs_ok : ∀ (es : Es) {xs : List Expr} {X : Cx} {I : Info} {W : WX}, Good X G I adr cls W C k → ckEs G I es xs = true → SoEs X adr cls W C es xs
  | .nil, xs, X, I, W, g, h => by
    simp only [ckEs] at h
    cases xs with
    | nil => exact ⟨es_nil, rfl, fun _ => rfl⟩
    | cons _ _ => cases h
  | .cons e r, xs, X, I, W, g, h => by
    simp only [ckEs] at h
    split at h
    · obtain ⟨h, hr⟩ := and2 h
      obtain ⟨hs, he⟩ := and2 h
      obtain ⟨pr, ar, _⟩ := ckEs_ok r g hr
      exact ⟨es_cons (ckE_ok e g he).1 pr (star_ok (by simpa using hs)), by rw [List.all_cons, hs, ar]; rfl, fun z => nomatch z⟩
    · cases h
theorem ckEo_ok : ∀ (e : Eo) {x : Option Expr} {X : Cx} {I : Info} {W : WX}, Good X G I adr cls W C k → ckEo G I e x = true → PO X x (tEo X.K adr cls W C e)
  | .no, x, X, I, W, g, h => by
    simp only [ckEo] at h
    cases x with
    | none => exact o_no
    | some _ => cases h
  | .so e, x, X, I, W, g, h => by
    simp only [ckEo] at h
    split at h
    · exact o_so (ckE_ok e g h).1
    · cases h
theorem ckC_ok : ∀ (e : Eo) {xs : List Expr} {X : Cx} {I : Info} {W : WX}, Good X G I adr cls W C k → ckC G I e xs = true → PTs X xs (tCn X.K adr cls W C e)
  | .no, xs, X, I, W, g, h => by
    simp only [ckC] at h
    cases xs with
    | nil => exact c_no
    | cons _ _ => cases h
  | .so e, xs, X, I, W, g, h => by
    simp only [ckC] at h
    split at h
    · obtain ⟨h1, h2⟩ := and2 h
      exact c_so ((ckE_ok e g h2).2 h1).1
    · cases h
theorem ckI_ok : ∀ (it : It) {x tgE : Expr} {t : Bool} {X : Cx} {I : Info} {W : WX}, Good X G I adr cls W C k → ckI G I it x t = true → (t = true → ∃ es j p, tgE = .Tuple es j p) → PI X tgE x (tI X.K adr cls W C it)
  | .ov e, x, tgE, t, X, I, W, g, h, ht => by
    simp only [ckI] at h
    exact i_ov (ckE_ok e g h).1
  | .rng as, x, tgE, t, X, I, W, g, h, ht => by
    simp only [ckI] at h
    split at h
    · rename_i r pn args pos
      obtain ⟨h, hs⟩ := and2 h
      obtain ⟨h, hne⟩ := and2 h
      obtain ⟨h0, h1⟩ := and2 h
      have e := beqS h0
      subst e
      obtain ⟨pa, al, _⟩ := ckEs_ok as g hs
      cases args with
      | nil => cases hne
      | cons a args =>
        rw [List.all_cons] at al
        obtain ⟨s1, s2⟩ := and2 al
        exact i_rng (g.bn h1 (bl_in _) (by decide +kernel)) pa (star_ok (by simpa using s1)) (plain_ok s2)
    · cases h
  | .zip a b, x, tgE, t, X, I, W, g, h, ht => by
    simp only [ckI] at h
    split at h
    · obtain ⟨h, hb⟩ := and2 h
      obtain ⟨h, ha⟩ := and2 h
      obtain ⟨h, s2⟩ := and2 h
      obtain ⟨h, s1⟩ := and2 h
      obtain ⟨h, h1⟩ := and2 h
      obtain ⟨h0, hr⟩ := and2 h
      have e := beqS hr
      subst e
      obtain ⟨es, j, p, rfl⟩ := ht h0
      have z2 := star_ok (env := X.env) (as := []) (by simpa using s2)
      exact i_zip (g.bn h1 (bl_in _) (by decide +kernel)) (ckE_ok a g ha).1 (ckE_ok b g hb).1 (star_ok (by simpa using s1)) z2 (by rw [z2]; rfl)
    · cases h
  | .enm a, x, tgE, t, X, I, W, g, h, ht => by
    simp only [ckI] at h
    split at h
    · obtain ⟨h, ha⟩ := and2 h
      obtain ⟨h, s1⟩ := and2 h
      obtain ⟨h, h1⟩ := and2 h
      obtain ⟨h0, hr⟩ := and2 h
      have e := beqS hr
      subst e
      obtain ⟨es, j, p, rfl⟩ := ht h0
      exact i_enm (g.bn h1 (bl_in _) (by decide +kernel)) (ckE_ok a g ha).1 (star_ok (by simpa using s1))
    · cases h
end
end
end Vi
set_option Elab.async false
set_option linter.all false
set_option maxRecDepth 100000
set_option maxHeartbeats 1000000
/-! Vi, part X: the two sides are held against each other: statements. -/
namespace Vi
open PySem PySem.Spec PyProof.Rows L2
/-- whether the stores of a, b = x, y go from the right -/
def swP (sc : Scope) (ts vs : List Expr) : Option (Option (List Str)) :=
  if (!(ts.length == 2 || ts.length == 3) || vs.length != ts.length) = true then some none
  else if (vs.any fun | .Starred .. => true | _ => false) = true then some none
  else
    let names := ts.filterMap fun
      | .Name id pos => if (sc.names.lookup id == some .local && pos.line == (ts.head?.map (·.pos.line)).getD 0) = true then some id else none
      | _ => none
    if (names.length != ts.length || names.eraseDups.length != names.length) = true then some none
    else if vs.all (foldedForSure 8) = true then some none
    else if vs.all (constantsAlone 8) = true then none
    else some (some names)
theorem swP_ok {env : PySem.Env} {ts vs : List Expr} {k1 k2 : Nat} {p1 p2 : Pos} {r : Option (List Str)} (hk : env.scope.kind = .function) (h : swP env.scope ts vs = some r) : swappedStores [.Tuple ts k1 p1] (.Tuple vs k2 p2) env = pure r := by
  have hb : env.blockKind = .function := by unfold Env.blockKind; rw [hk]; rfl
  unfold swappedStores
  simp only [hb]
  have hff : (ScopeKind.function != ScopeKind.function) = false := by decide
  rw [hff, Bool.or_false]
  unfold swP at h
  by_cases c1 : (!(ts.length == 2 || ts.length == 3) || vs.length != ts.length) = true
  · rw [if_pos c1] at h
    rw [if_pos c1]
    cases h
    rfl
  · rw [if_neg c1] at h
    rw [if_neg c1]
    split at h
    · rename_i c2
      cases h
      exact if_pos c2
    · rename_i c2
      refine (if_neg c2).trans ?_
      simp only at h
      split at h
      · rename_i c3
        cases h
        exact if_pos c3
      · rename_i c3
        refine (if_neg c3).trans ?_
        split at h
        · rename_i c4
          cases h
          exact if_pos c4
        · rename_i c4
          refine (if_neg c4).trans ?_
          split at h
          · cases h
          · rename_i c5
            cases h
            exact if_neg c5
def notComp : Expr → Bool
  | .ListComp .. => false
  | .SetComp .. => false
  | .DictComp .. => false
  | _ => true
def notTup : Expr → Bool
  | .Tuple .. => false
  | _ => true
def notTL : Expr → Bool
  | .Tuple .. => false
  | .List .. => false
  | _ => true
/-- a comprehension that is stored while it runs -/
def swL (I : Info) (x : Str) (pl : Nat) : Expr → Bool
  | .ListComp _ _ scope pos => decide (I.sc.names.lookup x = some .local) && pl == pos.line && !(scope.names.any fun (n, k) => n == x && (k == .local || k == .cell))
  | _ => false
def ckTg (G : Glob) (I : Info) : Tg → Expr → Bool
  | .nm i, x => tgN I i x
  | .sub i k, x => match x with
    | .Subscript (.Name y _) kx _ => varB I i y && noSlice kx && ckE G I k kx
    | _ => false
def ckTgs (G : Glob) (I : Info) : List Tg → List Expr → Bool
  | [], [] => true
  | t :: ts, x :: xs => !isStar x && ckTg G I t x && ckTgs G I ts xs
  | _, _ => false
def ckHd (G : Glob) (I : Info) : Hd → ExceptHandler → Bool
  | .mk c n t w ln b, .ExceptHandler (some (.Name cx _)) (some nx) [.Assign [.Name tx _] (.List [.Constant (.str word) _ _, .Call (.Name f _) [.Name n2 _, .Name base _] [] _] _) _] _ =>
    !ln && decide (G.clss[c]? = some cx) && glB I cx && !(cx == ("__debug__" : Str)) && decide (I.N[n]? = some nx) && decide (I.sc.names.lookup nx = some .local) && nmOk nx && decide (I.N[t]? = some tx) && locB I tx &&
      (w == word) && PyData.canLay0 (.str w) && (f == ("isinstance" : Str)) && (n2 == nx) && (base == b) && glB I b && decide (b ∈ blNames)
  | _, _ => false
def ckHds (G : Glob) (I : Info) : List Hd → List ExceptHandler → Bool
  | [], [] => true
  | h :: hs, x :: xs => ckHd G I h x && ckHds G I hs xs
  | _, _ => false
def nodB : List Nat → Bool
  | [] => true
  | i :: is => !(is.contains i) && nodB is
mutual
def ckS (G : Glob) (I : Info) : S → Stmt → Bool
  | .skip, x => match x with
    | .Pass _ => true
    | _ => false
  | .ex e, x => match x with
    | .Expr y _ => notComp y && ckE G I e y
    | _ => false
  | .asg t e, x => match x with
    | .Assign [tg] y _ => (match t with
      | .nm i => (match tg with
        | .Name z pz => decide (I.N[i]? = some z) && locB I z && ckE G I e y && (notComp y || (swL I z pz.line y))
        | _ => false)
      | .sub i k => notComp y && ckTg G I (.sub i k) tg && ckE G I e y)
    | _ => false
  | .unp ts e, x => match x with
    | .Assign [.Tuple xs _ _] y _ => notComp y && ckTgs G I ts xs && ckE G I e y && (match y with
      | .Tuple vs _ _ => decide (swP I.sc xs vs = some none)
      | _ => true)
    | _ => false
  | .par is es, x => match x with
    | .Assign [.Tuple xs _ _] (.Tuple vs _ _) _ => tgNs I is xs && ckEs G I es vs && nodB is && decide (is.length < 100) && (match swP I.sc xs vs with
      | some none => true
      | some (some ns) => (match xs, vs, is with
        | [.Name a _, .Name b _], [_, _], [_, _] => decide (ns = [a, b]) && decide (I.sc.names.lookup a = some .local) && decide (I.sc.names.lookup b = some .local)
        | [.Name a _, .Name b _, .Name c _], [_, _, _], [_, _, _] => decide (ns = [a, b, c]) && decide (I.sc.names.lookup a = some .local) && decide (I.sc.names.lookup b = some .local) && decide (I.sc.names.lookup c = some .local)
        | _, _, _ => false)
      | none => false)
    | _ => false
  | .ret e, x => match x with
    | .Return (some y) _ => ckE G I e y
    | _ => false
  | .retN, x => match x with
    | .Return none _ => true
    | _ => false
  | .ite c a b, x => match x with
    | .If y xs ys _ => tOkE c && ckE G I c y && ckSs G I a xs && ckSs G I b ys
    | _ => false
  | .for_ tg tp it b, x => match x with
    | .For tgE iter body [] _ => tgB I tg tp tgE && noSet iter && ckI G I it iter (isTup tgE) && ckSs G I b body
    | _ => false
  | .whl _ c b, x => match x with
    | .While y body [] _ => tOkE c && ckE G I c y && ckSs G I b body
    | _ => false
  | .raise c as, x => match x with
    | .Raise (some (.Call (.Name y _) [] [] _)) none _ => (match as with
      | .nil => true
      | .cons .. => false) && decide (G.clss[c]? = some y) && decide (c ∈ G.plain) && glB I y && !(y == ("__debug__" : Str))
    | _ => false
  | .tri b hs, x => match x with
    | .Try body (h0 :: hds) [] [] _ => glB I "isinstance" && ckSs G I b body && ckHds G I hs (h0 :: hds)
    | _ => false
  | .aug .., _ => false
  | .brk, x => match x with
    | .Break _ => true
    | _ => false
  | .cont, x => match x with
    | .Continue _ => true
    | _ => false
  | .never, _ => true
def ckSs (G : Glob) (I : Info) : Ss → List Stmt → Bool
  | .nil, xs => xs.isEmpty
  | .cons s r, xs => match xs with
    | x :: xs => ckS G I s x && ckSs G I r xs
    | [] => false
end
structure GoodS (X : Cx) (G : Glob) (I : Info) (adr cls : Nat → Addr) (W : WX) (C : Ctx) (L : Cls) (k : Nat) : Prop where
  g : Good X G I adr cls W C k
  hs : X.stack = X.env :: X.outer
  hf : X.env.frame = some X.env.locals
  hp : PassesOwn (model X.prog X.w) X.A X.env X.xe
  kind : I.sc.kind = .function
  cok : ClsOk X.K cls L
  mgk : ∀ (c : Nat) x, G.clss[c]? = some x → X.mg x = some (.ref (cls c))
  pl : ∀ c ∈ G.plain, ∃ bmB B newId initId, ExcBaseFacts B newId initId bmB ∧ PySem.W.excIn X.K (cls c) bmB newId = true ∧ PySem.W.keepIn X.K (.ref (cls c)) = true ∧ Raises X (.ref (cls c))
theorem GoodS.tr {X : Cx} {G : Glob} {I : Info} {adr cls : Nat → Addr} {W : WX} {C : Ctx} {L : Cls} {k : Nat} (g : GoodS X G I adr cls W C L k) {W' : WX} {pn : List (Addr × Obj)} {xe : Value → Shared → Prop} (tk : Takes (X.tr pn xe) W') (hp : PassesOwn (model X.prog X.w) X.A X.env xe) :
    GoodS (X.tr pn xe) G I adr cls W' C L k where
  g := { hN := g.g.hN, nd := g.g.nd, sc := g.g.sc, fn := g.g.fn, calm := g.g.calm, mgf := g.g.mgf, mgc := g.g.mgc, mgb := g.g.mgb, df := g.g.df, tab := ⟨g.g.tab.ok, g.g.tab.np⟩, room := g.g.room, tk := tk }
  hs := g.hs
  hf := g.hf
  hp := hp
  kind := g.kind
  cok := g.cok
  mgk := g.mgk
  pl := g.pl
section
variable {X : Cx} {G : Glob} {I : Info} {adr cls : Nat → Addr} {W : WX} {C : Ctx} {L : Cls} {k : Nat} {io : List Nat} {x y a b : Expr} {xs ys as : List Expr} {ea : E} {es : Es} {pos : Pos}
theorem noSwap {env : PySem.Env} {t : Option Expr} {l : Nat} (h : notComp y = true) : swapsWith y t l env = pure false := by
  cases y <;> first | rfl | cases h
theorem noSwapS {env : PySem.Env} {t : Expr} {l : Nat} (h : notComp y = true) : swapsWithSole [t] y l env = pure false := noSwap h
theorem noStores {env : PySem.Env} {t : Expr} (h : notTL t = true) : swappedStores [t] y env = pure none := by
  cases t <;> first
    | rfl
    | cases h
theorem noStoresT {env : PySem.Env} {ts : List Expr} {j : Nat} {p : Pos} (h : notTup y = true) : swappedStores [.Tuple ts j p] y env = pure none := by
  cases y <;> first | rfl | cases h
theorem assign_sub {env : PySem.Env} {kx : Expr} {z : Str} {px : Pos} (h : noSlice kx = true) : ∀ v, assign (.Subscript (.Name z px) kx pos) env v = (do
      let ov ← holding [v] (eval (.Name z px) env)
      let iv ← holding [v, ov] (eval kx env)
      standAt pos
      holding [v, ov, iv] (setItem ov iv v)
      release [v, ov, iv] []) := fun v => by
  cases kx <;> first | rfl | cases h
theorem ckTg_ok (g : Good X G I adr cls W C k) {t : Tg} (h : ckTg G I t x = true) : PG X x (gT X.K adr cls W io C t) ∧ (isStar x = false) ∧ (match t with
    | .nm _ => True
    | .sub .. => notTL x = true) := by
  cases t with
  | nm i =>
    simp only [ckTg] at h
    unfold tgN at h
    split at h
    · obtain ⟨h1, h2⟩ := and2 h
      obtain ⟨l1, l2⟩ := locB_ok g h2
      exact ⟨g_nm g.nd (by rw [g.hN]; exact of_decide_eq_true h1) l1 l2, rfl, trivial⟩
    · cases h
  | sub i e =>
    simp only [ckTg] at h
    split at h
    · obtain ⟨h, h3⟩ := and2 h
      obtain ⟨h1, h2⟩ := and2 h
      exact ⟨g_sub (g.var h1) (ckE_ok e g h3).1 (assign_sub h2), rfl, rfl⟩
    · cases h
theorem ckTgs_ok (g : Good X G I adr cls W C k) : ∀ {ts : List Tg} {xs : List Expr}, ckTgs G I ts xs = true → PGs X xs (gTs X.K adr cls W io C ts) ∧ (assignEach xs X.env).length = ts.length ∧ (assignEach xs X.env).findIdx? (·.1) = none
  | [], [], _ => ⟨gs_nil, rfl, rfl⟩
  | t :: ts, x :: xs, h => by
    obtain ⟨h, h2⟩ := and2 (show (!isStar x && ckTg G I t x && ckTgs G I ts xs) = true from h)
    obtain ⟨h0, h1⟩ := and2 h
    obtain ⟨p1, s1, _⟩ := ckTg_ok (io := io) g h1
    obtain ⟨p2, l2, f2⟩ := ckTgs_ok g h2
    refine ⟨gs_cons p1 p2 (by rw [assign_star s1]; rfl), by rw [assign_star s1, List.length_cons, l2]; rfl, ?_⟩
    rw [assign_star s1, List.findIdx?_cons]
    show (if false = true then some 0 else Option.map (· + 1) (List.findIdx? (·.1) (assignEach xs X.env))) = none
    rw [if_neg Bool.false_ne_true, f2]
    rfl
  | [], _ :: _, h => by cases h
  | _ :: _, [], h => by cases h
theorem ckHds_ok (g : GoodS X G I adr cls W C L k) : ∀ {hs : List Hd} {xs : List ExceptHandler}, ckHds G I hs xs = true → HdOk X cls xs hs ∧ ∀ i ∈ hs, match i with | .mk _ _ _ w _ _ => PyData.canLay0 (.str w) = true
  | [], [], _ => ⟨.nil, fun _ m => nomatch m⟩
  | h :: hs, x :: xs, hh => by
    obtain ⟨h1, h2⟩ := and2 (show (ckHd G I h x && ckHds G I hs xs) = true from hh)
    obtain ⟨r, rw'⟩ := ckHds_ok g h2
    unfold ckHd at h1
    split at h1
    · rename_i c n t w ln b cx np nx tx p0 word j p1 f p2 n2 p3 base p4 p5 p6 p7 pos'
      obtain ⟨h1, q16⟩ := and2 h1
      obtain ⟨h1, q15⟩ := and2 h1
      obtain ⟨h1, q14⟩ := and2 h1
      obtain ⟨h1, q13⟩ := and2 h1
      obtain ⟨h1, q12⟩ := and2 h1
      obtain ⟨h1, q11⟩ := and2 h1
      obtain ⟨h1, q10⟩ := and2 h1
      obtain ⟨h1, q9⟩ := and2 h1
      obtain ⟨h1, q8⟩ := and2 h1
      obtain ⟨h1, q7⟩ := and2 h1
      obtain ⟨h1, q6⟩ := and2 h1
      obtain ⟨h1, q5⟩ := and2 h1
      obtain ⟨h1, q4⟩ := and2 h1
      obtain ⟨h1, q3⟩ := and2 h1
      obtain ⟨q1, q2⟩ := and2 h1
      have e1 := beqS q10
      have e2 := beqS q12
      have e3 := beqS q13
      have e4 := beqS q14
      have e5 : ln = false := by simpa using q1
      subst e1 e2 e3 e4 e5
      obtain ⟨d1, d2⟩ := nm2 q7
      obtain ⟨l1, l2⟩ := locB_ok g.g q9
      have hl : X.env.kindOf n2 = some .local := by
        show X.env.scope.names.lookup n2 = _
        rw [g.g.sc]
        exact of_decide_eq_true q6
      refine ⟨.cons ⟨g.g.gl q3, by simpa using q4, .inl (g.mgk c cx (of_decide_eq_true q2))⟩ (by rw [g.g.hN]; exact of_decide_eq_true q5) hl (.inl hl) d1 d2 (by rw [g.g.hN]; exact of_decide_eq_true q8) l1 l2 (g.g.gl q15) (g.g.mgb _ (of_decide_eq_true q16)) r, fun i m => ?_⟩
      rcases List.mem_cons.mp m with e | m
      · subst e
        exact q11
      · exact rw' i m
    · cases h1
  | [], _ :: _, h => by cases h
  | _ :: _, [], h => by cases h
theorem nodB_ok : ∀ {is : List Nat}, nodB is = true → is.Nodup
  | [], _ => List.nodup_nil
  | i :: is, h => by
    obtain ⟨h1, h2⟩ := and2 (show (!(is.contains i) && nodB is) = true from h)
    exact List.nodup_cons.mpr ⟨by simpa using h1, nodB_ok h2⟩
theorem look_of {N : List Str} {is : List Nat} : True := trivial
theorem tgNs_at (g : Good X G I adr cls W C k) : ∀ {is : List Nat} {as : List Expr}, tgNs I is as = true → ∀ (j : Nat) z p, as[j]? = some (.Name z p) → ∃ i, is[j]? = some i ∧ X.N[i]? = some z
  | [], [], _, j, z, p, e => by simp at e
  | i :: is, a :: as, h, j, z, p, e => by
    obtain ⟨h1, h2⟩ := and2 (show (tgN I i a && tgNs I is as) = true from h)
    cases j with
    | zero =>
      simp at e
      subst e
      unfold tgN at h1
      obtain ⟨q1, _⟩ := and2 h1
      exact ⟨i, rfl, by rw [g.hN]; exact of_decide_eq_true q1⟩
    | succ j =>
      obtain ⟨i', e1, e2⟩ := tgNs_at g h2 j z p (by simpa using e)
      exact ⟨i', by simpa using e1, e2⟩
  | [], _ :: _, h, _, _, _, _ => by cases h
  | _ :: _, [], h, _, _, _, _ => by cases h
theorem ck_set (g : Good X G I adr cls W C k) {i : Nat} {z : Str} {pz : Pos} (h1 : I.N[i]? = some z) (h2 : locB I z = true) (h3 : ckE G I ea y = true) (h4 : notComp y = true) : PS X (.Assign [.Name z pz] y pos) (tS X.K adr cls W io C L (.asg (.nm i) ea)) := by
  obtain ⟨l1, l2⟩ := locB_ok g h2
  exact s_set g.nd (by rw [g.hN]; exact h1) l1 (ckE_ok ea g h3).1 (noSwap h4) l2
/-- name = [..], stored while it runs -/
theorem ck_setLc (g : Good X G I adr cls W C k) (hk : I.sc.kind = .function) {i : Nat} {z : Str} {pz : Pos} (h1 : I.N[i]? = some z) (h3 : ckE G I ea y = true) (h4 : swL I z pz.line y = true) : PS X (.Assign [.Name z pz] y pos) (tS X.K adr cls W io C L (.asg (.nm i) ea)) := by
  have never : ∀ {ea : E}, (∀ ρ, evE C ea ρ = none) → PS X (.Assign [.Name z pz] y pos) (tS X.K adr cls W io C L (.asg (.nm i) ea)) := fun {ea} hn => ⟨fun pins s σ H D I q => by
    obtain ⟨S, ρ, rp, p⟩ := q
    unfold evS at p
    rw [hn] at p
    exact p.no⟩
  cases y with
  | ListComp e gens scope lp =>
    cases ea with
    | never => exact never fun ρ => rfl
    | lc own tg tp it c elt =>
      simp only [ckE] at h3
      split at h3
      · rename_i e' tgE iter ifs k0 scope' p ey
        cases ey
        obtain ⟨h, he⟩ := and2 h3
        obtain ⟨h, hc⟩ := and2 h
        obtain ⟨h, hi⟩ := and2 h
        obtain ⟨h, hs⟩ := and2 h
        obtain ⟨h, ht⟩ := and2 h
        obtain ⟨h, hto⟩ := and2 h
        obtain ⟨hk0, hb⟩ := and2 h
        have ek := of_decide_eq_true hk0
        subst ek
        have ok : BlkOk X.N X.env.scope scope (ownP I own) := by
          rw [g.hN, g.sc]
          exact blkOk_by hb
        have hto' : ∀ i ∈ tg, i ∈ (ownP I own).map (·.2) := fun i m => by
          rw [ownP_snd]
          exact of_decide_eq_true (List.all_eq_true.mp hto i m)
        have hiI : PI X tgE iter (tI X.K adr cls W C it) := by
          refine ckI_ok it g hi (fun z => ?_)
          cases tgE <;> first
            | exact ⟨_, _, _, rfl⟩
            | cases z
        have main := (e_lc (pos := lp) (adr := adr) (cls := cls) (W := W) (C := C) g.calm g.nd hiI ok hto' (fun s H a cl fp => tgB_ok (g.blk s H scope a cl fp) ht) (fun s H a cl fp => ckC_ok c (g.blk s H scope a cl fp) hc) (fun s H a cl fp => (ckE_ok elt (g.blk s H scope a cl fp) he).1) (nofold hs)).1
        obtain ⟨h4, s3⟩ := and2 (show (decide (I.sc.names.lookup z = some .local) && pz.line == lp.line && !(scope.names.any fun (n, k) => n == z && (k == .local || k == .cell))) = true from h4)
        obtain ⟨s1, s2⟩ := and2 h4
        have hl : X.env.scope.names.lookup z = some .local := by
          rw [g.sc]
          exact of_decide_eq_true s1
        have hkk : X.env.scope.kind = .function := by
          rw [g.sc]
          exact hk
        refine PS.imp (ps_setLc (wi := tI X.K adr cls W C it) (g := gTgt X.K tg tp) (tt := tCn X.K adr cls W0 C c) (te := tE X.K adr cls W0 C elt) g.calm g.nd (by rw [g.hN]; exact h1) hl (sw_true hkk hl s2 (by simpa using s3)) hiI ok (fun s H a cl fp => tgB_ok (g.blk s H scope a cl fp) ht) (fun s H a cl fp => ckC_ok c (g.blk s H scope a cl fp) hc) (fun s H a cl fp => (ckE_ok elt (g.blk s H scope a cl fp) he).1) (nofold hs)) fun D σ H q => ?_
        obtain ⟨S, ρ, rp, p⟩ := q
        unfold evS at p
        refine main σ H _ ?_
        rw [ownP_snd]
        refine ⟨S, ρ, rp, p.first fun r S1 H1 ρ1 x1 p1 v h => ?_⟩
        split at p1
        · rename_i ρ2 e0
          unfold put at e0
          by_cases hm : io.contains i = true
          · rw [if_pos hm] at e0
            cases e0
          · rw [if_neg hm] at e0
            split at e0
            · rename_i s ρ2 e2
              cases e0
              obtain ⟨S', q, sv⟩ := slOf_ok x1.rp h e2
              exact p1.nx (put1 (x1.shr q.shr).st sv fun m => hm (by simpa using m))
            · cases e0
        · exact p1.no
      · cases h3
    | meth m o as =>
      cases as with
      | nil =>
        simp only [ckE] at h3
        cases h3
      | cons e r =>
        cases r <;> (simp only [ckE] at h3; cases h3)
    | _ =>
      simp only [ckE] at h3
      cases h3
  | _ => cases h4
end
section
variable {G : Glob} {adr cls : Nat → Addr} {C : Ctx} {L : Cls} {k : Nat} {io : List Nat}
mutual
theorem ckS_ok : ∀ (s : Vi.S) {x : Stmt} {X : Cx} {I : Info} {W : WX}, GoodS X G I adr cls W C L k → ckS G I s x = true → PS X x (tS X.K adr cls W io C L s)
  | .skip, x, X, I, W, g, h => by
    simp only [ckS] at h
    split at h
    · exact s_pass
    · cases h
  | .ex e, x, X, I, W, g, h => by
    simp only [ckS] at h
    split at h
    · obtain ⟨h1, h2⟩ := and2 h
      exact s_expr (ckE_ok e g.g h2).1 (noSwap h1)
    · cases h
  | .asg t e, x, X, I, W, g, h => by
    simp only [ckS] at h
    split at h
    · split at h
      · split at h
        · obtain ⟨h, h4⟩ := and2 h
          obtain ⟨h, h3⟩ := and2 h
          obtain ⟨h1, h2⟩ := and2 h
          rcases (Bool.or_eq_true _ _).mp h4 with h4 | h4
          · exact ck_set g.g (of_decide_eq_true h1) h2 h3 h4
          · exact ck_setLc g.g g.kind (of_decide_eq_true h1) h3 h4
        · cases h
      · obtain ⟨h, h3⟩ := and2 h
        obtain ⟨h1, h2⟩ := and2 h
        obtain ⟨p1, s1, n1⟩ := ckTg_ok (io := io) g.g h2
        exact s_asub (ckE_ok e g.g h3).1 p1 (noSwapS h1) (noStores n1) (by rw [assign_star s1]; rfl)
    · cases h
  | .unp ts e, x, X, I, W, g, h => by
    simp only [ckS] at h
    split at h
    · rename_i xs j p y pos
      obtain ⟨h, h4⟩ := and2 h
      obtain ⟨h, h3⟩ := and2 h
      obtain ⟨h1, h2⟩ := and2 h
      obtain ⟨p1, l1, f1⟩ := ckTgs_ok (io := io) g.g h2
      refine s_unp g.g.calm (ckE_ok e g.g h3).1 p1 l1 f1 (noSwapS h1) ?_ rfl
      cases y with
      | Tuple vs k2 p2 =>
        refine swP_ok (by rw [g.g.sc]; exact g.kind) ?_
        rw [g.g.sc]
        exact of_decide_eq_true h4
      | _ => exact noStoresT rfl
    · cases h
  | .par is es, x, X, I, W, g, h => by
    simp only [ckS] at h
    split at h
    · rename_i xs j p vs j2 p2 pos
      obtain ⟨h, h5⟩ := and2 h
      obtain ⟨h, h4⟩ := and2 h
      obtain ⟨h, h3⟩ := and2 h
      obtain ⟨h1, h2⟩ := and2 h
      have nd := nodB_ok h3
      have hk : X.env.scope.kind = .function := by
        rw [g.g.sc]
        exact g.kind
      obtain ⟨pa, _, _⟩ := ckEs_ok es g.g h2
      split at h5
      · rename_i e
        obtain ⟨p1, l1, f1⟩ := tgNs_ok g.g h1
        exact s_parT g.g.calm pa p1 (by have := of_decide_eq_true h4; omega) l1 f1 (noSwapS rfl) (swP_ok hk (by rw [g.g.sc]; exact e)) rfl
      · rename_i ns e
        have ew : ∀ {r}, swP I.sc xs vs = some r → swappedStores [.Tuple xs j p] (.Tuple vs j2 p2) X.env = pure r := fun z => swP_ok hk (by rw [g.g.sc]; exact z)
        have at_ := tgNs_at g.g h1
        split at h5
        · obtain ⟨h5, q2⟩ := and2 h5
          obtain ⟨q0, q1⟩ := and2 h5
          have e0 := of_decide_eq_true q0
          have e1 := of_decide_eq_true q1
          have e2 := of_decide_eq_true q2
          obtain ⟨i, z1, z2⟩ := at_ 0 _ _ rfl
          obtain ⟨i', z3, z4⟩ := at_ 1 _ _ rfl
          cases z1
          cases z3
          simp only [List.nodup_cons, List.mem_cons, List.not_mem_nil, or_false, not_or] at nd
          subst e0
          exact s_par2 g.g.calm g.g.nd z2 z4 nd.1 (by rw [g.g.sc]; exact e1) (by rw [g.g.sc]; exact e2) pa (ew e) (noSwapS rfl)
        · obtain ⟨h5, q3⟩ := and2 h5
          obtain ⟨h5, q2⟩ := and2 h5
          obtain ⟨q0, q1⟩ := and2 h5
          have e0 := of_decide_eq_true q0
          have e1 := of_decide_eq_true q1
          have e2 := of_decide_eq_true q2
          have e3 := of_decide_eq_true q3
          obtain ⟨i, z1, z2⟩ := at_ 0 _ _ rfl
          obtain ⟨i', z3, z4⟩ := at_ 1 _ _ rfl
          obtain ⟨i'', z5, z6⟩ := at_ 2 _ _ rfl
          cases z1
          cases z3
          cases z5
          simp only [List.nodup_cons, List.mem_cons, List.not_mem_nil, or_false, not_or] at nd
          subst e0
          exact s_par3 g.g.calm g.g.nd z2 z4 z6 nd.1.1 nd.1.2 nd.2.1 (by rw [g.g.sc]; exact e1) (by rw [g.g.sc]; exact e2) (by rw [g.g.sc]; exact e3) pa (ew e) (noSwapS rfl)
        · cases h5
      · cases h5
    · cases h
  | .ret e, x, X, I, W, g, h => by
    simp only [ckS] at h
    split at h
    · exact s_ret (ckE_ok e g.g h).1
    · cases h
  | .retN, x, X, I, W, g, h => by
    simp only [ckS] at h
    split at h
    · exact s_retN
    · cases h
  | .ite c a b, x, X, I, W, g, h => by
    simp only [ckS] at h
    split at h
    · obtain ⟨h, h4⟩ := and2 h
      obtain ⟨h, h3⟩ := and2 h
      obtain ⟨h1, h2⟩ := and2 h
      exact s_if ((ckE_ok c g.g h2).2 h1).1 (ckSs_ok a g h3) (ckSs_ok b g h4)
    · cases h
  | .for_ tg tp it b, x, X, I, W, g, h => by
    simp only [ckS] at h
    split at h
    · rename_i tgE iter body pos
      obtain ⟨h, h4⟩ := and2 h
      obtain ⟨h, h3⟩ := and2 h
      obtain ⟨h1, h2⟩ := and2 h
      refine s_for g.hp g.g.calm (ckI_ok it g.g h3 fun z => ?_) (tgB_ok g.g h1) (ckSs_ok b g h4) (nofold h2)
      cases tgE <;> first
        | exact ⟨_, _, _, rfl⟩
        | cases z
    · cases h
  | .whl n c b, x, X, I, W, g, h => by
    simp only [ckS] at h
    split at h
    · obtain ⟨h, h4⟩ := and2 h
      obtain ⟨h1, h2⟩ := and2 h
      exact s_whl g.hp ((ckE_ok c g.g h2).2 h1).1 (ckSs_ok b g h4)
    · cases h
  | .raise c as, x, X, I, W, g, h => by
    simp only [ckS] at h
    split at h
    · obtain ⟨h, h5⟩ := and2 h
      obtain ⟨h, h4⟩ := and2 h
      obtain ⟨h, h3⟩ := and2 h
      obtain ⟨h1, h2⟩ := and2 h
      cases as with
      | nil =>
        obtain ⟨bmB, B, n1, n2, F, q, kC, r⟩ := g.pl c (of_decide_eq_true h3)
        exact s_raise0 g.g.calm g.g.tk F q (g.mgk c _ (of_decide_eq_true h2)) kC r (g.g.gl h4) (by simpa using h5)
      | cons _ _ => cases h1
    · cases h
  | .tri b hs, x, X, I, W, g, h => by
    simp only [ckS] at h
    split at h
    · obtain ⟨h, h3⟩ := and2 h
      obtain ⟨h1, h2⟩ := and2 h
      obtain ⟨q1, q2⟩ := ckHds_ok g h3
      exact s_tri g.hs g.hf g.g.nd g.g.tk g.cok (g.g.bn h1 (bl_in _) (by decide +kernel)) (fun W' pn xe tk hp => ckSs_ok b (g.tr tk hp) h2) q1 q2
    · cases h
  | .aug .., x, X, I, W, g, h => by
    simp only [ckS] at h
    cases h
  | .brk, x, X, I, W, g, h => by
    simp only [ckS] at h
    split at h
    · exact s_brk
    · cases h
  | .cont, x, X, I, W, g, h => by
    simp only [ckS] at h
    split at h
    · exact s_cont
    · cases h
  | .never, x, X, I, W, g, h => s_never
theorem ckSs_ok : ∀ (s : Ss) {xs : List Stmt} {X : Cx} {I : Info} {W : WX}, GoodS X G I adr cls W C L k → ckSs G I s xs = true → PSs X xs (tSs X.K adr cls W io C L s)
  | .nil, xs, X, I, W, g, h => by
    simp only [ckSs] at h
    cases xs with
    | nil => exact ss_nil
    | cons _ _ => cases h
  | .cons s r, xs, X, I, W, g, h => by
    simp only [ckSs] at h
    split at h
    · obtain ⟨h1, h2⟩ := and2 h
      exact ss_cons (ckS_ok s g h1) (ckSs_ok r g h2)
    · cases h
end
end
end Vi
set_option Elab.async false
set_option linter.all false
set_option maxRecDepth 100000
set_option maxHeartbeats 1000000
/-! Vi, part Y: a table of defs, all of them sound. -/
namespace Vi
open PySem PySem.Spec PyProof.Rows L2
def plainP (as : List Arg) : Arguments := ⟨[], as, none, [], [], none, []⟩
theorem zip_look {ns : List Str} {us : List Value} {n : Str} : ns.length = us.length → n ∈ ns → ((ns.zip us).lookup n).isSome = true := by
  induction ns generalizing us with
  | nil => intro _ h; cases h
  | cons m ns ih =>
    intro hl h
    cases us with
    | nil => cases hl
    | cons u us =>
      show ((match n == m with
        | true => some u
        | false => (ns.zip us).lookup n)).isSome = true
      cases e : n == m with
      | true => rfl
      | false =>
        rcases List.mem_cons.mp h with z | z
        · rw [z] at e
          simp at e
        · exact ih (Nat.succ.inj hl) z
theorem zip_filter : ∀ {ns : List Str} {us : List Value}, ns.length = us.length → ns.Nodup → ns.filterMap (fun n => ((ns.zip us).lookup n).map (n, ·)) = ns.zip us
  | [], [], _, _ => rfl
  | [], _ :: _, h, _ => by cases h
  | _ :: _, [], h, _ => by cases h
  | n :: ns, u :: us, h, nd => by
    obtain ⟨h1, h2⟩ := List.nodup_cons.mp nd
    have e1 : (((n :: ns).zip (u :: us)).lookup n).map (n, ·) = some (n, u) := by
      show ((match n == n with
        | true => some u
        | false => (ns.zip us).lookup n)).map (n, ·) = some (n, u)
      rw [beq_self_eq_true]
      rfl
    rw [List.filterMap_cons]
    simp only [e1]
    show (n, u) :: _ = (n, u) :: ns.zip us
    congr 1
    have key : ∀ ms : List Str, (∀ m ∈ ms, m ≠ n) → ms.filterMap (fun m => (((n :: ns).zip (u :: us)).lookup m).map (m, ·)) = ms.filterMap (fun m => ((ns.zip us).lookup m).map (m, ·)) := by
      intro ms
      induction ms with
      | nil => exact fun _ => rfl
      | cons m ms ih =>
        intro hm
        have e : ((n :: ns).zip (u :: us)).lookup m = (ns.zip us).lookup m := by
          show (match m == n with
            | true => some u
            | false => (ns.zip us).lookup m) = _
          have : (m == n) = false := by simpa using hm m List.mem_cons_self
          rw [this]
        rw [List.filterMap_cons, List.filterMap_cons, ih fun z hz => hm z (List.mem_cons_of_mem _ hz)]
        simp only [e]
    rw [key ns fun m hm z => h1 (z ▸ hm)]
    exact zip_filter (Nat.succ.inj h) h2
theorem bind_plain {x qual : Str} {as : List Arg} {body : List Stmt} {scope : Scope} {kV doc pm : Value} {an : Option Addr} {cdv ct : Value} {us : List Value} (hl : us.length = (as.map (·.arg)).length) (nd : (as.map (·.arg)).Nodup) :
    bindArgs (PySem.W.fnOf x qual (plainP as) body scope .none kV doc pm an cdv ct) ⟨us, []⟩ = pure ((as.map (·.arg)).zip us) := by
  generalize en : as.map (·.arg) = ns at *
  have e0 : (PySem.W.fnOf x qual (plainP as) body scope .none kV doc pm an cdv ct).defaults = .none := rfl
  have e1 : (PySem.W.fnOf x qual (plainP as) body scope .none kV doc pm an cdv ct).params = plainP as := rfl
  have e2 : seqItems? .none = pure none := rfl
  have hmiss : (ns.take ns.length).filter (fun n => ((ns.zip us).lookup n).isNone) = [] := by
    rw [List.take_length, List.filter_eq_nil_iff]
    intro n hn
    have := zip_look (us := us) hl.symm hn
    cases e : (ns.zip us).lookup n with
    | none =>
      rw [e] at this
      cases this
    | some _ => simp
  have hgt : ¬ us.length > ns.length := by omega
  unfold bindArgs
  simp only [e0, e1, e2, plainP, en, List.map_nil, List.nil_append, List.append_nil, List.forIn_nil, pure_bind, Option.getD_none, List.drop_nil, List.length_nil, Nat.sub_zero, hmiss, List.isEmpty_nil, Bool.not_true, List.zip_nil_right, hgt, decide_false, Bool.false_and, Bool.false_eq_true, if_false, zip_filter hl.symm nd]
/-- a def of the table: as the program has it, its slots, as the interpreter has it -/
structure Row where
  d : He.DefD
  N : List Str
  df : Def
def argsOf (a : Arguments) : Option (List Arg) := match a with
  | ⟨[], as, none, [], [], none, []⟩ => some as
  | _ => none
theorem argsOf_ok {a : Arguments} {as : List Arg} (h : argsOf a = some as) : a = plainP as := by
  unfold argsOf at h
  split at h
  · cases h
    rfl
  · cases h
def nodS : List Str → Bool
  | [] => true
  | x :: r => r.all (fun y => !(y == x)) && nodS r
theorem nodS_ok : ∀ {l : List Str}, nodS l = true → l.Nodup
  | [], _ => List.nodup_nil
  | x :: r, h => by
    obtain ⟨h1, h2⟩ := and2 (show (r.all (fun y => !(y == x)) && nodS r) = true from h)
    refine List.nodup_cons.mpr ⟨fun m => ?_, nodS_ok h2⟩
    have := List.all_eq_true.mp h1 x m
    simp at this
def defI (r : Row) : Info := ⟨r.N, r.d.scope, fun _ => true⟩
/-- a def is as its row says -/
def ckRow (G : Glob) (r : Row) : Bool := match argsOf r.d.params with
  | none => false
  | some as => nodS r.N && decide (r.N.take (as.map (·.arg)).length = as.map (·.arg)) && decide (r.df.np = as.length) && decide (r.df.n = r.N.length) && decide (r.d.scope.kind = .function) && !r.d.scope.isCoroutine && !r.d.scope.isGenerator &&
      (as.map (·.arg)).all (fun x => match r.d.scope.names.lookup x with
        | some .local => true
        | some .cell => true
        | _ => false) && r.d.scope.names.all (fun y => match y.2 with
        | .free => false
        | _ => true) && ckSs G (defI r) r.df.body r.d.body
/-- what the written part must say -/
structure World_ (K : PySem.W.Frag) (mg : Str → Option Value) (T : List Row) (G : Glob) (adr cls : Nat → Addr) (L : Cls) : Prop where
  fns : ∀ (f : Nat) r, T[f]? = some r → ∃ fd, FunD K r.d.name r.d.qual r.d.params r.d.body r.d.scope [] [] (adr f) fd
  mgf : ∀ (f : Nat) x, G.names[f]? = some x → mg x = some (.ref (adr f))
  len : G.names.length = T.length
  mgc : ∀ p ∈ G.consts, ∃ u v, mg p.1 = some u ∧ RelV v u ∧ (match p.2 with
    | .int i => v = .int i
    | .str s => v = .str s
    | _ => False)
  mgb : ∀ x ∈ blNames, mg x = none
  cok : ClsOk K cls L
  mgk : ∀ (c : Nat) x, G.clss[c]? = some x → mg x = some (.ref (cls c))
  pl : ∀ c ∈ G.plain, ∃ bmB B newId initId, ExcBaseFacts B newId initId bmB ∧ PySem.W.excIn K (cls c) bmB newId = true ∧ PySem.W.keepIn K (.ref (cls c)) = true ∧
    PySem.W.subIn K (.ref (cls c)) (.type "BaseException") = some true ∧ PySem.W.typeIn K (.ref (cls c)) = some (.type "type")
def defsOf (T : List Row) (f : Nat) : Option Def := (T[f]?).map (·.df)
section
variable {P : Program} {w : World} {K : PySem.W.Frag} {mg : Str → Option Value} {base : Heap} {T : List Row} {G : Glob} {adr cls : Nat → Addr} {L : Cls}
theorem row_ok {r : Row} (h : ckRow G r = true) : ∃ as, r.d.params = plainP as ∧ (as.map (·.arg)).Nodup ∧ FnScope r.N (as.map (·.arg)) r.d.scope ∧ r.df.np = (as.map (·.arg)).length ∧ r.df.n = r.N.length ∧ ckSs G (defI r) r.df.body r.d.body = true := by
  unfold ckRow at h
  split at h
  · cases h
  · rename_i as ea
    obtain ⟨h, q10⟩ := and2 h
    obtain ⟨h, q9⟩ := and2 h
    obtain ⟨h, q8⟩ := and2 h
    obtain ⟨h, q7⟩ := and2 h
    obtain ⟨h, q6⟩ := and2 h
    obtain ⟨h, q5⟩ := and2 h
    obtain ⟨h, q4⟩ := and2 h
    obtain ⟨h, q3⟩ := and2 h
    obtain ⟨q1, q2⟩ := and2 h
    have nd := nodS_ok q1
    have e2 := of_decide_eq_true q2
    refine ⟨as, argsOf_ok ea, ?_, ⟨of_decide_eq_true q5, by simpa using q6, by simpa using q7, nd, e2, fun x m => ?_, fun y m => ?_⟩, by rw [List.length_map]; exact of_decide_eq_true q3, of_decide_eq_true q4, q10⟩
    · rw [← e2]
      exact nd.sublist (List.take_sublist _ _)
    · have := List.all_eq_true.mp q8 x m
      split at this
      · exact .inl (by assumption)
      · exact .inr (by assumption)
      · cases this
    · have := List.all_eq_true.mp q9 y m
      intro z
      rw [z] at this
      cases this
theorem binds_ok {r : Row} {a : Addr} {fd : FuncData} {as : List Arg} (F : FunD K r.d.name r.d.qual r.d.params r.d.body r.d.scope [] [] a fd) (ep : r.d.params = plainP as) (nd : (as.map (·.arg)).Nodup) : Binds K fd (as.map (·.arg)) [] := by
  refine F.bindsN fun kV doc pm an cdv ct us hl => ?_
  rw [ep]
  exact bind_plain hl nd
/-- all defs of the table, at every depth -/
theorem all_ok (Wd : World_ K mg T G adr cls L) (hT : ∀ (f : Nat) r, T[f]? = some r → ckRow G r = true) : ∀ (n f : Nat) r, T[f]? = some r → ∀ fd as, FunD K r.d.name r.d.qual r.d.params r.d.body r.d.scope [] [] (adr f) fd → r.d.params = plainP as →
    FnOk P w K mg base (L2.CX P w) n (adr f) fd (as.map (·.arg)) (spF K adr cls (Vi.call (defsOf T) L n) r.df.np f)
  | 0, f, r, e, fd, as, F, ep => by
    obtain ⟨as', ep', nd, Sc, hnp, hn, ck⟩ := row_ok (hT f r e)
    have ea : as' = as := by
      rw [ep'] at ep
      exact (Arguments.mk.inj ep).2.1
    subst ea
    exact fn_zero hnp
  | n + 1, f, r, e, fd, as, F, ep => by
    obtain ⟨as', ep', nd, Sc, hnp, hn, ck⟩ := row_ok (hT f r e)
    have ea : as' = as := by
      rw [ep'] at ep
      exact (Arguments.mk.inj ep).2.1
    subst ea
    refine fn_ok (defs := defsOf T) (by unfold defsOf; rw [e]; rfl) F Sc hnp hn fun cdv A outer s H E hr => ?_
    have C : Ctx := ⟨defsOf T, Vi.call (defsOf T) L n⟩
    refine ckSs_ok (G := G) (I := defI r) (k := n) r.df.body ?_ ck
    have tk : Takes (cxOf (L2.CX P w) P w K mg base r.N r.d.qual r.d.scope (adr f) cdv A outer s H E) (fun c d _ H => E c d H) := takes_of rfl rfl rfl rfl
    refine ⟨⟨rfl, Sc.nd, rfl, fun _ _ => rfl, rfl, Wd.mgf, Wd.mgc, Wd.mgb, fun g x eg => ?_, ⟨fun g df eg => ?_, fun g df io ds c eg ec => call_np n g df io ds c eg ec⟩, hr, tk⟩, rfl, rfl, passes_of rfl, Sc.kind, Wd.cok, Wd.mgk, fun c m => ?_⟩
    · have lt : g < T.length := by
        rw [← Wd.len]
        exact (List.getElem?_eq_some_iff.mp eg).1
      exact ⟨T[g].df, by show (T[g]?).map (·.df) = _; rw [List.getElem?_eq_getElem lt]; rfl⟩
    · obtain ⟨r', e1, e2⟩ := Option.map_eq_some_iff.mp (show (T[g]?).map (·.df) = some df from eg)
      obtain ⟨fd', F'⟩ := Wd.fns g r' e1
      obtain ⟨as2, ep2, nd2, _⟩ := row_ok (hT g r' e1)
      refine ⟨fd', as2.map (fun (a : Arg) => a.arg), ?_, F'.kp, binds_ok F' ep2 nd2⟩
      rw [← e2]
      exact all_ok Wd hT n g r' e1 fd' as2 F' ep2
    · obtain ⟨bmB, B, n1, n2, F1, F2, F3, F4, F5⟩ := Wd.pl c m
      exact ⟨bmB, B, n1, n2, F1, F2, F3, raises_own F4 F5⟩
end
end Vi
set_option Elab.async false
set_option linter.all false
set_option maxRecDepth 100000
set_option maxHeartbeats 1000000
/-! Vi, part Z: the head's facts; the law's end. -/
namespace Vi
open PySem PySem.Spec PyProof.Rows L2
/-! ### the written part -/
def esOf (g : Addr → Option Obj) : List DictEntry := match g mainGlobals with
  | some ⟨_, _, .dict es _, _⟩ => es.toList
  | _ => []
def adrE (es : List DictEntry) (x : Str) : Addr := match es.find? (·.key.isStr x) with
  | some e => (match e.val with
    | .ref a => a
    | _ => 0)
  | none => 0
def codeA (g : Addr → Option Obj) (a : Addr) : List Addr := match g a with
  | some ⟨_, _, .func fd, _⟩ => He.refV fd.code
  | _ => []
/-- what isinstance asks of an own error class, and what it says of ValueError -/
def excCB (K : PySem.W.Frag) (D : Addr) : Bool :=
  decide (PySem.W.findIn K (.ref D) "__getattribute__" = some (some (.builtin "BaseException.__getattribute__"))) && decide (PySem.W.findIn K (.ref D) "__getattr__" = some none) && decide (PySem.W.subIn K (.ref D) (.type "BaseException") = some true) &&
    PySem.W.hasDictIn K D && decide (PySem.W.findIn K (.ref D) "__class__" = some (some (.builtin "object.__class__"))) && decide (PySem.W.specialIn K (.builtin "object.__class__") "__get__" = some (some (.builtin "getset_descriptor.__get__"))) &&
    decide (PySem.W.takesIn K (.builtin "object.__class__") = some true) && decide (PySem.W.mroIn K D (.type "object") = some true) && decide (PySem.W.kitOne K (.ref D) (.type "ValueError") = some true)
theorem excCB_ok {K : PySem.W.Frag} {D : Addr} (h : excCB K D = true) : ExcC K D ∧ PySem.W.kitOne K (.ref D) (.type "ValueError") = some true := by
  unfold excCB at h
  obtain ⟨h, q9⟩ := and2 h
  obtain ⟨h, q8⟩ := and2 h
  obtain ⟨h, q7⟩ := and2 h
  obtain ⟨h, q6⟩ := and2 h
  obtain ⟨h, q5⟩ := and2 h
  obtain ⟨h, q4⟩ := and2 h
  obtain ⟨h, q3⟩ := and2 h
  obtain ⟨q1, q2⟩ := and2 h
  exact ⟨⟨of_decide_eq_true q1, of_decide_eq_true q2, of_decide_eq_true q3, q4, of_decide_eq_true q5, of_decide_eq_true q6, of_decide_eq_true q7, of_decide_eq_true q8⟩, of_decide_eq_true q9⟩
def exM (xs : List Str) (K : PySem.W.Frag) : Bool := xs.all fun x => excCB K (He.ga K x)
/-! ### a def as it stands, looked up by the heap itself -/
abbrev FnM : Type := Option (Str × Str × Arguments × FuncBody × Scope × Addr × List (Str × Addr) × Value × Addr)
def fnM (g : Addr → Option Obj) (a : Addr) : FnM := match g a with
  | some ⟨_, _, .func fd, _⟩ => some (fd.name, fd.qualname, fd.params, fd.body, fd.scope, fd.globals, fd.closure, fd.defaults, fd.builtins)
  | _ => none
def valM (d : He.DefD) : FnM := some (d.name, d.qual, d.params, .stmts d.body, d.scope, mainGlobals, [], .none, builtinsNs)
def codeV (g : Addr → Option Obj) (cd : Value) (q : Str) : Bool := match cd with
  | .ref c => (match g c with
    | some ⟨_, _, .fields vs, _⟩ => (match vs.toList with
      | _ :: .str n _ :: _ => n == q
      | _ => false)
    | _ => false)
  | _ => false
def codeM (g : Addr → Option Obj) (a : Addr) (q : Str) : Bool := match g a with
  | some ⟨_, _, .func fd, _⟩ => codeV g fd.code q
  | _ => false
theorem codeV_ok {g : Addr → Option Obj} {K : PySem.W.Frag} {cd : Value} {q : Str} (lk : ∀ c ∈ He.refV cd, ∀ o, g c = some o → K.lookup c = some o) (h : codeV g cd q = true) : PySem.W.codeIn K cd q = true := by
  unfold codeV at h
  unfold PySem.W.codeIn
  cases cd with
  | ref c =>
    dsimp only at h ⊢
    cases qc : g c with
    | none =>
      rw [qc] at h
      cases h
    | some o =>
      rw [qc] at h
      rw [lk c (List.mem_cons_self ..) o qc]
      exact h
  | _ => cases h
theorem frG_look {g : Addr → Option Obj} {a : Addr} {o : Obj} (e : g a = some o) : ∀ as : List Addr, a ∈ as → (He.frG g as).lookup a = some o
  | b :: r, m => by
    unfold He.frG
    cases hb : g b with
    | none =>
      rw [List.filterMap_cons, hb]
      have m2 : a ∈ r := by
        rcases List.mem_cons.mp m with q | q
        · rw [q, hb] at e
          cases e
        · exact q
      exact frG_look e r m2
    | some ob =>
      rw [List.filterMap_cons, hb]
      show (match a == b with | true => some ob | false => (He.frG g r).lookup a) = some o
      cases q : (a == b) with
      | true =>
        rw [beq_iff_eq.mp q, hb] at e
        exact e
      | false =>
        rcases List.mem_cons.mp m with z | z
        · rw [z] at q
          simp at q
        · exact frG_look e r z
theorem frG_none {g : Addr → Option Obj} {a : Addr} (e : g a = none) (as : List Addr) : (He.frG g as).lookup a = none := by
  cases q : (He.frG g as).lookup a with
  | none => rfl
  | some o =>
    rw [He.frG_at as q] at e
    cases e
theorem ga_adr (g : Addr → Option Obj) (r : List Addr) (x : Str) : He.ga (He.frG g (mainGlobals :: r)) x = adrE (esOf g) x := by
  unfold He.ga PySem.W.nsIn adrE esOf
  cases q : g mainGlobals with
  | none =>
    rw [frG_none q]
    rfl
  | some o =>
    rw [frG_look q _ (List.mem_cons_self ..)]
    obtain ⟨oc, od, dt, osl⟩ := o
    cases dt with
    | dict es n =>
      show (match (match es.toList.find? (·.key.isStr x) with
        | some e => some (some e.val)
        | none => if es.toList.any (·.refKey) then none else some none) with
        | some (some (.ref a)) => a
        | _ => 0) = (match es.toList.find? (·.key.isStr x) with
        | some e => (match e.val with
          | .ref a => a
          | _ => 0)
        | none => 0)
      cases es.toList.find? (·.key.isStr x) with
      | none =>
        dsimp only
        split <;> first | rfl | (rename_i z; split at z <;> cases z)
      | some e =>
        dsimp only
        cases e.val <;> rfl
    | _ => rfl
theorem fnM_ok {g : Addr → Option Obj} {as : List Addr} {a : Addr} {d : He.DefD} (m : a ∈ as) (mc : ∀ c, c ∈ codeA g a → c ∈ as) (e : fnM g a = valM d) (c : codeM g a d.qual = true) : ∃ fd, FunD (He.frG g as) d.name d.qual d.params d.body d.scope [] [] a fd := by
  unfold fnM at e
  unfold codeM at c
  unfold codeA at mc
  cases q : g a with
  | none =>
    rw [q] at e
    cases e
  | some o =>
    have lk := frG_look q as m
    obtain ⟨oc, od, dt, osl⟩ := o
    rw [q] at e c mc
    cases dt with
    | func fd =>
      obtain ⟨n1, n2, n3, n4, n5, n6, n7, n8, n9, n10, n11, n12, n13, n14, n15⟩ := fd
      have e2 : (some (n1, n2, n3, n4, n5, n6, n7, n8, n15) : FnM) = some (d.name, d.qual, d.params, .stmts d.body, d.scope, mainGlobals, [], .none, builtinsNs) := e
      simp only [Option.some.injEq, Prod.mk.injEq] at e2
      obtain ⟨h1, h2, h3, h4, h5, h6, h7, h8, h9⟩ := e2
      subst h1 h2 h3 h4 h5 h6 h7 h8 h9
      refine ⟨_, ⟨oc, od, .none, n9, n10, n11, n12, n13, n14, osl, rfl, lk, ?_, .inl ⟨rfl, rfl⟩, .inl rfl⟩, ?_⟩
      · exact codeV_ok (fun cc m o qc => frG_look qc as (mc cc m)) c
      · show (match (He.frG g as).lookup a with
          | some ⟨_, _, .func _, _⟩ => true
          | some ⟨_, _, .cls _, _⟩ => PySem.W.specialIn (He.frG g as) (.ref a) "__call__" == some (some (.builtin "type.__call__"))
          | _ => false) = true
        rw [lk]
    | _ => cases e
/-! ### the Hook -/
def asM (g : Addr → Option Obj) (fns cls : List Str) : List Addr :=
  (fun es => mainGlobals :: (He.growG g (He.growG g (cls.map (adrE es))) ++ ((fns.map (adrE es)) ++ (fns.map (adrE es)).flatMap (codeA g)))) (esOf g)
abbrev AlM : Type := Bool × List FnM
def obsM (cls : List Str) (fa : List He.Fa) (fn : List He.DefD) (xs : List Str) (g : Addr → Option Obj) : AlM :=
  (fun es => (fun K => ((fa.all fun f => f.ok K) && (exM xs K && fn.all fun d => codeM g (adrE es d.name) d.qual), fn.map fun d => fnM g (adrE es d.name))) (He.frG g (asM g (fn.map (·.name)) cls))) (esOf g)
def valAM (fn : List He.DefD) : AlM := (true, fn.map valM)
def SaysM (fa : List He.Fa) (fn : List He.DefD) (xs : List Str) (K : PySem.W.Frag) : Prop :=
  (∀ f ∈ fa, f.ok K = true) ∧ exM xs K = true ∧ ∀ d ∈ fn, ∃ fd, FunD K d.name d.qual d.params d.body d.scope [] [] (He.ga K d.name) fd
theorem saysM_of {cls : List Str} {fa : List He.Fa} {fn : List He.DefD} {xs : List Str} {g : Addr → Option Obj} (e : obsM cls fa fn xs g = valAM fn) : SaysM fa fn xs (He.frG g (asM g (fn.map (·.name)) cls)) := by
  have e1 := congrArg Prod.fst e
  have e2 := congrArg Prod.snd e
  obtain ⟨a1, a2⟩ := and2 (show ((fa.all fun f => f.ok (He.frG g (asM g (fn.map (·.name)) cls))) && (exM xs (He.frG g (asM g (fn.map (·.name)) cls)) && fn.all fun d => codeM g (adrE (esOf g) d.name) d.qual)) = true from e1)
  obtain ⟨a3, a4⟩ := and2 a2
  refine ⟨fun f m => List.all_eq_true.mp a1 f m, a3, fun d m => ?_⟩
  have e3 : fn.map (fun d => fnM g (adrE (esOf g) d.name)) = fn.map valM := e2
  have e4 : fnM g (adrE (esOf g) d.name) = valM d := List.map_inj_left.mp e3 d m
  rw [show He.ga (He.frG g (asM g (fn.map (·.name)) cls)) d.name = adrE (esOf g) d.name from ga_adr g _ _]
  have mm : adrE (esOf g) d.name ∈ (fn.map (·.name)).map (adrE (esOf g)) := List.mem_map.mpr ⟨d.name, List.mem_map.mpr ⟨d, m, rfl⟩, rfl⟩
  refine fnM_ok ?_ (fun c mc => ?_) e4 (List.all_eq_true.mp a4 d m)
  · exact List.mem_cons_of_mem _ (List.mem_append_right _ (List.mem_append_left _ mm))
  · exact List.mem_cons_of_mem _ (List.mem_append_right _ (List.mem_append_right _ (List.mem_flatMap.mpr ⟨_, mm, mc⟩)))
def hookM (cls : List Str) (fa : List He.Fa) (fn : List He.DefD) (xs : List Str) : PySem.W.Hook where
  α := AlM
  obs := fun s => obsM cls fa fn xs s.heap.get?
  val := fun _ => valAM fn
  says := fun _ h => ∃ K : PySem.W.Frag, K.In h ∧ SaysM fa fn xs K
  of := fun _ _ e => ⟨_, He.frG_in, saysM_of e⟩
  keeps := fun _ _ _ ⟨K, hK, c⟩ k => ⟨K, PySem.W.Frag.In.keeps hK k, c⟩
theorem obM_eq (cls : List Str) (fa : List He.Fa) (fn : List He.DefD) (xs : List Str) (s : PySem.W.SharedT) : obsM cls fa fn xs (HandSHeadRun.getT s) = (hookM cls fa fn xs).obs s.abs := by
  have e : HandSHeadRun.getT s = s.abs.heap.get? := funext (HandSHeadRun.getT_eq s)
  show obsM cls fa fn xs (HandSHeadRun.getT s) = obsM cls fa fn xs s.abs.heap.get?
  rw [e]
/-! ### the table from the rows' data -/
structure Src where
  name : Str
  top : Nat
  N : List Str
  df : Def
def dOf (prog : Program) (s : Src) : He.DefD := ⟨(s.name, none), s.name, s.name, defArgs (prog.main.body.getD s.top (.Pass ⟨0, 0, 0, 0⟩)), defBody (prog.main.body.getD s.top (.Pass ⟨0, 0, 0, 0⟩)), defScope (prog.main.body.getD s.top (.Pass ⟨0, 0, 0, 0⟩)), [], []⟩
def rowOf (prog : Program) (s : Src) : Row := ⟨dOf prog s, s.N, s.df⟩
/-- the facts that a table asks for -/
def faOf (names : List Str) (cI : List (Str × Int)) (cS : List (Str × Str)) (clss : List Str) (plain : List Str) : List He.Fa :=
  names.map He.Fa.glo ++ (blNames.map He.Fa.free ++ (cI.map (fun p => He.Fa.int p.1 p.2) ++ (cS.map (fun p => He.Fa.str p.1 p.2) ++ (clss.map He.Fa.glo ++ (plain.map He.Fa.exc ++ plain.flatMap fun x => plain.map fun y => He.Fa.exm x y (x == y))))))
def constsOf (cI : List (Str × Int)) (cS : List (Str × Str)) : List (Str × Vi.D) := cI.map (fun p => (p.1, .int p.2)) ++ cS.map (fun p => (p.1, .str p.2))
/-- the classes by number: those without own __init__ are told one from the other -/
def LOf (clss plain : List Str) : Cls := ⟨fun i j => match clss[i]?, clss[j]? with
    | some x, some y => if plain.contains x && plain.contains y then some (x == y) else none
    | _, _ => none,
  fun i b => match clss[i]? with
    | some x => if plain.contains x && b == ("ValueError" : Str) then some true else none
    | none => none⟩
def plainIx_ (clss plain : List Str) : List Nat := (List.range clss.length).filter fun i => match clss[i]? with
  | some x => plain.contains x
  | none => false
def globOf (src : List Src) (cI : List (Str × Int)) (cS : List (Str × Str)) (clss plain : List Str) : Glob := ⟨src.map (·.name), constsOf cI cS, clss, plainIx_ clss plain⟩
def nmAt (l : List Str) (f : Nat) : Str := l.getD f (Str.ofString "")
theorem nmAt_of {l : List Str} {f : Nat} {x : Str} (e : l[f]? = some x) : nmAt l f = x := by
  unfold nmAt
  rw [List.getD_eq_getElem?_getD, e]
  rfl
section
variable {K : PySem.W.Frag} {h : Heap} {mg : Str → Option Value} {prog : Program} {src : List Src} {cI : List (Str × Int)} {cS : List (Str × Str)} {clss plain : List Str}
theorem world_ok (X : K.In h) (N : h.Ns mainGlobals mg) (c : SaysM (faOf (src.map (·.name)) cI cS clss plain) (src.map (dOf prog)) plain K) :
    World_ K mg (src.map (rowOf prog)) (globOf src cI cS clss plain) (fun f => He.ga K (nmAt (src.map (·.name)) f)) (fun k => He.ga K (nmAt clss k)) (LOf clss plain) := by
  have c2 : exM plain K = true := c.2.1
  have fact : ∀ {f : He.Fa}, f ∈ faOf (src.map (·.name)) cI cS clss plain → f.ok K = true := fun {f} m => c.1 f m
  have glo : ∀ {x : Str}, x ∈ src.map (·.name) → mg x = some (.ref (He.ga K x)) := fun {x} m => He.glo_ok X N (fact (List.mem_append_left _ (List.mem_map.mpr ⟨x, m, rfl⟩)))
  have bl : ∀ {x : Str}, x ∈ blNames → mg x = none := fun {x} m => He.free_ok X N (fact (List.mem_append_right _ (List.mem_append_left _ (List.mem_map.mpr ⟨x, m, rfl⟩))))
  have cint : ∀ {q : Str × Int}, q ∈ cI → (He.Fa.int q.1 q.2).ok K = true := fun {q} m => fact (List.mem_append_right _ (List.mem_append_right _ (List.mem_append_left _ (List.mem_map.mpr ⟨q, m, rfl⟩))))
  have cstr : ∀ {q : Str × Str}, q ∈ cS → (He.Fa.str q.1 q.2).ok K = true := fun {q} m => fact (List.mem_append_right _ (List.mem_append_right _ (List.mem_append_right _ (List.mem_append_left _ (List.mem_map.mpr ⟨q, m, rfl⟩)))))
  have gloC : ∀ {x : Str}, x ∈ clss → mg x = some (.ref (He.ga K x)) := fun {x} m => He.glo_ok X N (fact (List.mem_append_right _ (List.mem_append_right _ (List.mem_append_right _ (List.mem_append_right _ (List.mem_append_left _ (List.mem_map.mpr ⟨x, m, rfl⟩)))))))
  have exc : ∀ {x : Str}, x ∈ plain → (He.Fa.exc x).ok K = true := fun {x} m => fact (List.mem_append_right _ (List.mem_append_right _ (List.mem_append_right _ (List.mem_append_right _ (List.mem_append_right _ (List.mem_append_left _ (List.mem_map.mpr ⟨x, m, rfl⟩)))))))
  have exm : ∀ {x y : Str}, x ∈ plain → y ∈ plain → (He.Fa.exm x y (x == y)).ok K = true := fun {x y} m m2 => fact (List.mem_append_right _ (List.mem_append_right _ (List.mem_append_right _ (List.mem_append_right _ (List.mem_append_right _ (List.mem_append_right _ (List.mem_flatMap.mpr ⟨x, m, List.mem_map.mpr ⟨y, m2, rfl⟩⟩)))))))
  have getC : ∀ {i : Nat} {x : Str}, clss[i]? = some x → nmAt clss i = x := fun {i x} e => nmAt_of e
  refine ⟨fun f r e => ?_, fun f x e => ?_, ?_, fun p m => ?_, fun x m => ?_, ⟨fun i j b e => ?_, fun i n b e => ?_⟩, fun k x e => ?_, fun k m => ?_⟩
  · rw [List.getElem?_map] at e
    obtain ⟨s, e1, rfl⟩ := Option.map_eq_some_iff.mp e
    obtain ⟨fd, F⟩ := c.2.2 (dOf prog s) (List.mem_map.mpr ⟨s, List.mem_of_getElem? e1, rfl⟩)
    have en : nmAt (src.map (·.name)) f = s.name := nmAt_of (by rw [List.getElem?_map, e1]; rfl)
    refine ⟨fd, ?_⟩
    rw [en]
    exact F
  · have e' : (src.map (·.name))[f]? = some x := e
    have en : nmAt (src.map (·.name)) f = x := nmAt_of e'
    rw [en]
    exact glo (List.mem_of_getElem? e')
  · show (src.map (·.name)).length = (src.map (rowOf prog)).length
    rw [List.length_map, List.length_map]
  · rcases List.mem_append.mp (show p ∈ cI.map (fun p => (p.1, Vi.D.int p.2)) ++ cS.map (fun p => (p.1, Vi.D.str p.2)) from m) with m | m
    · obtain ⟨q, mq, rfl⟩ := List.mem_map.mp m
      obtain ⟨t, e⟩ := He.int_ok X N (cint mq)
      exact ⟨_, .int q.2, e, ⟨t, rfl⟩, rfl⟩
    · obtain ⟨q, mq, rfl⟩ := List.mem_map.mp m
      obtain ⟨t, e⟩ := He.str_ok X N (cstr mq)
      exact ⟨_, .str q.2, e, ⟨t, rfl⟩, rfl⟩
  · exact bl m
  · have e' : (match clss[i]?, clss[j]? with
      | some x, some y => if (plain.contains x && plain.contains y) = true then some (x == y) else none
      | _, _ => none) = some b := e
    cases ei : clss[i]? with
    | none =>
      rw [ei] at e'
      cases e'
    | some x =>
      cases ej : clss[j]? with
      | none =>
        rw [ei, ej] at e'
        cases e'
      | some y =>
        rw [ei, ej] at e'
        obtain ⟨q, rfl⟩ := ifSome e'
        obtain ⟨q1, q2⟩ := and2 q
        show PySem.W.exmOne K (.ref (He.ga K (nmAt clss i))) (.ref (He.ga K (nmAt clss j))) = _
        rw [getC ei, getC ej]
        exact He.exm_ok (exm (by simpa using q1) (by simpa using q2))
  · have e' : (match clss[i]? with
      | some x => if (plain.contains x && n == ("ValueError" : Str)) = true then some true else none
      | none => none) = some b := e
    cases ei : clss[i]? with
    | none =>
      rw [ei] at e'
      cases e'
    | some x =>
      rw [ei] at e'
      obtain ⟨q, rfl⟩ := ifSome e'
      obtain ⟨q1, q2⟩ := and2 q
      have en := beqS q2
      subst en
      obtain ⟨z1, z2⟩ := excCB_ok (List.all_eq_true.mp c2 x (by simpa using q1))
      show ExcC K (He.ga K (nmAt clss i)) ∧ _
      rw [getC ei]
      exact ⟨z1, "ValueError", by decide +kernel, by decide +kernel, by decide +kernel, z2⟩
  · rw [getC e]
    exact gloC (List.mem_of_getElem? e)
  · have m' : k ∈ (List.range clss.length).filter fun i => match clss[i]? with
      | some x => plain.contains x
      | none => false := m
    rw [List.mem_filter] at m'
    obtain ⟨_, m2⟩ := m'
    split at m2
    · rename_i x ex
      obtain ⟨z1, z2, z3, z4⟩ := He.exc_ok (exc (by simpa using m2))
      show ∃ bmB B newId initId, ExcBaseFacts B newId initId bmB ∧ PySem.W.excIn K (He.ga K (nmAt clss k)) bmB newId = true ∧ PySem.W.keepIn K (.ref (He.ga K (nmAt clss k))) = true ∧ _
      rw [getC ex]
      exact ⟨He.veBase, "ValueError", "ValueError.__new__", _, PySem.F.excBase_ValueError, z1, z2, z3, z4⟩
    · cases m2
end
/-! ### the law's end -/
theorem walk_ofW {l : PySem.W.OpenLaw} {n k : Nat} {q : Program} {loose : List Str} {XP : (Str → Option Value) → Heap → Prop} {YP : World → Heap → Prop} {d : DefRec} {CX : World → CXT} {x : Str}
    (hn : l.most = some n) (hn2 : n ≤ sizeLine) (hdf : d.params.defaults = []) (hr : Room k callerA)
    (F : ∀ (w : World) (mg : Str → Option Value) (fa : Addr) (h : Heap), YP w h → h.Ns mainGlobals mg → mg d.name = some (.ref fa) →
      ∃ (K : PySem.W.Frag) (fd : FuncData) (sp : Sp), K.In h ∧ (∀ (s : Shared) (u : Value), BindsTo s fd ⟨[u], []⟩ [(x, u)]) ∧
        (∀ (H : Hp) (a : Addr) (ns : List Int), ns.length ≤ n → Only H → SqL K H a (ns.map V.int) → sp [.ref a] H (fun v _ => v = .bl true) fun _ _ _ => False) ∧
        ∀ base : Heap, K.In base → base.Ns mainGlobals mg → FnOk l.prog w K mg base (CX w) k fa fd [x] sp)
    (hCX : ∀ (w : World) (H : Hp) (s : Shared) (e : Value) (s' : Shared), CX w [] H s (fun _ _ _ => False) e s' → False) :
    PySem.W.WalkO q loose XP YP l.row.toRowW d [] (fun f vs => PySem.call f vs) := by
  refine Att.attach_call hn hdf fun w s₀ s₁ mg mb fa o pm cd doc a vs ns G Y ho hd hcd hmg hobj hints hlen hg => ?_
  obtain ⟨K, fd, sp, KX, hb, hsp, hF⟩ := F w mg fa _ Y G.T.g hmg
  exact law_call KX G.T.g G.T.b G.T.builtins G.T.nolimit hg hobj hints (Nat.le_trans hlen hn2) hr hF hb (fun H hO hS => hsp H a ns hlen hO hS) fun H e s' => hCX w H s₁ e s'
/-- the law, by the interpreter -/
theorem law_ofVi {l : PySem.W.OpenLaw} {k li : Nat} {q : Program} {loose : List Str} {XP : (Str → Option Value) → Heap → Prop} {d : DefRec} {src : List Src} {cI : List (Str × Int)} {cS : List (Str × Str)} {clss plain : List Str} {s : Src} {a : Arg}
    (hn : l.most = some 63) (hdf : d.params.defaults = []) (hr : Room k callerA) (hs : src[li]? = some s) (hname : d.name = s.name) (hnp : s.df.np = 1) (harg : argsOf (dOf l.prog s).params = some [a])
    (hT : (src.map (rowOf l.prog)).all (ckRow (globOf src cI cS clss plain)) = true)
    (hlaw : ∀ ns : List Int, ns.length ≤ 63 → Vi.call (defsOf (src.map (rowOf l.prog))) (LOf clss plain) k li none [.ro (ns.map Vi.D.int)] = some (.ok (.v (.bl true)) none)) :
    PySem.W.WalkO q loose XP (hookM clss (faOf (src.map (·.name)) cI cS clss plain) (src.map (dOf l.prog)) plain).says l.row.toRowW d [] (fun f vs => PySem.call f vs) := by
  refine walk_ofW (n := 63) (k := k) (x := a.arg) (CX := fun w => L2.CX l.prog w) hn (by rw [sizeLine_eq]; omega) hdf hr ?_ (fun w H s e s' z => by
    obtain ⟨_, _, _, _, _, _, _, _, _, _, _, _, z⟩ := z
    exact z)
  intro w mg fa h Y N hmg
  obtain ⟨K, KX, c⟩ := Y
  have Wd := world_ok (prog := l.prog) KX N c
  have hrow : (src.map (rowOf l.prog))[li]? = some (rowOf l.prog s) := by rw [List.getElem?_map, hs]; rfl
  obtain ⟨fd, F⟩ := Wd.fns li _ hrow
  have ep : (dOf l.prog s).params = plainP [a] := argsOf_ok harg
  have hall : ∀ (f : Nat) r, (src.map (rowOf l.prog))[f]? = some r → ckRow (globOf src cI cS clss plain) r = true := fun f r e => List.all_eq_true.mp hT r (List.mem_of_getElem? e)
  have en : He.ga K (nmAt (src.map (·.name)) li) = fa := by
    have e1 := Wd.mgf li s.name (by show (src.map (·.name))[li]? = _; rw [List.getElem?_map, hs]; rfl)
    rw [hname] at hmg
    rw [hmg] at e1
    cases e1
    rfl
  have bnd := binds_ok F ep (by simp)
  refine ⟨K, fd, spF K (fun f => He.ga K (nmAt (src.map (·.name)) f)) (fun k => He.ga K (nmAt clss k)) (Vi.call (defsOf (src.map (rowOf l.prog))) (LOf clss plain) k) (rowOf l.prog s).df.np li, KX, fun st u => ?_, fun H p ns hl hO hS => ?_, fun base KB NB => ?_⟩
  · exact (FunD.bindsA (ps := [a.arg]) F fun kV doc pm an cdv ct us hl => by
      rw [show (rowOf l.prog s).d.params = plainP [a] from ep]
      exact bind_plain hl (by simp)) st [u] rfl
  · have rv : RV K (fun f => He.ga K (nmAt (src.map (·.name)) f)) H (.ref p) (.ro (ns.map Vi.D.int)) := .ro hS (RVs.ofInts ns)
    refine ⟨by rw [show (rowOf l.prog s).df.np = 1 from hnp]; rfl, H, none, [.ro (ns.map Vi.D.int)], none, Le.rf, .cons rv .nil, ?_⟩
    rw [hlaw ns hl]
    intro v S' H' ce nr
    cases nr
    rfl
  · have := all_ok (P := l.prog) (w := w) (base := base) Wd hall k li _ hrow fd [a] F ep
    rw [en] at this
    exact this
end Vi
set_option Elab.async false
set_option linter.all false
set_option maxRecDepth 100000
set_option maxHeartbeats 0
namespace Law
open Vi
def d_is_number : Vi.Src := ⟨"is_number", 6, ["thing"], ⟨false, 1, 1, (.cons (.ret (.and (.isi (.var 0) .int) (.not (.isi (.var 0) .bool)))) .nil)⟩⟩
def d_is_within : Vi.Src := ⟨"is_within", 7, ["thing", "least", "most"], ⟨false, 3, 3, (.cons (.ret (.and (.call 0 (.cons (.var 0) .nil)) (.chain .le .le (.var 1) (.var 0) (.var 2)))) .nil)⟩⟩
def d_ascends : Vi.Src := ⟨"ascends", 8, ["row", "one", "other"], ⟨false, 1, 3, (.cons (.ret (.prim .all (.cons (.lc [1, 2] [1, 2] true (.zip (.var 0) (.sli (.var 0) (.so (.lit (.int 1))) .no)) .no (.op .lt (.var 1) (.var 2))) .nil))) .nil)⟩⟩
def d_tupled : Vi.Src := ⟨"tupled", 9, ["value", "own"], ⟨false, 1, 2, (.cons (.ret (.ite (.isi (.var 0) .listTuple) (.prim .tuple (.cons (.lc [1] [1] false (.ov (.var 0)) .no (.call 3 (.cons (.var 1) .nil))) .nil)) (.var 0))) .nil)⟩⟩
def d_sure_within : Vi.Src := ⟨"sure_within", 10, ["thing", "least", "most"], ⟨false, 3, 3, (.cons (.ite (.not (.call 1 (.cons (.var 0) (.cons (.var 1) (.cons (.var 2) .nil))))) (.cons (.raise 3 .nil) .nil) .nil) (.cons (.ret (.var 0)) .nil))⟩⟩
def d_is_comparer_in : Vi.Src := ⟨"is_comparer_in", 16, ["lines", "thing", "own"], ⟨false, 2, 3, (.cons (.ite (.or (.not (.isi (.var 1) .tuple)) (.or (.op .ne (.prim .len (.cons (.var 1) .nil)) (.lit (.int 2))) (.not (.prim .all (.cons (.lc [2] [2] false (.ov (.var 1)) .no (.call 1 (.cons (.var 2) (.cons (.lit (.int 0)) (.cons (.op .sub (.var 0) (.lit (.int 1))) .nil))))) .nil))))) (.cons (.ret (.lit (.bl false))) .nil) .nil) (.cons (.ret (.op .lt (.op .ix (.var 1) (.lit (.int 0))) (.op .ix (.var 1) (.lit (.int 1))))) .nil))⟩⟩
def d_is_net_in : Vi.Src := ⟨"is_net_in", 17, ["thing", "own"], ⟨false, 1, 2, (.cons (.ite (.or (.not (.isi (.var 0) .tuple)) (.or (.op .ne (.prim .len (.cons (.var 0) .nil)) (.lit (.int 2))) (.not (.call 1 (.cons (.op .ix (.var 0) (.lit (.int 0))) (.cons (.lit (.int 1)) (.cons (.glb "MOST_LINES" (.int 24)) .nil))))))) (.cons (.ret (.lit (.bl false))) .nil) .nil) (.cons (.ite (.or (.not (.isi (.op .ix (.var 0) (.lit (.int 1))) .tuple)) (.op .gt (.prim .len (.cons (.op .ix (.var 0) (.lit (.int 1))) .nil)) (.glb "MOST_COMPARERS" (.int 800)))) (.cons (.ret (.lit (.bl false))) .nil) .nil) (.cons (.ret (.prim .all (.cons (.lc [1] [1] false (.ov (.op .ix (.var 0) (.lit (.int 1)))) .no (.call 5 (.cons (.op .ix (.var 0) (.lit (.int 0))) (.cons (.var 1) .nil)))) .nil))) .nil)))⟩⟩
def d_sure_net : Vi.Src := ⟨"sure_net", 18, ["value", "own"], ⟨false, 1, 2, (.cons (.asg (.nm 1) (.call 3 (.cons (.var 0) .nil))) (.cons (.ite (.not (.call 6 (.cons (.var 1) .nil))) (.cons (.raise 3 .nil) .nil) .nil) (.cons (.ret (.var 1)) .nil)))⟩⟩
def d_is_row_in : Vi.Src := ⟨"is_row_in", 19, ["thing", "own"], ⟨false, 1, 2, (.cons (.ite (.or (.not (.isi (.var 0) .tuple)) (.not (.chain .le .le (.lit (.int 1)) (.prim .len (.cons (.var 0) .nil)) (.glb "MOST_LINES" (.int 24))))) (.cons (.ret (.lit (.bl false))) .nil) .nil) (.cons (.ret (.prim .all (.cons (.lc [1] [1] false (.ov (.var 0)) .no (.call 1 (.cons (.var 1) (.cons (.neg (.glb "MOST_HELD" (.int 1000000))) (.cons (.glb "MOST_HELD" (.int 1000000)) .nil))))) .nil))) .nil))⟩⟩
def d_sure_any_row : Vi.Src := ⟨"sure_any_row", 20, ["value", "own"], ⟨false, 1, 2, (.cons (.asg (.nm 1) (.call 3 (.cons (.var 0) .nil))) (.cons (.ite (.not (.call 8 (.cons (.var 1) .nil))) (.cons (.raise 3 .nil) .nil) .nil) (.cons (.ret (.var 1)) .nil)))⟩⟩
def d_sure_row : Vi.Src := ⟨"sure_row", 21, ["lines", "value", "own"], ⟨false, 2, 3, (.cons (.asg (.nm 2) (.call 9 (.cons (.var 1) .nil))) (.cons (.ite (.op .ne (.prim .len (.cons (.var 2) .nil)) (.var 0)) (.cons (.raise 3 .nil) .nil) .nil) (.cons (.ret (.var 2)) .nil)))⟩⟩
def d_is_in_order : Vi.Src := ⟨"is_in_order", 22, ["row", "one", "other"], ⟨false, 1, 3, (.cons (.ret (.prim .all (.cons (.lc [1, 2] [1, 2] true (.zip (.var 0) (.sli (.var 0) (.so (.lit (.int 1))) .no)) .no (.op .le (.var 1) (.var 2))) .nil))) .nil)⟩⟩
def d_compared : Vi.Src := ⟨"compared", 23, ["row", "comparer", "one", "other", "found"], ⟨false, 2, 5, (.cons (.unp [.nm 2, .nm 3] (.var 1)) (.cons (.ite (.op .le (.op .ix (.var 0) (.var 2)) (.op .ix (.var 0) (.var 3))) (.cons (.ret (.var 0)) .nil) .nil) (.cons (.asg (.nm 4) (.prim .list (.cons (.var 0) .nil))) (.cons (.unp [.sub 4 (.var 2), .sub 4 (.var 3)] (.tup (.cons (.op .ix (.var 0) (.var 3)) (.cons (.op .ix (.var 0) (.var 2)) .nil)))) (.cons (.ret (.prim .tuple (.cons (.var 4) .nil))) .nil)))))⟩⟩
def d_made_in : Vi.Src := ⟨"made_in", 24, ["net", "row", "found", "one", "other"], ⟨false, 2, 5, (.cons (.asg (.nm 2) (.prim .list (.cons (.var 1) .nil))) (.cons (.for_ [3, 4] true (.ov (.op .ix (.var 0) (.lit (.int 1)))) (.cons (.ite (.op .gt (.op .ix (.var 2) (.var 3)) (.op .ix (.var 2) (.var 4))) (.cons (.unp [.sub 2 (.var 3), .sub 2 (.var 4)] (.tup (.cons (.op .ix (.var 2) (.var 4)) (.cons (.op .ix (.var 2) (.var 3)) .nil)))) .nil) .nil) .nil)) (.cons (.ret (.prim .tuple (.cons (.var 2) .nil))) .nil)))⟩⟩
def d_steps_in : Vi.Src := ⟨"steps_in", 25, ["net", "row", "found", "here", "own"], ⟨false, 2, 5, (.cons (.par [2, 3] (.cons (.lst .nil) (.cons (.var 1) .nil))) (.cons (.for_ [4] false (.ov (.op .ix (.var 0) (.lit (.int 1)))) (.cons (.asg (.nm 3) (.call 12 (.cons (.var 3) (.cons (.var 4) .nil)))) (.cons (.ex (.mut .append 2 (.cons (.var 3) .nil))) .nil))) (.cons (.ret (.var 2)) .nil)))⟩⟩
def d_exchanging_in : Vi.Src := ⟨"exchanging_in", 26, ["net", "row", "rows", "place"], ⟨false, 2, 4, (.cons (.asg (.nm 2) (.op .add (.lst (.cons (.var 1) .nil)) (.call 14 (.cons (.var 0) (.cons (.var 1) .nil))))) (.cons (.ret (.lc [3] [3] false (.rng (.cons (.prim .len (.cons (.op .ix (.var 0) (.lit (.int 1))) .nil)) .nil)) (.so (.op .ne (.op .ix (.var 2) (.var 3)) (.op .ix (.var 2) (.op .add (.var 3) (.lit (.int 1)))))) (.var 3))) .nil))⟩⟩
def d_cut_in : Vi.Src := ⟨"cut_in", 27, ["row", "number", "own"], ⟨false, 2, 3, (.cons (.ret (.prim .tuple (.cons (.lc [2] [2] false (.ov (.var 0)) .no (.prim .int (.cons (.op .ge (.var 2) (.var 1)) .nil))) .nil))) .nil)⟩⟩
def d_bits_of : Vi.Src := ⟨"bits_of", 28, ["lines", "found", "own", "bits", "mark"], ⟨false, 1, 5, (.cons (.asg (.nm 1) (.lst (.cons (.tup .nil) .nil))) (.cons (.for_ [2] false (.rng (.cons (.var 0) .nil)) (.cons .never .nil)) (.cons (.ret (.var 1)) .nil)))⟩⟩
def d_layers_in : Vi.Src := ⟨"layers_in", 29, ["net", "ready", "found", "one", "other", "layer"], ⟨false, 1, 6, (.cons (.par [1, 2] (.cons (.op .mul (.lst (.cons (.lit (.int 0)) .nil)) (.op .ix (.var 0) (.lit (.int 0)))) (.cons (.lst .nil) .nil))) (.cons (.for_ [3, 4] true (.ov (.op .ix (.var 0) (.lit (.int 1)))) (.cons (.asg (.nm 5) (.prim .max (.cons (.op .ix (.var 1) (.var 3)) (.cons (.op .ix (.var 1) (.var 4)) .nil)))) (.cons (.ite (.op .eq (.var 5) (.prim .len (.cons (.var 2) .nil))) (.cons (.ex (.mut .append 2 (.cons (.lst .nil) .nil))) .nil) .nil) (.cons (.ex .never) (.cons (.unp [.sub 1 (.var 3), .sub 1 (.var 4)] (.tup (.cons (.op .add (.var 5) (.lit (.int 1))) (.cons (.op .add (.var 5) (.lit (.int 1))) .nil)))) .nil))))) (.cons (.ret (.var 2)) .nil)))⟩⟩
def d_mirrored_in : Vi.Src := ⟨"mirrored_in", 30, ["net", "last", "one", "other"], ⟨false, 1, 4, (.cons (.asg (.nm 1) (.op .sub (.op .ix (.var 0) (.lit (.int 0))) (.lit (.int 1)))) (.cons (.ret (.tup (.cons (.op .ix (.var 0) (.lit (.int 0))) (.cons (.prim .tuple (.cons (.lc [2, 3] [2, 3] true (.ov (.op .ix (.var 0) (.lit (.int 1)))) .no (.tup (.cons (.op .sub (.var 1) (.var 3)) (.cons (.op .sub (.var 1) (.var 2)) .nil)))) .nil)) .nil)))) .nil))⟩⟩
def d_straight_in : Vi.Src := ⟨"straight_in", 31, ["lines", "pairs", "there", "found", "one", "other", "low", "high"], ⟨false, 2, 8, (.cons (.par [2, 3] (.cons (.prim .listR (.cons (.var 0) .nil)) (.cons (.lst .nil) .nil))) (.cons (.for_ [4, 5] true (.ov (.var 1)) (.cons (.unp [.nm 6, .nm 7] .never) (.cons (.ex (.mut .append 3 (.cons (.tup (.cons (.var 6) (.cons (.var 7) .nil))) .nil))) (.cons (.unp [.sub 2 (.var 4), .sub 2 (.var 5)] (.tup (.cons (.var 6) (.cons (.var 7) .nil)))) .nil)))) (.cons (.ret (.tup (.cons (.tup (.cons (.var 0) (.cons (.prim .tuple (.cons (.var 3) .nil)) .nil))) (.cons (.prim .tuple (.cons (.var 2) .nil)) .nil)))) .nil)))⟩⟩
def d_in_order : Vi.Src := ⟨"in_order", 32, ["row"], ⟨false, 1, 1, (.cons (.ret (.call 11 (.cons (.call 9 (.cons (.var 0) .nil)) .nil))) .nil)⟩⟩
def d_made : Vi.Src := ⟨"made", 33, ["net", "row", "own"], ⟨false, 2, 3, (.cons (.asg (.nm 2) (.call 7 (.cons (.var 0) .nil))) (.cons (.ret (.call 13 (.cons (.var 2) (.cons (.call 10 (.cons (.op .ix (.var 2) (.lit (.int 0))) (.cons (.var 1) .nil))) .nil)))) .nil))⟩⟩
def d_steps_made : Vi.Src := ⟨"steps_made", 34, ["net", "row", "own"], ⟨false, 2, 3, (.cons (.asg (.nm 2) (.call 7 (.cons (.var 0) .nil))) (.cons (.ret (.call 14 (.cons (.var 2) (.cons (.call 10 (.cons (.op .ix (.var 2) (.lit (.int 0))) (.cons (.var 1) .nil))) .nil)))) .nil))⟩⟩
def d_exchanged : Vi.Src := ⟨"exchanged", 35, ["net", "row", "own"], ⟨false, 2, 3, (.cons (.asg (.nm 2) (.call 7 (.cons (.var 0) .nil))) (.cons (.ret (.prim .tuple (.cons (.call 15 (.cons (.var 2) (.cons (.call 10 (.cons (.op .ix (.var 2) (.lit (.int 0))) (.cons (.var 1) .nil))) .nil))) .nil))) .nil))⟩⟩
def d_cut : Vi.Src := ⟨"cut", 36, ["row", "number", "own"], ⟨false, 2, 3, (.cons (.asg (.nm 2) (.call 9 (.cons (.var 0) .nil))) (.cons (.ret (.call 16 (.cons (.var 2) (.cons (.call 4 (.cons (.var 1) (.cons (.neg (.glb "MOST_HELD" (.int 1000000))) (.cons (.glb "MOST_HELD" (.int 1000000)) .nil)))) .nil)))) .nil))⟩⟩
def d_layers : Vi.Src := ⟨"layers", 37, ["net", "own"], ⟨false, 1, 2, (.cons (.ret (.prim .tuple (.cons (.lc [1] [1] false (.ov (.call 18 (.cons (.call 7 (.cons (.var 0) .nil)) .nil))) .no (.prim .tuple (.cons (.var 1) .nil))) .nil))) .nil)⟩⟩
def d_depth : Vi.Src := ⟨"depth", 38, ["net"], ⟨false, 1, 1, (.cons (.ret (.prim .len (.cons (.call 18 (.cons (.call 7 (.cons (.var 0) .nil)) .nil)) .nil))) .nil)⟩⟩
def d_mirrored : Vi.Src := ⟨"mirrored", 39, ["net"], ⟨false, 1, 1, (.cons (.ret (.call 19 (.cons (.call 7 (.cons (.var 0) .nil)) .nil))) .nil)⟩⟩
def d_put_behind : Vi.Src := ⟨"put_behind", 40, ["one", "other", "first", "second"], ⟨false, 2, 4, (.cons (.par [2, 3] (.cons (.call 7 (.cons (.var 0) .nil)) (.cons (.call 7 (.cons (.var 1) .nil)) .nil))) (.cons (.ite (.op .ne (.op .ix (.var 2) (.lit (.int 0))) (.op .ix (.var 3) (.lit (.int 0)))) (.cons (.raise 1 .nil) .nil) .nil) (.cons (.ite (.op .gt (.op .add (.prim .len (.cons (.op .ix (.var 2) (.lit (.int 1))) .nil)) (.prim .len (.cons (.op .ix (.var 3) (.lit (.int 1))) .nil))) (.glb "MOST_COMPARERS" (.int 800))) (.cons (.raise 2 .nil) .nil) .nil) (.cons (.ret (.tup (.cons (.op .ix (.var 2) (.lit (.int 0))) (.cons (.op .add (.op .ix (.var 2) (.lit (.int 1))) (.op .ix (.var 3) (.lit (.int 1)))) .nil)))) .nil))))⟩⟩
def d_put_beside : Vi.Src := ⟨"put_beside", 41, ["one", "other", "first", "second", "near", "far"], ⟨false, 2, 6, (.cons (.par [2, 3] (.cons (.call 7 (.cons (.var 0) .nil)) (.cons (.call 7 (.cons (.var 1) .nil)) .nil))) (.cons (.ite (.or (.op .gt (.op .add (.op .ix (.var 2) (.lit (.int 0))) (.op .ix (.var 3) (.lit (.int 0)))) (.glb "MOST_LINES" (.int 24))) (.op .gt (.op .add (.prim .len (.cons (.op .ix (.var 2) (.lit (.int 1))) .nil)) (.prim .len (.cons (.op .ix (.var 3) (.lit (.int 1))) .nil))) (.glb "MOST_COMPARERS" (.int 800)))) (.cons (.raise 2 .nil) .nil) .nil) (.cons (.ret (.tup (.cons (.op .add (.op .ix (.var 2) (.lit (.int 0))) (.op .ix (.var 3) (.lit (.int 0)))) (.cons (.op .add (.op .ix (.var 2) (.lit (.int 1))) (.prim .tuple (.cons (.lc [4, 5] [4, 5] true (.ov (.op .ix (.var 3) (.lit (.int 1)))) .no (.tup (.cons (.op .add (.var 4) (.op .ix (.var 2) (.lit (.int 0)))) (.cons (.op .add (.var 5) (.op .ix (.var 2) (.lit (.int 0)))) .nil)))) .nil))) .nil)))) .nil)))⟩⟩
def d_idle : Vi.Src := ⟨"idle", 42, ["net", "own", "left", "rows", "place", "comparer", "later", "row"], ⟨false, 1, 8, (.cons (.asg (.nm 1) (.call 7 (.cons (.var 0) .nil))) (.cons (.ite (.op .gt (.op .ix (.var 1) (.lit (.int 0))) (.glb "MOST_LOOKED" (.int 12))) (.cons (.raise 2 .nil) .nil) .nil) (.cons (.par [2, 3] (.cons (.lst .nil) (.cons (.call 17 (.cons (.op .ix (.var 1) (.lit (.int 0))) .nil)) .nil))) (.cons (.for_ [4, 5] true (.enm (.op .ix (.var 1) (.lit (.int 1)))) (.cons (.asg (.nm 6) (.prim .sortedSet (.cons (.lc [7] [7] false (.ov (.var 3)) .no (.call 12 (.cons (.var 7) (.cons (.var 5) .nil)))) .nil))) (.cons (.ite (.op .eq (.var 6) (.var 3)) (.cons (.ex (.mut .append 2 (.cons (.var 4) .nil))) .nil) .nil) (.cons (.asg (.nm 3) (.var 6)) .nil)))) (.cons (.ret (.prim .tuple (.cons (.var 2) .nil))) .nil)))))⟩⟩
def d_straight : Vi.Src := ⟨"straight", 43, ["lines", "pairs", "many", "own", "pair"], ⟨false, 2, 5, (.cons (.par [2, 3] (.cons (.call 4 (.cons (.var 0) (.cons (.lit (.int 1)) (.cons (.glb "MOST_LINES" (.int 24)) .nil)))) (.cons (.call 3 (.cons (.var 1) .nil)) .nil))) (.cons (.ite (.or (.not (.isi (.var 3) .tuple)) (.op .gt (.prim .len (.cons (.var 3) .nil)) (.glb "MOST_COMPARERS" (.int 800)))) (.cons (.raise 3 .nil) .nil) .nil) (.cons (.ite (.not (.prim .all (.cons (.lc [4] [4] false (.ov (.var 3)) .no (.or (.call 5 (.cons (.var 2) (.cons (.var 4) .nil))) (.call 33 (.cons (.var 2) (.cons (.var 4) .nil))))) .nil))) (.cons (.raise 3 .nil) .nil) .nil) (.cons (.ret (.call 20 (.cons (.var 2) (.cons (.var 3) .nil)))) .nil))))⟩⟩
def d_is_turned_in : Vi.Src := ⟨"is_turned_in", 44, ["lines", "thing"], ⟨false, 2, 2, (.cons (.ret (.and (.isi (.var 1) .tuple) (.and (.op .eq (.prim .len (.cons (.var 1) .nil)) (.lit (.int 2))) (.call 5 (.cons (.var 0) (.cons (.sls (.var 1) none (-1)) .nil)))))) .nil)⟩⟩
def d_is_bits_in : Vi.Src := ⟨"is_bits_in", 46, ["thing", "own"], ⟨false, 1, 2, (.cons (.ite (.or (.not (.isi (.var 0) .tuple)) (.not (.chain .le .le (.lit (.int 1)) (.prim .len (.cons (.var 0) .nil)) (.glb "MOST_LINES" (.int 24))))) (.cons (.ret (.lit (.bl false))) .nil) .nil) (.cons (.ret (.prim .all (.cons (.lc [1] [1] false (.ov (.var 0)) .no (.call 1 (.cons (.var 1) (.cons (.lit (.int 0)) (.cons (.lit (.int 1)) .nil))))) .nil))) .nil))⟩⟩
def d_sure_bits : Vi.Src := ⟨"sure_bits", 47, ["value", "own"], ⟨false, 1, 2, (.cons (.asg (.nm 1) (.call 3 (.cons (.var 0) .nil))) (.cons (.ite (.not (.call 34 (.cons (.var 1) .nil))) (.cons (.raise 3 .nil) .nil) .nil) (.cons (.ret (.var 1)) .nil)))⟩⟩
def d_sure_few : Vi.Src := ⟨"sure_few", 48, ["lines"], ⟨false, 1, 1, (.cons (.ite (.op .gt (.var 0) (.glb "MOST_LOOKED" (.int 12))) (.cons (.raise 2 .nil) .nil) .nil) (.cons (.ret (.var 0)) .nil))⟩⟩
def d_unsorted_in : Vi.Src := ⟨"unsorted_in", 49, ["lines", "own"], ⟨false, 1, 2, (.cons (.ret (.lc [1] [1] false (.ov (.call 17 (.cons (.var 0) .nil))) (.so (.not (.call 11 (.cons (.var 1) .nil)))) (.var 1))) .nil)⟩⟩
def d_failing_in : Vi.Src := ⟨"failing_in", 50, ["net", "own"], ⟨false, 1, 2, (.cons (.ret (.lc [1] [1] false (.ov (.call 37 (.cons (.op .ix (.var 0) (.lit (.int 0))) .nil))) (.so (.not (.call 11 (.cons (.call 13 (.cons (.var 0) (.cons (.var 1) .nil))) .nil)))) (.var 1))) .nil)⟩⟩
def d_lone_made_in : Vi.Src := ⟨"lone_made_in", 51, ["bits", "many"], ⟨false, 1, 2, (.cons (.asg (.nm 1) (.prim .sum (.cons (.var 0) .nil))) (.cons (.ret (.op .add (.op .add (.op .mul (.tup (.cons (.lit (.int 0)) .nil)) (.op .sub (.op .sub (.prim .len (.cons (.var 0) .nil)) (.var 1)) (.lit (.int 1)))) (.tup (.cons (.lit (.int 1)) (.cons (.lit (.int 0)) .nil)))) (.op .mul (.tup (.cons (.lit (.int 1)) .nil)) (.op .sub (.var 1) (.lit (.int 1)))))) .nil))⟩⟩
def d_shifted : Vi.Src := ⟨"shifted", 52, ["comparers", "line", "moved", "near", "far"], ⟨false, 2, 5, (.cons (.asg (.nm 2) (.lc [3, 4] [3, 4] true (.ov (.var 0)) .no (.tup (.cons (.op .add (.var 3) (.prim .int (.cons (.op .ge (.var 3) (.var 1)) .nil))) (.cons (.op .add (.var 4) (.prim .int (.cons (.op .ge (.var 4) (.var 1)) .nil))) .nil))))) (.cons (.ret (.var 2)) .nil))⟩⟩
def d_without : Vi.Src := ⟨"without", 53, ["bits", "line"], ⟨false, 2, 2, (.cons (.ret (.op .add (.sli (.var 0) .no (.so (.var 1))) (.sli (.var 0) (.so (.op .add (.var 1) (.lit (.int 1)))) .no))) .nil)⟩⟩
def d_lone_in : Vi.Src := ⟨"lone_in", 54, ["bits", "lines", "last", "near", "turned", "line", "inner", "own"], ⟨false, 1, 8, (.cons (.asg (.nm 1) (.prim .len (.cons (.var 0) .nil))) (.cons (.asg (.nm 2) (.op .sub (.var 1) (.lit (.int 1)))) (.cons (.ite (.op .eq (.var 1) (.lit (.int 2))) (.cons (.ret (.lst .nil)) .nil) .nil) (.cons (.ite (.op .eq (.op .ix (.var 0) (.lit (.int 0))) (.lit (.int 0))) (.cons (.ret (.op .add (.call 40 (.cons (.call 42 (.cons (.sli (.var 0) (.so (.lit (.int 1))) .no) .nil)) (.cons (.lit (.int 0)) .nil))) (.lc [7] [7] false (.rng (.cons (.var 2) (.cons (.lit (.int 0)) (.cons (.neg (.lit (.int 1))) .nil)))) .no (.tup (.cons (.lit (.int 0)) (.cons (.var 7) .nil)))))) .nil) .nil) (.cons (.ite (.op .eq (.op .ix (.var 0) (.var 2)) (.lit (.int 1))) (.cons (.ret (.op .add (.call 42 (.cons (.sli (.var 0) .no (.so (.var 2))) .nil)) (.lc [7] [7] false (.rng (.cons (.var 2) .nil)) .no (.tup (.cons (.var 7) (.cons (.var 2) .nil)))))) .nil) .nil) (.cons (.asg (.nm 3) (.lc [7] [7] false (.rng (.cons (.var 2) .nil)) (.so (.and (.op .eq (.op .ix (.var 0) (.var 7)) (.lit (.int 0))) (.op .le (.var 7) (.op .sub (.var 1) (.prim .sum (.cons (.var 0) .nil)))))) (.var 7))) (.cons (.ite (.op .eq (.var 3) (.lst .nil)) (.cons (.asg (.nm 4) (.prim .tuple (.cons (.lc [7] [7] false (.ov (.sls (.var 0) none (-1))) .no (.op .sub (.lit (.int 1)) (.var 7))) .nil))) (.cons (.ret (.prim .list (.cons (.op .ix (.call 19 (.cons (.tup (.cons (.var 1) (.cons (.prim .tuple (.cons (.call 42 (.cons (.var 4) .nil)) .nil)) .nil))) .nil)) (.lit (.int 1))) .nil))) .nil)) .nil) (.cons (.asg (.nm 5) (.op .ix (.var 3) (.lit (.int 0)))) (.cons (.asg (.nm 6) (.call 40 (.cons (.call 42 (.cons (.call 41 (.cons (.var 0) (.cons (.var 5) .nil))) .nil)) (.cons (.var 5) .nil)))) (.cons (.ret (.op .add (.op .add (.op .add (.lst (.cons (.tup (.cons (.var 5) (.cons (.var 2) .nil))) .nil)) (.var 6)) (.lc [7] [7] false (.rng (.cons (.var 2) (.cons (.var 5) (.cons (.neg (.lit (.int 1))) .nil)))) .no (.tup (.cons (.var 5) (.cons (.var 7) .nil))))) (.call 43 (.cons (.var 5) .nil)))) .nil))))))))))⟩⟩
def d_led_down : Vi.Src := ⟨"led_down", 55, ["line", "own"], ⟨false, 1, 2, (.cons (.ret (.lc [1] [1] false (.rng (.cons (.var 0) (.cons (.lit (.int 0)) (.cons (.neg (.lit (.int 1))) .nil)))) .no (.tup (.cons (.op .sub (.var 1) (.lit (.int 1))) (.cons (.var 1) .nil))))) .nil)⟩⟩
def d_first_unsorted_in : Vi.Src := ⟨"first_unsorted_in", 56, ["net", "found"], ⟨false, 1, 2, (.cons (.asg (.nm 1) (.call 38 (.cons (.var 0) .nil))) (.cons (.ret (.ite (.op .ne (.var 1) (.lst .nil)) (.op .ix (.var 1) (.lit (.int 0))) (.lit .non))) .nil))⟩⟩
def d_sure_unsorted : Vi.Src := ⟨"sure_unsorted", 57, ["value", "own"], ⟨false, 1, 2, (.cons (.asg (.nm 1) (.call 35 (.cons (.var 0) .nil))) (.cons (.ite (.call 11 (.cons (.var 1) .nil)) (.cons (.raise 1 .nil) .nil) .nil) (.cons (.ret (.var 1)) .nil)))⟩⟩
def d_are_bits_set_in : Vi.Src := ⟨"are_bits_set_in", 58, ["lines", "thing", "own"], ⟨false, 2, 3, (.cons (.ite (.or (.not (.isi (.var 1) .tuple)) (.not (.prim .all (.cons (.lc [2] [2] false (.ov (.var 1)) .no (.and (.call 34 (.cons (.var 2) .nil)) (.op .eq (.prim .len (.cons (.var 2) .nil)) (.var 0)))) .nil)))) (.cons (.ret (.lit (.bl false))) .nil) .nil) (.cons (.ret (.call 2 (.cons (.var 1) .nil))) .nil))⟩⟩
def d_missing_in : Vi.Src := ⟨"missing_in", 59, ["lines", "some", "known", "left", "own"], ⟨false, 2, 5, (.cons .never (.cons (.asg (.nm 3) (.lc [4] [4] false (.ov (.call 37 (.cons (.var 0) .nil))) (.so (.op .notin (.var 4) (.var 2))) (.var 4))) (.cons (.ret (.ite (.op .ne (.var 3) (.lst .nil)) (.op .ix (.var 3) (.lit (.int 0))) (.lit .non))) .nil)))⟩⟩
def d_unsorted_bits : Vi.Src := ⟨"unsorted_bits", 60, ["lines"], ⟨false, 1, 1, (.cons (.ret (.call 37 (.cons (.call 36 (.cons (.call 4 (.cons (.var 0) (.cons (.lit (.int 1)) (.cons (.glb "MOST_LINES" (.int 24)) .nil)))) .nil)) .nil))) .nil)⟩⟩
def d_unsorted_by : Vi.Src := ⟨"unsorted_by", 61, ["net", "own"], ⟨false, 1, 2, (.cons (.asg (.nm 1) (.call 7 (.cons (.var 0) .nil))) (.cons (.ex (.call 36 (.cons (.op .ix (.var 1) (.lit (.int 0))) .nil))) (.cons (.ret (.call 38 (.cons (.var 1) .nil))) .nil)))⟩⟩
def d_sorts_all : Vi.Src := ⟨"sorts_all", 62, ["net"], ⟨false, 1, 1, (.cons (.ret (.op .eq (.call 49 (.cons (.var 0) .nil)) (.lst .nil))) .nil)⟩⟩
def d_first_unsorted : Vi.Src := ⟨"first_unsorted", 63, ["net", "own"], ⟨false, 1, 2, (.cons (.asg (.nm 1) (.call 7 (.cons (.var 0) .nil))) (.cons (.ex (.call 36 (.cons (.op .ix (.var 1) (.lit (.int 0))) .nil))) (.cons (.ret (.call 44 (.cons (.var 1) .nil))) .nil)))⟩⟩
def d_cut_unsorted : Vi.Src := ⟨"cut_unsorted", 64, ["net", "row", "own", "told", "number", "bits"], ⟨false, 2, 6, (.cons (.asg (.nm 2) (.call 7 (.cons (.var 0) .nil))) (.cons (.asg (.nm 3) (.call 10 (.cons (.op .ix (.var 2) (.lit (.int 0))) (.cons (.var 1) .nil)))) (.cons (.for_ [4] false (.ov (.prim .sortedSet (.cons (.var 3) .nil))) (.cons (.asg (.nm 5) (.call 16 (.cons (.var 3) (.cons (.var 4) .nil)))) (.cons (.ite (.not (.call 11 (.cons (.call 13 (.cons (.var 2) (.cons (.var 5) .nil))) .nil))) (.cons (.ret (.var 5)) .nil) .nil) .nil))) (.cons (.raise 1 .nil) .nil))))⟩⟩
def d_row_of_bits : Vi.Src := ⟨"row_of_bits", 65, ["bits", "own", "lines", "line", "mark"], ⟨false, 1, 5, (.cons (.asg (.nm 1) (.call 35 (.cons (.var 0) .nil))) (.cons (.asg (.nm 2) (.op .add (.lc [3, 4] [3, 4] true (.enm (.var 1)) (.so (.op .eq (.var 4) (.lit (.int 0)))) (.var 3)) (.lc [3, 4] [3, 4] true (.enm (.var 1)) (.so (.op .eq (.var 4) (.lit (.int 1)))) (.var 3)))) (.cons (.ret (.prim .tuple (.cons (.lc [3] [3] false (.rng (.cons (.prim .len (.cons (.var 1) .nil)) .nil)) .no .never) .nil))) .nil)))⟩⟩
def d_lone_net : Vi.Src := ⟨"lone_net", 66, ["bits", "own"], ⟨false, 1, 2, (.cons (.asg (.nm 1) (.call 45 (.cons (.var 0) .nil))) (.cons (.ret (.tup (.cons (.prim .len (.cons (.var 1) .nil)) (.cons (.prim .tuple (.cons (.call 42 (.cons (.var 1) .nil)) .nil)) .nil)))) .nil))⟩⟩
def d_lone_made : Vi.Src := ⟨"lone_made", 67, ["bits"], ⟨false, 1, 1, (.cons (.ret (.call 39 (.cons (.call 45 (.cons (.var 0) .nil)) .nil))) .nil)⟩⟩
def d_is_lone_net : Vi.Src := ⟨"is_lone_net", 68, ["bits", "thing", "own"], ⟨false, 2, 3, (.cons (.asg (.nm 2) (.call 45 (.cons (.var 0) .nil))) (.cons (.ex (.call 36 (.cons (.prim .len (.cons (.var 2) .nil)) .nil))) (.cons (.ret (.and (.call 6 (.cons (.var 1) .nil)) (.and (.op .eq (.op .ix (.var 1) (.lit (.int 0))) (.prim .len (.cons (.var 2) .nil))) (.op .eq (.call 38 (.cons (.var 1) .nil)) (.lst (.cons (.var 2) .nil)))))) .nil)))⟩⟩
def d_sure_bits_set : Vi.Src := ⟨"sure_bits_set", 69, ["lines", "value", "own"], ⟨false, 2, 3, (.cons (.asg (.nm 2) (.call 3 (.cons (.var 1) .nil))) (.cons (.ite (.not (.call 46 (.cons (.var 0) (.cons (.var 2) .nil)))) (.cons (.raise 3 .nil) .nil) .nil) (.cons (.ret (.var 2)) .nil)))⟩⟩
def d_missing_bits : Vi.Src := ⟨"missing_bits", 70, ["lines", "some", "many", "own"], ⟨false, 2, 4, (.cons (.asg (.nm 2) (.call 4 (.cons (.var 0) (.cons (.lit (.int 1)) (.cons (.glb "MOST_LINES" (.int 24)) .nil))))) (.cons (.asg (.nm 3) (.call 57 (.cons (.var 2) (.cons (.var 1) .nil)))) (.cons (.ret (.call 47 (.cons (.call 36 (.cons (.var 2) .nil)) (.cons (.var 3) .nil)))) .nil)))⟩⟩
def d_tells_all : Vi.Src := ⟨"tells_all", 71, ["lines", "some"], ⟨false, 2, 2, (.cons (.ret (.isN (.call 58 (.cons (.var 0) (.cons (.var 1) .nil))) false)) .nil)⟩⟩
def d_is_perm_in : Vi.Src := ⟨"is_perm_in", 75, ["thing", "own"], ⟨false, 1, 2, (.cons (.ite (.or (.not (.isi (.var 0) .tuple)) (.not (.chain .le .le (.lit (.int 1)) (.prim .len (.cons (.var 0) .nil)) (.glb "MOST_LINES" (.int 24))))) (.cons (.ret (.lit (.bl false))) .nil) .nil) (.cons (.ite (.not (.prim .all (.cons (.lc [1] [1] false (.ov (.var 0)) .no (.call 1 (.cons (.var 1) (.cons (.lit (.int 0)) (.cons (.op .sub (.prim .len (.cons (.var 0) .nil)) (.lit (.int 1))) .nil))))) .nil))) (.cons (.ret (.lit (.bl false))) .nil) .nil) (.cons (.ret (.op .eq (.prim .lenSet (.cons (.var 0) .nil)) (.prim .len (.cons (.var 0) .nil)))) .nil)))⟩⟩
def d_sure_perm : Vi.Src := ⟨"sure_perm", 76, ["value", "own"], ⟨false, 1, 2, (.cons (.asg (.nm 1) (.call 3 (.cons (.var 0) .nil))) (.cons (.ite (.not (.call 60 (.cons (.var 1) .nil))) (.cons (.raise 3 .nil) .nil) .nil) (.cons (.ret (.var 1)) .nil)))⟩⟩
def d_are_perms_in : Vi.Src := ⟨"are_perms_in", 77, ["lines", "thing", "own"], ⟨false, 2, 3, (.cons (.ite (.or (.not (.isi (.var 1) .tuple)) (.op .gt (.prim .len (.cons (.var 1) .nil)) (.glb "MOST_PERMS" (.int 1000)))) (.cons (.ret (.lit (.bl false))) .nil) .nil) (.cons (.ret (.prim .all (.cons (.lc [2] [2] false (.ov (.var 1)) .no (.and (.call 60 (.cons (.var 2) .nil)) (.op .eq (.prim .len (.cons (.var 2) .nil)) (.var 0)))) .nil))) .nil))⟩⟩
def d_sure_perms : Vi.Src := ⟨"sure_perms", 78, ["lines", "value", "own"], ⟨false, 2, 3, (.cons (.asg (.nm 2) (.call 3 (.cons (.var 1) .nil))) (.cons (.ite (.not (.call 62 (.cons (.var 0) (.cons (.var 2) .nil)))) (.cons (.raise 3 .nil) .nil) .nil) (.cons (.ret (.var 2)) .nil)))⟩⟩
def d_cuts_in : Vi.Src := ⟨"cuts_in", 79, ["perm", "number"], ⟨false, 1, 2, (.cons (.ret (.lc [1] [1] false (.rng (.cons (.prim .len (.cons (.var 0) .nil)) (.cons (.neg (.lit (.int 1))) (.cons (.neg (.lit (.int 1))) .nil)))) .no (.call 16 (.cons (.var 0) (.cons (.var 1) .nil))))) .nil)⟩⟩
def d_pairs_in : Vi.Src := ⟨"pairs_in", 80, ["bits", "left", "found", "line", "own"], ⟨false, 1, 5, (.cons (.par [1, 2] (.cons (.lst .nil) (.cons (.lst .nil) .nil))) (.cons (.for_ [3, 4] true (.enm (.var 0)) (.cons (.ite (.op .eq (.var 4) (.lit (.int 1))) (.cons (.ex (.mut .append 1 (.cons (.var 3) .nil))) .nil) (.cons (.ite (.op .ne (.var 1) (.lst .nil)) (.cons (.ex (.mut .append 2 (.cons (.tup (.cons (.op .ix (.var 1) (.neg (.lit (.int 1)))) (.cons (.var 3) .nil))) .nil))) (.cons (.asg (.nm 1) (.sli (.var 1) .no (.so (.neg (.lit (.int 1)))))) .nil)) .nil) .nil)) .nil)) (.cons (.ret .never) .nil)))⟩⟩
def d_free_in : Vi.Src := ⟨"free_in", 81, ["bits", "held", "pair", "line"], ⟨false, 1, 4, (.cons .never (.cons (.ret (.lc [3] [3] false (.rng (.cons (.prim .len (.cons (.var 0) .nil)) .nil)) (.so (.op .notin (.var 3) (.var 1))) (.var 3))) .nil))⟩⟩
def d_chain_in : Vi.Src := ⟨"chain_in", 82, ["bits", "ones", "free", "found", "many", "held", "pair", "line"], ⟨false, 1, 8, (.cons (.par [1, 2] (.cons (.lc [6] [6] false (.ov (.call 65 (.cons (.var 0) .nil))) .no (.op .ix (.var 6) (.lit (.int 0)))) (.cons (.call 66 (.cons (.var 0) .nil)) .nil))) (.cons (.asg (.nm 3) (.lst .nil)) (.cons (.for_ [4] false (.rng (.cons (.op .add (.prim .len (.cons (.var 2) .nil)) (.lit (.int 1))) .nil)) (.cons (.asg (.nm 5) (.op .add (.var 1) (.sli (.var 2) (.so (.op .sub (.prim .len (.cons (.var 2) .nil)) (.var 4))) .no))) (.cons (.ex (.mut .append 3 (.cons (.prim .tuple (.cons (.lc [7] [7] false (.rng (.cons (.prim .len (.cons (.var 0) .nil)) .nil)) .no (.prim .int (.cons (.op .isin (.var 7) (.var 5)) .nil))) .nil)) .nil))) .nil))) (.cons (.ret (.var 3)) .nil))))⟩⟩
def d_chain_perm_in : Vi.Src := ⟨"chain_perm_in", 83, ["bits", "pairs", "free", "lines", "pair", "line"], ⟨false, 1, 6, (.cons (.par [1, 2] (.cons (.call 65 (.cons (.var 0) .nil)) (.cons (.call 66 (.cons (.var 0) .nil)) .nil))) (.cons (.asg (.nm 3) (.op .add (.op .add .never (.var 2)) .never)) (.cons (.ret (.prim .tuple (.cons (.lc [5] [5] false (.rng (.cons (.prim .len (.cons (.var 0) .nil)) .nil)) .no .never) .nil))) .nil)))⟩⟩
def d_telling_in : Vi.Src := ⟨"telling_in", 84, ["lines", "found", "bits"], ⟨false, 1, 3, (.cons (.asg (.nm 1) (.lst .nil)) (.cons (.for_ [2] false (.ov (.call 17 (.cons (.var 0) .nil))) (.cons (.ite (.and (.op .eq (.prim .sum (.cons (.var 2) .nil)) (.op .fdiv (.var 0) (.lit (.int 2)))) (.op .ne (.call 65 (.cons (.var 2) .nil)) (.lst .nil))) (.cons (.ex (.mut .append 1 (.cons (.call 68 (.cons (.var 2) .nil)) .nil))) .nil) .nil) .nil)) (.cons (.ret (.var 1)) .nil)))⟩⟩
def d_chosen : Vi.Src := ⟨"chosen", 85, ["lines", "many", "found", "own"], ⟨false, 2, 4, (.cons (.asg (.nm 2) (.lit (.int 1))) (.cons (.for_ [3] false (.rng (.cons (.var 1) .nil)) (.cons (.asg (.nm 2) (.op .fdiv (.op .mul (.var 2) (.op .sub (.var 0) (.var 3))) (.op .add (.var 3) (.lit (.int 1))))) .nil)) (.cons (.ret (.var 2)) .nil)))⟩⟩
def d_uncovered_in : Vi.Src := ⟨"uncovered_in", 86, ["lines", "perms", "own", "bits"], ⟨false, 2, 4, (.cons (.ret (.call 47 (.cons (.var 0) (.cons .never .nil)))) .nil)⟩⟩
def d_perm_cuts : Vi.Src := ⟨"perm_cuts", 87, ["perm"], ⟨false, 1, 1, (.cons (.ret (.call 64 (.cons (.call 61 (.cons (.var 0) .nil)) .nil))) .nil)⟩⟩
def d_covers : Vi.Src := ⟨"covers", 88, ["perm", "bits", "own", "told"], ⟨false, 2, 4, (.cons (.par [2, 3] (.cons (.call 61 (.cons (.var 0) .nil)) (.cons (.call 35 (.cons (.var 1) .nil)) .nil))) (.cons (.ite (.op .ne (.prim .len (.cons (.var 2) .nil)) (.prim .len (.cons (.var 3) .nil))) (.cons (.raise 3 .nil) .nil) .nil) (.cons (.ret (.op .isin (.var 3) (.call 64 (.cons (.var 2) .nil)))) .nil)))⟩⟩
def d_bit_pairs : Vi.Src := ⟨"bit_pairs", 89, ["bits"], ⟨false, 1, 1, (.cons (.ret (.prim .tuple (.cons (.call 65 (.cons (.call 35 (.cons (.var 0) .nil)) .nil)) .nil))) .nil)⟩⟩
def d_free_lines : Vi.Src := ⟨"free_lines", 90, ["bits"], ⟨false, 1, 1, (.cons (.ret (.prim .tuple (.cons (.call 66 (.cons (.call 35 (.cons (.var 0) .nil)) .nil)) .nil))) .nil)⟩⟩
def d_chain : Vi.Src := ⟨"chain", 91, ["bits"], ⟨false, 1, 1, (.cons (.ret (.call 67 (.cons (.call 35 (.cons (.var 0) .nil)) .nil))) .nil)⟩⟩
def d_chain_perm : Vi.Src := ⟨"chain_perm", 92, ["bits"], ⟨false, 1, 1, (.cons (.ret (.call 68 (.cons (.call 35 (.cons (.var 0) .nil)) .nil))) .nil)⟩⟩
def d_fewest_perms : Vi.Src := ⟨"fewest_perms", 93, ["lines", "many"], ⟨false, 1, 2, (.cons (.asg (.nm 1) (.call 4 (.cons (.var 0) (.cons (.lit (.int 1)) (.cons (.glb "MOST_LINES" (.int 24)) .nil))))) (.cons (.ret (.op .sub (.call 70 (.cons (.var 1) (.cons (.op .fdiv (.var 1) (.lit (.int 2))) .nil))) (.lit (.int 1)))) .nil))⟩⟩
def d_telling_perms : Vi.Src := ⟨"telling_perms", 94, ["lines"], ⟨false, 1, 1, (.cons (.ret (.call 69 (.cons (.call 4 (.cons (.var 0) (.cons (.lit (.int 1)) (.cons (.glb "MOST_TOLD" (.int 10)) .nil)))) .nil))) .nil)⟩⟩
def d_uncovered : Vi.Src := ⟨"uncovered", 95, ["lines", "perms", "many", "own"], ⟨false, 2, 4, (.cons (.asg (.nm 2) (.call 4 (.cons (.var 0) (.cons (.lit (.int 1)) (.cons (.glb "MOST_LINES" (.int 24)) .nil))))) (.cons (.asg (.nm 3) (.call 63 (.cons (.var 2) (.cons (.var 1) .nil)))) (.cons (.ret (.call 71 (.cons (.call 36 (.cons (.var 2) .nil)) (.cons (.var 3) .nil)))) .nil)))⟩⟩
def d_is_near_in : Vi.Src := ⟨"is_near_in", 97, ["net", "near", "far"], ⟨false, 1, 3, (.cons (.ret (.prim .all (.cons (.lc [1, 2] [1, 2] true (.ov (.op .ix (.var 0) (.lit (.int 1)))) .no (.op .eq (.var 2) (.op .add (.var 1) (.lit (.int 1))))) .nil))) .nil)⟩⟩
def d_sure_near : Vi.Src := ⟨"sure_near", 98, ["value", "own"], ⟨false, 1, 2, (.cons (.asg (.nm 1) (.call 7 (.cons (.var 0) .nil))) (.cons (.ite (.not (.call 81 (.cons (.var 1) .nil))) (.cons (.raise 1 .nil) .nil) .nil) (.cons (.ret (.var 1)) .nil)))⟩⟩
def d_falling_in : Vi.Src := ⟨"falling_in", 99, ["lines"], ⟨false, 1, 1, (.cons (.ret (.prim .tupleR (.cons (.op .sub (.var 0) (.lit (.int 1))) (.cons (.neg (.lit (.int 1))) (.cons (.neg (.lit (.int 1))) .nil))))) .nil)⟩⟩
def d_short_in : Vi.Src := ⟨"short_in", 100, ["net", "places", "place"], ⟨false, 1, 3, (.cons (.asg (.nm 1) (.call 15 (.cons (.var 0) (.cons (.call 83 (.cons (.op .ix (.var 0) (.lit (.int 0))) .nil)) .nil)))) (.cons (.ret (.tup (.cons (.op .ix (.var 0) (.lit (.int 0))) (.cons (.prim .tuple (.cons (.lc [2] [2] false (.ov (.var 1)) .no (.op .ix (.op .ix (.var 0) (.lit (.int 1))) (.var 2))) .nil)) .nil)))) .nil))⟩⟩
def d_inversions_in : Vi.Src := ⟨"inversions_in", 101, ["row", "found", "far", "near"], ⟨false, 1, 4, (.cons (.asg (.nm 1) (.lst .nil)) (.cons (.for_ [2] false (.rng (.cons (.prim .len (.cons (.var 0) .nil)) .nil)) (.cons (.ex (.mut .extend 1 (.cons (.lc [3] [3] false (.rng (.cons (.var 2) .nil)) (.so (.op .gt (.op .ix (.var 0) (.var 3)) (.op .ix (.var 0) (.var 2)))) (.tup (.cons (.var 3) (.cons (.var 2) .nil)))) .nil))) .nil)) (.cons (.ret .never) .nil)))⟩⟩
def d_all_pairs : Vi.Src := ⟨"all_pairs", 102, ["lines"], ⟨false, 1, 1, (.cons (.ret (.op .fdiv (.op .mul (.var 0) (.op .sub (.var 0) (.lit (.int 1)))) (.lit (.int 2)))) .nil)⟩⟩
def d_near_to_in : Vi.Src := ⟨"near_to_in", 103, ["perm", "here", "found", "turn", "line"], ⟨false, 1, 5, (.cons (.par [1, 2] (.cons (.prim .list (.cons (.var 0) .nil)) (.cons (.lst .nil) .nil))) (.cons (.for_ [3] false (.rng (.cons (.prim .len (.cons (.var 0) .nil)) .nil)) (.cons (.for_ [4] false (.rng (.cons (.op .sub (.prim .len (.cons (.var 0) .nil)) (.lit (.int 1))) .nil)) (.cons (.ite (.op .lt (.op .ix (.var 1) (.var 4)) (.op .ix (.var 1) (.op .add (.var 4) (.lit (.int 1))))) (.cons (.unp [.sub 1 (.var 4), .sub 1 (.op .add (.var 4) (.lit (.int 1)))] (.tup (.cons (.op .ix (.var 1) (.op .add (.var 4) (.lit (.int 1)))) (.cons (.op .ix (.var 1) (.var 4)) .nil)))) (.cons (.ex (.mut .append 2 (.cons (.tup (.cons (.var 4) (.cons (.op .add (.var 4) (.lit (.int 1))) .nil))) .nil))) .nil)) .nil) .nil)) .nil)) (.cons (.ret (.prim .tuple (.cons (.sls (.var 2) none (-1)) .nil))) .nil)))⟩⟩
def d_is_near : Vi.Src := ⟨"is_near", 104, ["net"], ⟨false, 1, 1, (.cons (.ret (.call 81 (.cons (.call 7 (.cons (.var 0) .nil)) .nil))) .nil)⟩⟩
def d_inversions : Vi.Src := ⟨"inversions", 105, ["row"], ⟨false, 1, 1, (.cons (.ret (.prim .tuple (.cons (.call 85 (.cons (.call 9 (.cons (.var 0) .nil)) .nil)) .nil))) .nil)⟩⟩
def d_falling : Vi.Src := ⟨"falling", 106, ["lines"], ⟨false, 1, 1, (.cons (.ret (.call 83 (.cons (.call 4 (.cons (.var 0) (.cons (.lit (.int 1)) (.cons (.glb "MOST_LINES" (.int 24)) .nil)))) .nil))) .nil)⟩⟩
def d_falls_to : Vi.Src := ⟨"falls_to", 107, ["net", "own"], ⟨false, 1, 2, (.cons (.asg (.nm 1) (.call 82 (.cons (.var 0) .nil))) (.cons (.ret (.call 13 (.cons (.var 1) (.cons (.call 83 (.cons (.op .ix (.var 1) (.lit (.int 0))) .nil)) .nil)))) .nil))⟩⟩
def d_sorts_near : Vi.Src := ⟨"sorts_near", 108, ["net"], ⟨false, 1, 1, (.cons (.ret (.call 11 (.cons (.call 91 (.cons (.var 0) .nil)) .nil))) .nil)⟩⟩
def d_sure_two_near : Vi.Src := ⟨"sure_two_near", 109, ["one", "other", "first", "second"], ⟨false, 2, 4, (.cons (.par [2, 3] (.cons (.call 7 (.cons (.var 0) .nil)) (.cons (.call 7 (.cons (.var 1) .nil)) .nil))) (.cons (.ite (.or (.not (.call 81 (.cons (.var 2) .nil))) (.or (.not (.call 81 (.cons (.var 3) .nil))) (.op .ne (.op .ix (.var 2) (.lit (.int 0))) (.op .ix (.var 3) (.lit (.int 0)))))) (.cons (.raise 1 .nil) .nil) .nil) (.cons (.ret (.tup (.cons (.var 2) (.cons (.var 3) .nil)))) .nil)))⟩⟩
def d_do_same_in : Vi.Src := ⟨"do_same_in", 110, ["first", "second", "row"], ⟨false, 2, 3, (.cons (.asg (.nm 2) (.call 83 (.cons (.op .ix (.var 0) (.lit (.int 0))) .nil))) (.cons (.ret (.op .eq (.call 13 (.cons (.var 0) (.cons (.var 2) .nil))) (.call 13 (.cons (.var 1) (.cons (.var 2) .nil))))) .nil))⟩⟩
def d_do_same : Vi.Src := ⟨"do_same", 111, ["one", "other", "first", "second"], ⟨false, 2, 4, (.cons (.unp [.nm 2, .nm 3] (.call 93 (.cons (.var 0) (.cons (.var 1) .nil)))) (.cons (.ret (.call 94 (.cons (.var 2) (.cons (.var 3) .nil)))) .nil))⟩⟩
def d_shortened : Vi.Src := ⟨"shortened", 112, ["net"], ⟨false, 1, 1, (.cons (.ret (.call 84 (.cons (.call 82 (.cons (.var 0) .nil)) .nil))) .nil)⟩⟩
def d_fewest_near : Vi.Src := ⟨"fewest_near", 113, ["perm", "own"], ⟨false, 1, 2, (.cons (.asg (.nm 1) (.call 61 (.cons (.var 0) .nil))) (.cons (.ret (.op .sub (.call 86 (.cons (.prim .len (.cons (.var 1) .nil)) .nil)) (.prim .len (.cons (.call 85 (.cons (.var 1) .nil)) .nil)))) .nil))⟩⟩
def d_near_net_to : Vi.Src := ⟨"near_net_to", 114, ["perm", "own"], ⟨false, 1, 2, (.cons (.asg (.nm 1) (.call 61 (.cons (.var 0) .nil))) (.cons (.ret (.tup (.cons (.prim .len (.cons (.var 1) .nil)) (.cons (.call 87 (.cons (.var 1) .nil)) .nil)))) .nil))⟩⟩
def d_is_near_net_to : Vi.Src := ⟨"is_near_net_to", 115, ["perm", "thing", "own"], ⟨false, 2, 3, (.cons (.asg (.nm 2) (.call 61 (.cons (.var 0) .nil))) (.cons (.ite (.or (.not (.call 6 (.cons (.var 1) .nil))) (.or (.op .ne (.op .ix (.var 1) (.lit (.int 0))) (.prim .len (.cons (.var 2) .nil))) (.not (.call 81 (.cons (.var 1) .nil))))) (.cons (.ret (.lit (.bl false))) .nil) .nil) (.cons (.ret (.and (.op .eq (.call 13 (.cons (.var 1) (.cons (.call 83 (.cons (.prim .len (.cons (.var 2) .nil)) .nil)) .nil))) (.var 2)) (.op .eq (.prim .len (.cons (.op .ix (.var 1) (.lit (.int 1))) .nil)) (.call 97 (.cons (.var 2) .nil))))) .nil)))⟩⟩
def d_run_from : Vi.Src := ⟨"run_from", 122, ["line", "start", "place"], ⟨false, 2, 3, (.cons (.asg (.nm 2) (.var 1)) (.cons (.whl 100000 (.and (.op .lt (.var 2) (.prim .len (.cons (.var 0) .nil))) (.op .isin (.op .ix (.var 0) (.var 2)) (.glb "SIGNS" (.str "abcdefghijklmnopqrstuvwxyz0123456789-")))) (.cons .never .nil)) (.cons (.ret (.sli (.var 0) (.so (.var 1)) (.so (.var 2)))) .nil)))⟩⟩
def d_line_words : Vi.Src := ⟨"line_words", 123, ["line", "number", "found", "place", "own"], ⟨false, 2, 5, (.cons (.par [2, 3] (.cons (.lst .nil) (.cons (.lit (.int 0)) .nil))) (.cons (.whl 100000 (.and (.op .lt (.var 3) (.prim .len (.cons (.var 0) .nil))) (.op .ne (.op .ix (.var 0) (.var 3)) (.glb "REMARK" (.str "#")))) (.cons (.asg (.nm 4) (.call 100 (.cons (.var 0) (.cons (.var 3) .nil)))) (.cons (.ite (.op .ne (.var 4) (.lit (.str ""))) (.cons (.ex (.mut .append 2 (.cons (.tup (.cons (.var 4) (.cons (.var 1) .nil))) .nil))) .nil) (.cons (.ite (.op .ne (.op .ix (.var 0) (.var 3)) (.lit (.str " "))) (.cons .never .nil) .nil) .nil)) (.cons .never .nil)))) (.cons (.ret (.var 2)) .nil)))⟩⟩
def d_words : Vi.Src := ⟨"words", 124, ["text", "found", "number", "line"], ⟨false, 1, 4, (.cons (.asg (.nm 1) (.lst .nil)) (.cons (.for_ [2, 3] true (.enm .never) (.cons (.ex (.mut .extend 1 (.cons (.call 101 (.cons (.var 3) (.cons (.var 2) .nil))) .nil))) .nil)) (.cons (.ret (.var 1)) .nil)))⟩⟩
def d_is_figures : Vi.Src := ⟨"is_figures", 125, ["word", "sign"], ⟨false, 1, 2, (.cons (.ite (.or (.op .eq (.var 0) (.lit (.str ""))) (.or (.op .gt (.prim .len (.cons (.var 0) .nil)) (.glb "LONGEST" (.int 31))) (.not (.prim .all (.cons (.lc [1] [1] false (.ov (.var 0)) .no (.op .isin (.var 1) (.glb "FIGURES" (.str "0123456789")))) .nil))))) (.cons (.ret (.lit (.bl false))) .nil) .nil) (.cons (.ret (.or (.op .ne (.op .ix (.var 0) (.lit (.int 0))) (.lit (.str "0"))) (.op .eq (.var 0) (.lit (.str "0"))))) .nil))⟩⟩
def d_number_of : Vi.Src := ⟨"number_of", 126, ["word", "figures", "found", "sign"], ⟨false, 1, 4, (.cons (.asg (.nm 1) (.ite (.op .eq (.sli (.var 0) .no (.so (.lit (.int 1)))) (.glb "BELOW" (.str "-"))) (.sli (.var 0) (.so (.lit (.int 1))) .no) (.var 0))) (.cons (.ite (.or (.not (.call 103 (.cons (.var 1) .nil))) (.op .eq (.var 0) (.op .add (.glb "BELOW" (.str "-")) (.lit (.str "0"))))) (.cons (.ret (.lit .non)) .nil) .nil) (.cons (.asg (.nm 2) (.lit (.int 0))) (.cons (.for_ [3] false (.ov (.var 1)) (.cons (.asg (.nm 2) (.op .add (.op .mul (.var 2) (.lit (.int 10))) .never)) .nil)) (.cons (.ret (.ite (.op .eq (.var 1) (.var 0)) (.var 2) (.neg (.var 2)))) .nil)))))⟩⟩
def d_sure_text : Vi.Src := ⟨"sure_text", 128, ["value"], ⟨false, 1, 1, (.cons (.ite (.not (.isi (.var 0) .str)) (.cons (.raise 3 .nil) .nil) .nil) (.cons (.ret (.var 0)) .nil))⟩⟩
def d_spaced : Vi.Src := ⟨"spaced", 129, ["row", "own"], ⟨false, 1, 2, (.cons (.ret (.op .add (.meth .join (.lit (.str " ")) (.cons (.lc [1] [1] false (.ov (.var 0)) .no .never) .nil)) (.lit (.str "\n")))) .nil)⟩⟩
def d_read_marked : Vi.Src := ⟨"read_marked", 130, ["text", "heads", "mark", "found", "rows", "own", "line", "number"], ⟨false, 3, 8, (.cons (.asg (.nm 3) (.call 102 (.cons (.call 105 (.cons (.var 0) .nil)) .nil))) (.cons (.ite (.op .eq (.var 3) (.lst .nil)) (.cons .never .nil) .nil) (.cons (.ite (.op .notin (.op .ix (.op .ix (.var 3) (.lit (.int 0))) (.lit (.int 0))) (.var 1)) (.cons .never .nil) .nil) (.cons (.asg (.nm 4) (.lst (.cons (.tup .nil) .nil))) (.cons (.for_ [5, 6] true (.ov (.sli (.var 3) (.so (.lit (.int 1))) .no)) (.cons (.asg (.nm 7) (.call 104 (.cons (.var 5) .nil))) (.cons (.ite (.op .eq (.var 5) (.var 2)) (.cons (.ex (.mut .append 4 (.cons (.tup .nil) .nil))) .nil) (.cons (.ite (.isN (.var 7) false) (.cons .never .nil) (.cons (.asg (.sub 4 (.neg (.lit (.int 1)))) (.op .add (.op .ix (.var 4) (.neg (.lit (.int 1)))) (.tup (.cons (.var 7) .nil)))) .nil)) .nil)) .nil))) (.cons (.ret (.tup (.cons (.op .ix (.op .ix (.var 3) (.lit (.int 0))) (.lit (.int 0))) (.cons (.var 4) (.cons (.op .ix (.op .ix (.var 3) (.neg (.lit (.int 1)))) (.lit (.int 1))) .nil))))) .nil))))))⟩⟩
def d_net_text : Vi.Src := ⟨"net_text", 132, ["net", "own", "found", "pair"], ⟨false, 1, 4, (.cons (.asg (.nm 1) (.call 7 (.cons (.var 0) .nil))) (.cons (.asg (.nm 2) (.lst (.cons (.lit (.str "net")) (.cons (.op .ix (.var 1) (.lit (.int 0))) .nil)))) (.cons (.for_ [3] false (.ov (.op .ix (.var 1) (.lit (.int 1)))) (.cons (.ex (.mut .extend 2 (.cons (.op .add (.lst (.cons (.lit (.str "at")) .nil)) (.prim .list (.cons (.var 3) .nil))) .nil))) .nil)) (.cons (.ret (.call 106 (.cons (.var 2) .nil))) .nil))))⟩⟩
def d_read_net : Vi.Src := ⟨"read_net", 133, ["text", "kind", "rows", "last", "found"], ⟨false, 1, 5, (.cons (.unp [.nm 1, .nm 2, .nm 3] (.call 107 (.cons (.var 0) (.cons (.tup (.cons (.lit (.str "net")) .nil)) (.cons (.lit (.str "at")) .nil))))) (.cons (.asg (.nm 4) (.tup (.cons (.ite (.op .eq (.prim .len (.cons (.op .ix (.var 2) (.lit (.int 0))) .nil)) (.lit (.int 1))) (.op .ix (.op .ix (.var 2) (.lit (.int 0))) (.lit (.int 0))) (.lit .non)) (.cons (.prim .tuple (.cons (.sli (.var 2) (.so (.lit (.int 1))) .no) .nil)) .nil)))) (.cons (.ite (.not (.call 6 (.cons (.var 4) .nil))) (.cons .never .nil) .nil) (.cons (.ret (.var 4)) .nil))))⟩⟩
def d_row_text : Vi.Src := ⟨"row_text", 134, ["row"], ⟨false, 1, 1, (.cons (.ret (.call 106 (.cons (.op .add (.lst (.cons (.lit (.str "row")) .nil)) (.prim .list (.cons (.call 9 (.cons (.var 0) .nil)) .nil))) .nil))) .nil)⟩⟩
def d_read_row : Vi.Src := ⟨"read_row", 135, ["text", "kind", "rows", "last"], ⟨false, 1, 4, (.cons (.unp [.nm 1, .nm 2, .nm 3] (.call 107 (.cons (.var 0) (.cons (.tup (.cons (.lit (.str "row")) .nil)) (.cons (.lit .non) .nil))))) (.cons (.ite (.not (.call 8 (.cons (.op .ix (.var 2) (.lit (.int 0))) .nil))) (.cons .never .nil) .nil) (.cons (.ret (.op .ix (.var 2) (.lit (.int 0)))) .nil)))⟩⟩
def d_bits_word : Vi.Src := ⟨"bits_word", 136, ["bits", "own"], ⟨false, 1, 2, (.cons (.ret (.meth .join (.lit (.str "")) (.cons (.lc [1] [1] false (.ov (.call 35 (.cons (.var 0) .nil))) .no .never) .nil))) .nil)⟩⟩
def d_drawing : Vi.Src := ⟨"drawing", 137, ["net", "own", "line", "pair"], ⟨false, 1, 4, (.cons (.asg (.nm 1) (.call 7 (.cons (.var 0) .nil))) (.cons (.ret (.prim .tuple (.cons (.lc [2] [2] false (.rng (.cons (.op .ix (.var 1) (.lit (.int 0))) .nil)) .no (.meth .join (.lit (.str "")) (.cons (.lc [3] [3] false (.ov (.op .ix (.var 1) (.lit (.int 1)))) .no (.ite (.op .isin (.var 2) (.var 3)) (.lit (.str "o")) (.lit (.str "-")))) .nil))) .nil))) .nil))⟩⟩
def d_part_bits : Vi.Src := ⟨"part_bits", 140, ["zeros", "lines"], ⟨false, 2, 2, (.cons (.ret (.op .add (.op .mul (.tup (.cons (.lit (.int 0)) .nil)) (.var 0)) (.op .mul (.tup (.cons (.lit (.int 1)) .nil)) (.op .sub (.var 1) (.var 0))))) .nil)⟩⟩
def d_join_bits_in : Vi.Src := ⟨"join_bits_in", 141, ["near", "far", "found", "zeros", "more"], ⟨false, 2, 5, (.cons (.asg (.nm 2) (.lst .nil)) (.cons (.for_ [3] false (.rng (.cons (.var 0) .nil)) (.cons (.ex (.mut .extend 2 (.cons (.lc [4] [4] false (.rng (.cons (.lit (.int 1)) (.cons (.op .add (.var 1) (.lit (.int 1))) .nil))) .no (.op .add (.call 114 (.cons (.var 3) (.cons (.var 0) .nil))) (.call 114 (.cons (.var 4) (.cons (.var 1) .nil))))) .nil))) .nil)) (.cons (.ret .never) .nil)))⟩⟩
def d_unjoined_in : Vi.Src := ⟨"unjoined_in", 142, ["net", "near", "rows", "own"], ⟨false, 2, 4, (.cons (.asg (.nm 2) (.call 115 (.cons (.var 1) (.cons (.op .sub (.op .ix (.var 0) (.lit (.int 0))) (.var 1)) .nil)))) (.cons (.ret (.lc [3] [3] false (.ov (.var 2)) (.so (.not (.call 11 (.cons (.call 13 (.cons (.var 0) (.cons (.var 3) .nil))) .nil)))) (.var 3))) .nil))⟩⟩
def d_sure_part : Vi.Src := ⟨"sure_part", 143, ["net", "near"], ⟨false, 2, 2, (.cons (.ret (.call 4 (.cons (.var 1) (.cons (.lit (.int 1)) (.cons (.op .sub (.op .ix (.var 0) (.lit (.int 0))) (.lit (.int 1))) .nil))))) .nil)⟩⟩
def d_sure_sizes : Vi.Src := ⟨"sure_sizes", 144, ["near", "far"], ⟨false, 2, 2, (.cons (.ret (.tup (.cons (.call 4 (.cons (.var 0) (.cons (.lit (.int 1)) (.cons (.glb "MOST_JOINED" (.int 12)) .nil)))) (.cons (.call 4 (.cons (.var 1) (.cons (.lit (.int 1)) (.cons (.glb "MOST_JOINED" (.int 12)) .nil)))) .nil)))) .nil)⟩⟩
def d_row_by_steps : Vi.Src := ⟨"row_by_steps", 145, ["near", "far", "steps", "left", "found", "number", "part"], ⟨false, 3, 7, (.cons (.par [3, 4] (.cons (.lst (.cons (.op .sub (.var 0) (.lit (.int 1))) (.cons (.op .sub (.op .add (.var 0) (.var 1)) (.lit (.int 1))) .nil))) (.cons (.op .mul (.lst (.cons (.lit (.int 0)) .nil)) (.op .add (.var 0) (.var 1))) .nil))) (.cons (.for_ [5, 6] true (.enm (.var 2)) (.cons (.asg (.sub 4 (.op .ix (.var 3) (.var 6))) (.op .sub (.op .sub (.op .add (.var 0) (.var 1)) (.lit (.int 1))) (.var 5))) (.cons .never .nil))) (.cons (.ret (.prim .tuple (.cons (.var 4) .nil))) .nil)))⟩⟩
def d_join_rows_in : Vi.Src := ⟨"join_rows_in", 146, ["near", "far", "own"], ⟨false, 2, 3, (.cons (.ite (.op .le (.var 0) (.var 1)) (.cons (.ret (.lc [2] [2] false (.rng (.cons (.lit (.int 1)) (.cons (.op .add (.var 0) (.lit (.int 1))) .nil))) .no (.call 119 (.cons (.var 0) (.cons (.var 1) (.cons (.op .add (.op .add (.op .mul (.tup (.cons (.lit (.int 0)) .nil)) (.var 2)) (.op .mul (.tup (.cons (.lit (.int 1)) .nil)) (.var 1))) (.op .mul (.tup (.cons (.lit (.int 0)) .nil)) (.op .sub (.var 0) (.var 2)))) .nil)))))) .nil) .nil) (.cons (.ret (.lc [2] [2] false (.rng (.cons (.var 1) .nil)) .no (.call 119 (.cons (.var 0) (.cons (.var 1) (.cons (.op .add (.op .add (.op .mul (.tup (.cons (.lit (.int 1)) .nil)) (.var 2)) (.op .mul (.tup (.cons (.lit (.int 0)) .nil)) (.var 0))) (.op .mul (.tup (.cons (.lit (.int 1)) .nil)) (.op .sub (.var 1) (.var 2)))) .nil)))))) .nil))⟩⟩
def d_covers_joins_in : Vi.Src := ⟨"covers_joins_in", 147, ["near", "far", "rows", "known", "own", "bits"], ⟨false, 3, 6, (.cons .never (.cons (.ret (.prim .all (.cons (.lc [4] [4] false (.ov (.call 115 (.cons (.var 0) (.cons (.var 1) .nil)))) .no (.op .isin (.var 4) (.var 3))) .nil))) .nil))⟩⟩
def d_merged : Vi.Src := ⟨"merged", 148, ["near", "far", "firsts", "pairs", "others", "more", "found", "place", "here", "row", "at"], ⟨false, 2, 11, (.cons (.ite (.or (.op .eq (.var 0) (.lst .nil)) (.op .eq (.var 1) (.lst .nil))) (.cons (.ret (.tup (.cons (.op .add (.var 0) (.var 1)) (.cons (.lst .nil) .nil)))) .nil) .nil) (.cons (.ite (.and (.op .eq (.prim .len (.cons (.var 0) .nil)) (.lit (.int 1))) (.op .eq (.prim .len (.cons (.var 1) .nil)) (.lit (.int 1)))) (.cons (.ret (.tup (.cons (.op .add (.var 0) (.var 1)) (.cons (.lst (.cons (.tup (.cons (.op .ix (.var 0) (.lit (.int 0))) (.cons (.op .ix (.var 1) (.lit (.int 0))) .nil))) .nil)) .nil)))) .nil) .nil) (.cons (.unp [.nm 2, .nm 3] (.call 122 (.cons (.sls (.var 0) (some 0) (2)) (.cons (.sls (.var 1) (some 0) (2)) .nil)))) (.cons (.unp [.nm 4, .nm 5] (.call 122 (.cons (.sls (.var 0) (some 1) (2)) (.cons (.sls (.var 1) (some 1) (2)) .nil)))) (.cons (.par [6, 3] (.cons (.sli (.var 2) .no (.so (.lit (.int 1)))) (.cons (.op .add (.var 3) (.var 5)) .nil))) (.cons (.for_ [7] false (.rng (.cons (.prim .max (.cons (.op .sub (.prim .len (.cons (.var 2) .nil)) (.lit (.int 1))) (.cons (.prim .len (.cons (.var 4) .nil)) .nil))) .nil)) (.cons (.asg (.nm 8) (.lc [9, 10] [9, 10] true (.ov (.tup (.cons (.tup (.cons (.var 4) (.cons (.var 7) .nil))) (.cons (.tup (.cons (.var 2) (.cons (.op .add (.var 7) (.lit (.int 1))) .nil))) .nil)))) (.so (.op .lt (.var 10) (.prim .len (.cons (.var 9) .nil)))) (.op .ix (.var 9) (.var 10)))) (.cons (.asg (.nm 3) (.ite (.op .eq (.prim .len (.cons (.var 8) .nil)) (.lit (.int 2))) (.op .add (.var 3) (.lst (.cons (.prim .tuple (.cons (.var 8) .nil)) .nil))) (.var 3))) (.cons (.asg (.nm 6) (.op .add (.var 6) (.var 8))) .nil)))) (.cons (.ret (.tup (.cons (.var 6) (.cons (.var 3) .nil)))) .nil)))))))⟩⟩
def d_odd_even_in : Vi.Src := ⟨"odd_even_in", 149, ["near", "far", "pairs"], ⟨false, 2, 3, (.cons (.asg (.nm 2) (.op .ix (.call 122 (.cons (.prim .listR (.cons (.var 0) .nil)) (.cons (.prim .listR (.cons (.var 0) (.cons (.op .add (.var 0) (.var 1)) .nil))) .nil))) (.lit (.int 1)))) (.cons (.ret (.op .ix (.call 20 (.cons (.op .add (.var 0) (.var 1)) (.cons (.var 2) .nil))) (.lit (.int 0)))) .nil))⟩⟩
def d_count_in : Vi.Src := ⟨"count_in", 150, ["near", "far", "most", "least"], ⟨false, 2, 4, (.cons (.ite (.op .le (.op .mul (.var 0) (.var 1)) (.lit (.int 1))) (.cons (.ret (.op .mul (.var 0) (.var 1))) .nil) .nil) (.cons (.par [2, 3] (.cons (.tup (.cons (.op .fdiv (.op .add (.var 0) (.lit (.int 1))) (.lit (.int 2))) (.cons (.op .fdiv (.op .add (.var 1) (.lit (.int 1))) (.lit (.int 2))) .nil))) (.cons (.tup (.cons (.op .fdiv (.var 0) (.lit (.int 2))) (.cons (.op .fdiv (.var 1) (.lit (.int 2))) .nil))) .nil))) (.cons (.ret (.op .add (.op .add (.call 124 (.cons (.op .ix (.var 2) (.lit (.int 0))) (.cons (.op .ix (.var 2) (.lit (.int 1))) .nil))) (.call 124 (.cons (.op .ix (.var 3) (.lit (.int 0))) (.cons (.op .ix (.var 3) (.lit (.int 1))) .nil)))) (.op .fdiv (.op .sub (.op .add (.var 0) (.var 1)) (.lit (.int 1))) (.lit (.int 2))))) .nil)))⟩⟩
def d_halved_in : Vi.Src := ⟨"halved_in", 151, ["lines", "near", "far", "rest", "one", "other"], ⟨false, 1, 6, (.cons (.ite (.op .eq (.var 0) (.lit (.int 1))) (.cons (.ret (.lst .nil)) .nil) .nil) (.cons (.par [1, 2] (.cons (.op .sub (.var 0) (.op .fdiv (.var 0) (.lit (.int 2)))) (.cons (.op .fdiv (.var 0) (.lit (.int 2))) .nil))) (.cons (.asg (.nm 3) (.lc [4, 5] [4, 5] true (.ov (.call 125 (.cons (.var 2) .nil))) .no (.tup (.cons (.op .add (.var 4) (.var 1)) (.cons (.op .add (.var 5) (.var 1)) .nil))))) (.cons (.ret (.op .add (.op .add (.call 125 (.cons (.var 1) .nil)) (.var 3)) (.prim .list (.cons (.op .ix (.call 123 (.cons (.var 1) (.cons (.var 2) .nil))) (.lit (.int 1))) .nil)))) .nil))))⟩⟩
def d_join_bits : Vi.Src := ⟨"join_bits", 152, ["near", "far", "one", "other"], ⟨false, 2, 4, (.cons (.unp [.nm 2, .nm 3] (.call 118 (.cons (.var 0) (.cons (.var 1) .nil)))) (.cons (.ret (.call 115 (.cons (.var 2) (.cons (.var 3) .nil)))) .nil))⟩⟩
def d_joins : Vi.Src := ⟨"joins", 153, ["net", "near", "own"], ⟨false, 2, 3, (.cons (.asg (.nm 2) (.call 7 (.cons (.var 0) .nil))) (.cons (.ret (.op .eq (.call 116 (.cons (.var 2) (.cons (.call 117 (.cons (.var 2) (.cons (.var 1) .nil))) .nil))) (.lst .nil))) .nil))⟩⟩
def d_first_unjoined : Vi.Src := ⟨"first_unjoined", 154, ["net", "near", "own", "found"], ⟨false, 2, 4, (.cons (.asg (.nm 2) (.call 7 (.cons (.var 0) .nil))) (.cons (.asg (.nm 3) (.call 116 (.cons (.var 2) (.cons (.call 117 (.cons (.var 2) (.cons (.var 1) .nil))) .nil)))) (.cons (.ret (.ite (.op .ne (.var 3) (.lst .nil)) (.op .ix (.var 3) (.lit (.int 0))) (.lit .non))) .nil)))⟩⟩
def d_join_rows : Vi.Src := ⟨"join_rows", 155, ["near", "far", "one", "other"], ⟨false, 2, 4, (.cons (.unp [.nm 2, .nm 3] (.call 118 (.cons (.var 0) (.cons (.var 1) .nil)))) (.cons (.ret (.call 120 (.cons (.var 2) (.cons (.var 3) .nil)))) .nil))⟩⟩
def d_are_join_rows : Vi.Src := ⟨"are_join_rows", 156, ["near", "far", "thing", "one", "other", "own"], ⟨false, 3, 6, (.cons (.unp [.nm 3, .nm 4] (.call 118 (.cons (.var 0) (.cons (.var 1) .nil)))) (.cons (.ite (.or (.not (.isi (.var 2) .tuple)) (.op .ne (.prim .len (.cons (.var 2) .nil)) (.prim .min (.cons (.var 3) (.cons (.var 4) .nil))))) (.cons (.ret (.lit (.bl false))) .nil) .nil) (.cons (.ite (.not (.prim .all (.cons (.lc [5] [5] false (.ov (.var 2)) .no (.call 131 (.cons (.var 3) (.cons (.var 4) (.cons (.var 5) .nil))))) .nil))) (.cons (.ret (.lit (.bl false))) .nil) .nil) (.cons (.ret (.call 121 (.cons (.var 3) (.cons (.var 4) (.cons (.var 2) .nil))))) .nil))))⟩⟩
def d_is_join_row : Vi.Src := ⟨"is_join_row", 157, ["near", "far", "thing", "own"], ⟨false, 3, 4, (.cons (.ite (.or (.not (.isi (.var 2) .tuple)) (.op .ne (.prim .len (.cons (.var 2) .nil)) (.op .add (.var 0) (.var 1)))) (.cons (.ret (.lit (.bl false))) .nil) .nil) (.cons (.ite (.or (.not (.prim .all (.cons (.lc [3] [3] false (.ov (.var 2)) .no (.call 1 (.cons (.var 3) (.cons (.lit (.int 0)) (.cons (.op .sub (.op .add (.var 0) (.var 1)) (.lit (.int 1))) .nil))))) .nil))) (.op .ne (.prim .lenSet (.cons (.var 2) .nil)) (.prim .len (.cons (.var 2) .nil)))) (.cons (.ret (.lit (.bl false))) .nil) .nil) (.cons (.ret (.and (.call 11 (.cons (.sli (.var 2) .no (.so (.var 0))) .nil)) (.call 11 (.cons (.sli (.var 2) (.so (.var 0)) .no) .nil)))) .nil)))⟩⟩
def d_odd_even_net : Vi.Src := ⟨"odd_even_net", 158, ["near", "far", "one", "other"], ⟨false, 2, 4, (.cons (.unp [.nm 2, .nm 3] (.call 118 (.cons (.var 0) (.cons (.var 1) .nil)))) (.cons (.ret (.call 123 (.cons (.var 2) (.cons (.var 3) .nil)))) .nil))⟩⟩
def d_odd_even_count : Vi.Src := ⟨"odd_even_count", 159, ["near", "far", "one", "other"], ⟨false, 2, 4, (.cons (.unp [.nm 2, .nm 3] (.call 118 (.cons (.var 0) (.cons (.var 1) .nil)))) (.cons (.ret (.call 124 (.cons (.var 2) (.cons (.var 3) .nil)))) .nil))⟩⟩
def d_halved_net : Vi.Src := ⟨"halved_net", 160, ["lines", "own"], ⟨false, 1, 2, (.cons (.asg (.nm 1) (.call 4 (.cons (.var 0) (.cons (.lit (.int 1)) (.cons (.glb "MOST_LINES" (.int 24)) .nil))))) (.cons (.ret (.tup (.cons (.var 1) (.cons (.prim .tuple (.cons (.call 125 (.cons (.var 1) .nil)) .nil)) .nil)))) .nil))⟩⟩
def d_law_box : Vi.Src := ⟨"_law_box", 162, ["script", "k", "bit_so"], ⟨false, 2, 3, (.cons (.asg (.nm 2) (.ite (.op .lt (.var 1) (.prim .len (.cons (.var 0) .nil))) (.op .ix (.var 0) (.var 1)) (.lit (.int 0)))) (.cons (.ret (.lst (.cons (.op .mul (.prim .abs (.cons (.var 2) .nil)) (.prim .int (.cons (.op .ge (.prim .abs (.cons (.var 2) .nil)) (.op .pow (.lit (.int 10)) (.lit (.int 18)))) .nil))) (.cons (.op .add (.op .add (.op .mod (.prim .int (.cons (.var 2) .nil)) (.lit (.int 2305843009213693951))) (.op .mul (.lit (.int 39373)) (.var 1))) (.lit (.int 26293090))) (.cons (.lit (.int 0)) .nil))))) .nil))⟩⟩
def d_law_take : Vi.Src := ⟨"_law_take", 163, ["tin", "below_so", "drawn_so", "once_so", "wide_so", "twice_so"], ⟨true, 2, 6, (.cons (.ite (.op .gt (.op .ix (.var 0) (.lit (.int 0))) (.lit (.int 0))) (.cons (.asg (.nm 2) (.op .mod (.prim .int (.cons (.op .ix (.var 0) (.lit (.int 0))) .nil)) (.var 1))) (.cons (.asg (.sub 0 (.lit (.int 0))) (.op .fdiv (.op .ix (.var 0) (.lit (.int 0))) (.var 1))) (.cons (.ret (.var 2)) .nil))) .nil) (.cons (.asg (.sub 0 (.lit (.int 2))) (.op .add (.op .ix (.var 0) (.lit (.int 2))) (.lit (.int 1)))) (.cons (.asg (.nm 3) (.op .mod (.prim .int (.cons (.op .mul (.op .add (.op .ix (.var 0) (.lit (.int 1))) (.op .mul (.lit (.int 48271)) (.op .ix (.var 0) (.lit (.int 2))))) (.op .add (.lit (.int 39373)) (.op .ix (.var 0) (.lit (.int 2))))) .nil)) (.lit (.int 2147483647)))) (.cons (.asg (.nm 4) (.op .add (.op .mod (.prim .int (.cons (.var 3) .nil)) (.lit (.int 40009))) (.lit (.int 7)))) (.cons (.asg (.nm 5) (.op .mod (.prim .int (.cons (.op .mul (.op .add (.op .add (.var 3) (.op .ix (.var 0) (.lit (.int 2)))) (.op .fdiv (.op .ix (.var 0) (.lit (.int 1))) (.lit (.int 1000003)))) (.var 4)) .nil)) (.lit (.int 2147483629)))) (.cons (.ret (.op .mod (.prim .int (.cons (.op .fdiv (.op .mod (.prim .int (.cons (.op .add (.op .mul (.var 5) (.lit (.int 48271))) (.var 3)) .nil)) (.lit (.int 2147483587))) (.lit (.int 64))) .nil)) (.var 1))) .nil))))))⟩⟩
def d_law_cells : Vi.Src := ⟨"_law_cells", 164, ["script", "most_so", "cells_so", "k", "bit_so", "at_so"], ⟨false, 2, 6, (.cons (.asg (.nm 2) (.or (.prim .list (.cons (.sli (.var 0) .no (.so (.var 1))) .nil)) (.lst (.cons (.lit (.int 0)) .nil)))) (.cons (.for_ [3, 4] true (.enm (.sli (.var 0) (.so (.var 1)) (.so (.lit (.int 63))))) (.cons (.asg (.nm 5) (.op .mod (.prim .int (.cons (.var 3) .nil)) (.var 1))) (.cons (.asg (.sub 2 (.var 5)) (.op .add (.op .ix (.var 2) (.var 5)) (.op .mul (.var 4) (.op .add (.var 3) (.lit (.int 2)))))) .nil))) (.cons (.ret (.var 2)) .nil)))⟩⟩
def d_law_pick : Vi.Src := ⟨"_law_pick", 165, ["tin", "goods_so", "count_so", "pool_so", "found", "lap"], ⟨true, 3, 6, (.cons (.par [3, 4] (.cons (.prim .list (.cons (.var 1) .nil)) (.cons (.lst .nil) .nil))) (.cons (.for_ [5] false (.rng (.cons (.prim .min (.cons (.prim .int (.cons (.var 2) .nil)) (.cons (.prim .len (.cons (.var 3) .nil)) .nil))) .nil)) (.cons (.ex (.mut .append 4 (.cons (.mut .pop 3 (.cons (.call 136 (.cons (.var 0) (.cons (.prim .len (.cons (.var 3) .nil)) .nil))) .nil)) .nil))) .nil)) (.cons (.ret (.var 4)) .nil)))⟩⟩
def d_law_same : Vi.Src := ⟨"_law_same", 166, ["got", "due", "mine", "its"], ⟨false, 2, 4, (.cons (.ite (.isi (.var 1) .listTuple) (.cons (.ite (.or (.op .ne (.isi (.var 0) .list) (.isi (.var 1) .list)) (.op .ne (.isi (.var 0) .tuple) (.isi (.var 1) .tuple))) (.cons (.ret (.lit (.bl false))) .nil) .nil) (.cons (.ret (.and (.op .eq (.prim .len (.cons (.var 0) .nil)) (.prim .len (.cons (.var 1) .nil))) (.prim .all (.cons (.lc [2, 3] [2, 3] true (.zip (.var 0) (.var 1)) .no (.call 139 (.cons (.var 2) (.cons (.var 3) .nil)))) .nil)))) .nil)) .nil) (.cons (.ite (.isN (.var 1) false) (.cons (.ret (.isN (.var 0) false)) .nil) .nil) (.cons (.ite (.isi (.var 1) .boolStr) (.cons (.ret (.and (.op .eq (.isi (.var 0) .bool) (.isi (.var 1) .bool)) (.and (.op .eq (.isi (.var 0) .str) (.isi (.var 1) .str)) (.op .eq (.var 0) (.var 1))))) .nil) .nil) (.cons (.ret (.and (.isi (.var 0) .int) (.and (.not (.isi (.var 0) .bool)) (.op .eq (.var 0) (.var 1))))) .nil))))⟩⟩
def d_law_unmarked : Vi.Src := ⟨"_law_unmarked", 167, ["told_so"], ⟨false, 1, 1, (.cons (.ret (.ite (.and (.isi (.var 0) .list) (.and (.op .gt (.prim .len (.cons (.var 0) .nil)) (.lit (.int 0))) (.isi (.op .ix (.var 0) (.lit (.int 0))) .str))) (.lst (.cons (.lit (.str "told")) (.cons (.lit (.str "a mark")) .nil))) (.var 0))) .nil)⟩⟩
def d_law_call : Vi.Src := ⟨"_law_call", 168, ["door", "goods_so"], ⟨false, 2, 2, (.cons (.ite (.op .lt (.prim .len (.cons (.var 1) .nil)) (.lit (.int 3))) (.cons (.ret (.ite (.op .eq (.prim .len (.cons (.var 1) .nil)) (.lit (.int 1))) (.callv 0 (.cons (.op .ix (.var 1) (.lit (.int 0))) .nil)) (.callv 0 (.cons (.op .ix (.var 1) (.lit (.int 0))) (.cons (.op .ix (.var 1) (.lit (.int 1))) .nil))))) .nil) .nil) (.cons (.ret (.ite (.op .eq (.prim .len (.cons (.var 1) .nil)) (.lit (.int 3))) (.callv 0 (.cons (.op .ix (.var 1) (.lit (.int 0))) (.cons (.op .ix (.var 1) (.lit (.int 1))) (.cons (.op .ix (.var 1) (.lit (.int 2))) .nil)))) (.callv 0 (.cons (.op .ix (.var 1) (.lit (.int 0))) (.cons (.op .ix (.var 1) (.lit (.int 1))) (.cons (.op .ix (.var 1) (.lit (.int 2))) (.cons (.op .ix (.var 1) (.lit (.int 3))) .nil))))))) .nil))⟩⟩
def d_law_none_fits : Vi.Src := ⟨"_law_none_fits", 169, ["heard_so", "rows_so", "door", "goods_so", "place_so", "bads_so", "own"], ⟨false, 2, 7, (.cons (.for_ [2, 3, 4, 5] true (.ov (.var 1)) (.cons (.for_ [6] false (.ov (.var 5)) (.cons (.ite (.op .ne (.callv 0 (.cons (.var 2) (.cons (.op .add (.op .add (.sli (.var 3) .no (.so (.var 4))) (.tup (.cons (.var 6) .nil))) (.sli (.var 3) (.so (.op .add (.var 4) (.lit (.int 1)))) .no)) .nil))) (.lst (.cons (.lit (.str "unfit")) (.cons (.lit (.bl true)) .nil)))) (.cons (.ret (.lit (.bl false))) .nil) .nil) .nil)) .nil)) (.cons (.ret (.lit (.bl true))) .nil))⟩⟩
def d_law_heard : Vi.Src := ⟨"_law_heard", 170, ["door", "goods_so", "caught", "told_so", "error_a", "error_b", "error_c"], ⟨false, 2, 7, (.cons (.par [2, 3] (.cons (.lit .non) (.cons (.lit .non) .nil))) (.cons (.tri (.cons (.asg (.nm 3) (.call 140 (.cons (.call 141 (.cons (.var 0) (.cons (.var 1) .nil))) .nil))) .nil) [.mk 1 4 2 "can not" false "ValueError", .mk 2 5 2 "many" false "ValueError", .mk 3 6 2 "unfit" false "ValueError"]) (.cons (.ret (.ite (.isN (.var 2) false) (.var 3) (.var 2))) .nil)))⟩⟩
def d_law_places : Vi.Src := ⟨"_law_places", 171, ["nets_bad", "rows_bad", "any_bad", "bits_bad", "perms_bad", "net_so", "row_so", "whole_bad", "found", "door", "more_so"], ⟨false, 0, 11, (.cons (.asg (.nm 0) (.lst (.cons (.lit .non) (.cons (.lit (.int 5)) (.cons (.tup .nil) (.cons (.tup (.cons (.lit (.int 3)) .nil)) (.cons (.tup (.cons (.lit (.int 0)) (.cons (.tup .nil) .nil))) (.cons (.tup (.cons (.lit (.int 25)) (.cons (.tup .nil) .nil))) (.cons (.tup (.cons (.lit (.bl true)) (.cons (.tup .nil) .nil))) (.cons (.tup (.cons (.lit (.int 3)) (.cons (.tup (.cons (.tup (.cons (.lit (.int 1)) (.cons (.lit (.int 1)) .nil))) .nil)) .nil))) (.cons (.tup (.cons (.lit (.int 3)) (.cons (.tup (.cons (.tup (.cons (.lit (.int 2)) (.cons (.lit (.int 1)) .nil))) .nil)) .nil))) (.cons (.tup (.cons (.lit (.int 3)) (.cons (.tup (.cons (.tup (.cons (.lit (.int 0)) (.cons (.lit (.int 3)) .nil))) .nil)) .nil))) (.cons (.tup (.cons (.lit (.int 3)) (.cons (.tup (.cons (.tup (.cons (.lit (.int 0)) (.cons (.lit (.bl true)) .nil))) .nil)) .nil))) (.cons (.tup (.cons (.lit (.int 3)) (.cons (.tup (.cons (.lit (.int 0)) (.cons (.lit (.int 1)) .nil))) .nil))) (.cons (.tup (.cons (.lit (.int 2)) (.cons (.op .mul (.tup (.cons (.tup (.cons (.lit (.int 0)) (.cons (.lit (.int 1)) .nil))) .nil)) (.lit (.int 801))) .nil))) (.cons (.lit (.str "net")) .nil)))))))))))))))) (.cons (.asg (.nm 1) (.lst (.cons (.lit .non) (.cons (.lit (.int 5)) (.cons (.tup .nil) (.cons (.tup (.cons (.lit (.int 1)) (.cons (.lit (.int 2)) .nil))) (.cons (.tup (.cons (.lit (.int 1)) (.cons (.lit (.int 2)) (.cons (.lit (.int 3)) (.cons (.lit (.int 4)) .nil))))) (.cons (.tup (.cons (.lit (.int 1)) (.cons (.lit (.int 2)) (.cons (.lit (.bl true)) .nil)))) (.cons (.tup (.cons (.lit (.int 1)) (.cons (.lit (.int 2)) (.cons (.lit (.int 1000001)) .nil)))) (.cons (.tup (.cons (.lit (.int 1)) (.cons (.lit (.int 2)) (.cons (.neg (.lit (.int 1000001))) .nil)))) (.cons (.tup (.cons (.lit (.int 1)) (.cons (.lit (.int 2)) (.cons (.lit (.str "3")) .nil)))) (.cons (.lit (.str "012")) .nil)))))))))))) (.cons (.asg (.nm 2) (.lst (.cons (.lit .non) (.cons (.lit (.int 5)) (.cons (.tup .nil) (.cons (.op .mul (.tup (.cons (.lit (.int 0)) .nil)) (.lit (.int 25))) (.cons (.tup (.cons (.lit (.int 0)) (.cons (.lit .non) .nil))) (.cons (.tup (.cons (.lit (.bl true)) .nil)) (.cons (.tup (.cons (.lit (.int 1000001)) .nil)) (.cons (.lit (.str "01")) .nil)))))))))) (.cons (.asg (.nm 3) (.lst (.cons (.lit .non) (.cons (.lit (.int 5)) (.cons (.tup .nil) (.cons (.tup (.cons (.lit (.int 0)) (.cons (.lit (.int 2)) .nil))) (.cons (.tup (.cons (.lit (.int 0)) (.cons (.neg (.lit (.int 1))) .nil))) (.cons (.tup (.cons (.lit (.bl true)) (.cons (.lit (.int 0)) .nil))) (.cons (.op .mul (.tup (.cons (.lit (.int 0)) .nil)) (.lit (.int 25))) (.cons (.lit (.str "10")) .nil)))))))))) (.cons (.asg (.nm 4) (.lst (.cons (.lit .non) (.cons (.lit (.int 5)) (.cons (.tup .nil) (.cons (.tup (.cons (.lit (.int 0)) (.cons (.lit (.int 0)) .nil))) (.cons (.tup (.cons (.lit (.int 0)) (.cons (.lit (.int 2)) .nil))) (.cons (.tup (.cons (.lit (.int 1)) (.cons (.lit (.int 2)) .nil))) (.cons (.tup (.cons (.lit (.int 0)) (.cons (.lit (.bl true)) .nil))) (.cons (.prim .tuple (.cons (.prim .listR (.cons (.lit (.int 25)) .nil)) .nil)) (.cons (.lit (.str "01")) .nil))))))))))) (.cons (.par [5, 6, 7] (.cons (.tup (.cons (.lit (.int 3)) (.cons (.tup (.cons (.tup (.cons (.lit (.int 0)) (.cons (.lit (.int 1)) .nil))) (.cons (.tup (.cons (.lit (.int 1)) (.cons (.lit (.int 2)) .nil))) .nil))) .nil))) (.cons (.tup (.cons (.lit (.int 2)) (.cons (.lit (.int 0)) (.cons (.lit (.int 1)) .nil)))) (.cons (.lst (.cons (.lit .non) (.cons (.lit (.int 0)) (.cons (.lit (.int 25)) (.cons (.lit (.bl true)) (.cons (.lit (.str "3")) (.cons (.tup (.cons (.lit (.int 3)) .nil)) .nil))))))) .nil)))) (.cons (.asg (.nm 8) (.lc [9] [9] false (.ov (.tup (.cons (.fnv 26) (.cons (.fnv 27) (.cons (.fnv 28) (.cons (.fnv 31) (.cons (.fnv 49) (.cons (.fnv 50) (.cons (.fnv 51) (.cons (.fnv 88) (.cons (.fnv 91) (.cons (.fnv 92) (.cons (.fnv 96) (.cons (.fnv 108) (.cons (.fnv 113) .nil))))))))))))))) .no (.tup (.cons (.var 9) (.cons (.tup (.cons (.var 5) .nil)) (.cons (.lit (.int 0)) (.cons (.var 0) .nil))))))) (.cons (.for_ [9] false (.ov (.tup (.cons (.fnv 22) (.cons (.fnv 23) (.cons (.fnv 24) (.cons (.fnv 52) .nil)))))) (.cons (.asg (.nm 8) (.op .add (.var 8) (.lst (.cons (.tup (.cons (.var 9) (.cons (.tup (.cons (.var 5) (.cons (.var 6) .nil))) (.cons (.lit (.int 0)) (.cons (.var 0) .nil))))) (.cons (.tup (.cons (.var 9) (.cons (.tup (.cons (.var 5) (.cons (.var 6) .nil))) (.cons (.lit (.int 1)) (.cons (.var 1) .nil))))) .nil))))) .nil)) (.cons (.for_ [9] false (.ov (.tup (.cons (.fnv 29) (.cons (.fnv 30) (.cons (.fnv 95) .nil))))) (.cons (.asg (.nm 8) (.op .add (.var 8) (.lst (.cons (.tup (.cons (.var 9) (.cons (.tup (.cons (.var 5) (.cons (.var 5) .nil))) (.cons (.lit (.int 0)) (.cons (.var 0) .nil))))) (.cons (.tup (.cons (.var 9) (.cons (.tup (.cons (.var 5) (.cons (.var 5) .nil))) (.cons (.lit (.int 1)) (.cons (.var 0) .nil))))) .nil))))) .nil)) (.cons (.asg (.nm 8) (.op .add (.op .add (.var 8) (.lc [9] [9] false (.ov (.tup (.cons (.fnv 21) (.cons (.fnv 89) (.cons (.fnv 110) .nil))))) .no (.tup (.cons (.var 9) (.cons (.tup (.cons (.var 6) .nil)) (.cons (.lit (.int 0)) (.cons (.var 2) .nil))))))) (.lst (.cons (.tup (.cons (.fnv 25) (.cons (.tup (.cons (.var 6) (.cons (.lit (.int 1)) .nil))) (.cons (.lit (.int 0)) (.cons (.var 2) .nil))))) (.cons (.tup (.cons (.fnv 25) (.cons (.tup (.cons (.var 6) (.cons (.lit (.int 1)) .nil))) (.cons (.lit (.int 1)) (.cons (.lst (.cons (.lit .non) (.cons (.lit (.bl true)) (.cons (.lit (.int 1000001)) (.cons (.neg (.lit (.int 1000001))) (.cons (.lit (.str "1")) .nil)))))) .nil))))) .nil))))) (.cons (.asg (.nm 8) (.op .add (.var 8) (.lst (.cons (.tup (.cons (.fnv 32) (.cons (.tup (.cons (.lit (.int 3)) (.cons (.tup .nil) .nil))) (.cons (.lit (.int 0)) (.cons (.var 7) .nil))))) (.cons (.tup (.cons (.fnv 32) (.cons (.tup (.cons (.lit (.int 3)) (.cons (.tup .nil) .nil))) (.cons (.lit (.int 1)) (.cons (.lst (.cons (.lit .non) (.cons (.lit (.int 5)) (.cons (.tup (.cons (.tup (.cons (.lit (.int 0)) (.cons (.lit (.int 0)) .nil))) .nil)) (.cons (.tup (.cons (.tup (.cons (.lit (.int 0)) (.cons (.lit (.int 3)) .nil))) .nil)) (.cons (.tup (.cons (.tup (.cons (.lit (.int 0)) .nil)) .nil)) (.cons (.tup (.cons (.tup (.cons (.lit (.int 0)) (.cons (.lit (.bl true)) .nil))) .nil)) (.cons (.tup (.cons (.lit (.int 0)) (.cons (.lit (.int 1)) .nil))) (.cons (.op .mul (.tup (.cons (.tup (.cons (.lit (.int 1)) (.cons (.lit (.int 0)) .nil))) .nil)) (.lit (.int 801))) .nil))))))))) .nil))))) .nil))))) (.cons (.asg (.nm 8) (.op .add (.op .add (.var 8) (.lc [9] [9] false (.ov (.tup (.cons (.fnv 53) (.cons (.fnv 54) (.cons (.fnv 55) (.cons (.fnv 74) (.cons (.fnv 75) (.cons (.fnv 76) (.cons (.fnv 77) (.cons (.fnv 112) .nil)))))))))) .no (.tup (.cons (.var 9) (.cons (.tup (.cons (.tup (.cons (.lit (.int 1)) (.cons (.lit (.int 0)) .nil))) .nil)) (.cons (.lit (.int 0)) (.cons (.var 3) .nil))))))) (.lst (.cons (.tup (.cons (.fnv 56) (.cons (.tup (.cons (.tup (.cons (.lit (.int 1)) (.cons (.lit (.int 0)) .nil))) (.cons (.lit .non) .nil))) (.cons (.lit (.int 0)) (.cons (.var 3) .nil))))) .nil)))) (.cons (.asg (.nm 8) (.op .add (.op .add (.op .add (.var 8) (.lst (.cons (.tup (.cons (.fnv 48) (.cons (.tup (.cons (.lit (.int 3)) .nil)) (.cons (.lit (.int 0)) (.cons (.var 7) .nil))))) .nil))) (.lc [9] [9] false (.ov (.tup (.cons (.fnv 78) (.cons (.fnv 90) (.cons (.fnv 134) .nil))))) .no (.tup (.cons (.var 9) (.cons (.tup (.cons (.lit (.int 3)) .nil)) (.cons (.lit (.int 0)) (.cons (.var 7) .nil))))))) (.lst (.cons (.tup (.cons (.fnv 79) (.cons (.tup (.cons (.lit (.int 3)) .nil)) (.cons (.lit (.int 0)) (.cons (.op .add (.var 7) (.lst (.cons (.lit (.int 11)) .nil))) .nil))))) .nil)))) (.cons (.for_ [9] false (.ov (.tup (.cons (.fnv 58) (.cons (.fnv 59) .nil)))) (.cons (.asg (.nm 8) (.op .add (.var 8) (.lst (.cons (.tup (.cons (.var 9) (.cons (.tup (.cons (.lit (.int 2)) (.cons (.tup .nil) .nil))) (.cons (.lit (.int 0)) (.cons (.var 7) .nil))))) (.cons (.tup (.cons (.var 9) (.cons (.tup (.cons (.lit (.int 2)) (.cons (.tup .nil) .nil))) (.cons (.lit (.int 1)) (.cons (.lst (.cons (.lit .non) (.cons (.lit (.int 5)) (.cons (.tup (.cons (.tup (.cons (.lit (.int 0)) (.cons (.lit (.int 1)) (.cons (.lit (.int 0)) .nil)))) .nil)) (.cons (.tup (.cons (.tup (.cons (.lit (.int 1)) (.cons (.lit (.int 0)) .nil))) (.cons (.tup (.cons (.lit (.int 0)) (.cons (.lit (.int 1)) .nil))) .nil))) (.cons (.tup (.cons (.tup (.cons (.lit (.int 1)) (.cons (.lit (.int 0)) .nil))) (.cons (.tup (.cons (.lit (.int 1)) (.cons (.lit (.int 0)) .nil))) .nil))) (.cons (.tup (.cons (.tup (.cons (.lit (.int 1)) (.cons (.lit (.int 2)) .nil))) .nil)) (.cons (.tup (.cons (.lit (.int 0)) (.cons (.lit (.int 1)) .nil))) .nil)))))))) .nil))))) .nil))))) .nil)) (.cons (.asg (.nm 8) (.op .add (.op .add (.var 8) (.lc [9] [9] false (.ov (.tup (.cons (.fnv 72) (.cons (.fnv 97) (.cons (.fnv 98) .nil))))) .no (.tup (.cons (.var 9) (.cons (.tup (.cons (.tup (.cons (.lit (.int 1)) (.cons (.lit (.int 0)) .nil))) .nil)) (.cons (.lit (.int 0)) (.cons (.var 4) .nil))))))) (.lst (.cons (.tup (.cons (.fnv 99) (.cons (.tup (.cons (.tup (.cons (.lit (.int 1)) (.cons (.lit (.int 0)) .nil))) (.cons (.lit .non) .nil))) (.cons (.lit (.int 0)) (.cons (.var 4) .nil))))) .nil)))) (.cons (.asg (.nm 8) (.op .add (.var 8) (.lst (.cons (.tup (.cons (.fnv 73) (.cons (.tup (.cons (.tup (.cons (.lit (.int 1)) (.cons (.lit (.int 0)) .nil))) (.cons (.tup (.cons (.lit (.int 1)) (.cons (.lit (.int 0)) .nil))) .nil))) (.cons (.lit (.int 0)) (.cons (.var 4) .nil))))) (.cons (.tup (.cons (.fnv 73) (.cons (.tup (.cons (.tup (.cons (.lit (.int 1)) (.cons (.lit (.int 0)) .nil))) (.cons (.tup (.cons (.lit (.int 1)) (.cons (.lit (.int 0)) .nil))) .nil))) (.cons (.lit (.int 1)) (.cons (.op .add (.var 3) (.lst (.cons (.tup (.cons (.lit (.int 1)) .nil)) (.cons (.tup (.cons (.lit (.int 1)) (.cons (.lit (.int 0)) (.cons (.lit (.int 1)) .nil)))) .nil)))) .nil))))) .nil))))) (.cons (.asg (.nm 8) (.op .add (.var 8) (.lst (.cons (.tup (.cons (.fnv 80) (.cons (.tup (.cons (.lit (.int 2)) (.cons (.tup (.cons (.tup (.cons (.lit (.int 1)) (.cons (.lit (.int 0)) .nil))) .nil)) .nil))) (.cons (.lit (.int 0)) (.cons (.var 7) .nil))))) (.cons (.tup (.cons (.fnv 80) (.cons (.tup (.cons (.lit (.int 2)) (.cons (.tup (.cons (.tup (.cons (.lit (.int 1)) (.cons (.lit (.int 0)) .nil))) .nil)) .nil))) (.cons (.lit (.int 1)) (.cons (.lst (.cons (.lit .non) (.cons (.lit (.int 5)) (.cons (.tup (.cons (.tup (.cons (.lit (.int 0)) (.cons (.lit (.int 0)) .nil))) .nil)) (.cons (.tup (.cons (.tup (.cons (.lit (.int 0)) (.cons (.lit (.int 1)) (.cons (.lit (.int 2)) .nil)))) .nil)) (.cons (.tup (.cons (.lit (.int 0)) (.cons (.lit (.int 1)) .nil))) (.cons (.op .mul (.tup (.cons (.tup (.cons (.lit (.int 0)) (.cons (.lit (.int 1)) .nil))) .nil)) (.lit (.int 1001))) .nil))))))) .nil))))) .nil))))) (.cons (.for_ [9] false (.ov (.tup (.cons (.fnv 127) (.cons (.fnv 128) .nil)))) (.cons (.asg (.nm 8) (.op .add (.var 8) (.lst (.cons (.tup (.cons (.var 9) (.cons (.tup (.cons (.var 5) (.cons (.lit (.int 1)) .nil))) (.cons (.lit (.int 0)) (.cons (.var 0) .nil))))) (.cons (.tup (.cons (.var 9) (.cons (.tup (.cons (.var 5) (.cons (.lit (.int 1)) .nil))) (.cons (.lit (.int 1)) (.cons (.lst (.cons (.lit .non) (.cons (.lit (.int 0)) (.cons (.lit (.int 3)) (.cons (.lit (.bl true)) (.cons (.lit (.str "1")) .nil)))))) .nil))))) .nil))))) .nil)) (.cons (.for_ [9, 10] true (.ov (.tup (.cons (.tup (.cons (.fnv 126) (.cons (.tup .nil) .nil))) (.cons (.tup (.cons (.fnv 129) (.cons (.tup .nil) .nil))) (.cons (.tup (.cons (.fnv 132) (.cons (.tup .nil) .nil))) (.cons (.tup (.cons (.fnv 133) (.cons (.tup .nil) .nil))) (.cons (.tup (.cons (.fnv 130) (.cons (.tup (.cons (.lit .non) .nil)) .nil))) .nil))))))) (.cons (.asg (.nm 8) (.op .add (.var 8) (.lst (.cons (.tup (.cons (.var 9) (.cons (.op .add (.tup (.cons (.lit (.int 1)) (.cons (.lit (.int 2)) .nil))) (.var 10)) (.cons (.lit (.int 0)) (.cons (.lst (.cons (.lit .non) (.cons (.lit (.int 0)) (.cons (.lit (.int 13)) (.cons (.lit (.bl true)) .nil))))) .nil))))) (.cons (.tup (.cons (.var 9) (.cons (.op .add (.tup (.cons (.lit (.int 1)) (.cons (.lit (.int 2)) .nil))) (.var 10)) (.cons (.lit (.int 1)) (.cons (.lst (.cons (.lit .non) (.cons (.lit (.int 0)) (.cons (.lit (.int 13)) (.cons (.lit (.bl true)) .nil))))) .nil))))) .nil))))) .nil)) (.cons (.ret (.op .add (.var 8) (.lc [9] [9] false (.ov (.tup (.cons (.fnv 109) (.cons (.fnv 111) .nil)))) .no (.tup (.cons (.var 9) (.cons (.tup (.cons (.lit (.str "net 1")) .nil)) (.cons (.lit (.int 0)) (.cons (.lst (.cons (.lit .non) (.cons (.lit (.int 5)) (.cons (.tup (.cons (.lit (.str "net 1")) .nil)) .nil)))) .nil)))))))) .nil))))))))))))))))))))⟩⟩
def d_law : Vi.Src := ⟨"law", 172, ["script", "tin", "rows_so", "wide_so", "great_so", "doors_so", "got", "door", "goods_so"], ⟨false, 1, 9, (.cons (.asg (.nm 1) (.call 135 (.cons (.call 137 (.cons (.var 0) (.cons (.lit (.int 1)) .nil))) (.cons (.lit (.int 0)) .nil)))) (.cons (.asg (.nm 2) (.call 144 .nil)) (.cons (.ite (.not (.call 142 (.cons (.fnv 143) (.cons (.call 138 (.cons (.var 1) (.cons (.var 2) (.cons (.lit (.int 40)) .nil)))) .nil)))) (.cons (.ret (.lit (.bl false))) .nil) .nil) (.cons (.par [3, 4] (.cons (.tup (.cons (.lit (.int 3)) (.cons (.tup (.cons (.tup (.cons (.lit (.int 0)) (.cons (.lit (.int 2)) .nil))) .nil)) .nil))) (.cons (.tup (.cons (.lit (.int 24)) (.cons (.tup .nil) .nil))) .nil))) (.cons (.asg (.nm 5) (.tup (.cons (.tup (.cons (.fnv 95) (.cons (.tup (.cons (.var 3) (.cons (.lit .non) .nil))) .nil))) (.cons (.tup (.cons (.fnv 29) (.cons (.tup (.cons (.var 4) (.cons (.tup (.cons (.lit (.int 0)) (.cons (.tup .nil) .nil))) .nil))) .nil))) (.cons (.tup (.cons (.fnv 58) (.cons (.tup (.cons (.lit (.int 24)) (.cons (.tup (.cons (.tup (.cons (.lit (.int 0)) (.cons (.lit (.int 1)) .nil))) .nil)) .nil))) .nil))) (.cons (.tup (.cons (.fnv 80) (.cons (.tup (.cons (.lit (.int 24)) (.cons (.tup (.cons (.tup (.cons (.lit (.int 0)) (.cons (.lit (.int 1)) .nil))) .nil)) .nil))) .nil))) (.cons (.tup (.cons (.fnv 52) (.cons (.tup (.cons (.var 4) (.cons (.tup (.cons (.lit (.int 1)) (.cons (.lit (.int 0)) .nil))) .nil))) .nil))) .nil))))))) (.cons (.asg (.nm 6) (.lc [7, 8] [7, 8] true (.ov (.var 5)) .no (.call 143 (.cons (.var 7) (.cons (.var 8) .nil))))) (.cons (.ite (.not (.call 139 (.cons (.var 6) (.cons (.op .mul (.lst (.cons (.lst (.cons (.lit (.str "unfit")) (.cons (.lit (.bl true)) .nil))) .nil)) (.lit (.int 5))) .nil)))) (.cons (.ret (.lit (.bl false))) .nil) .nil) (.cons (.asg (.nm 6) (.lc [7, 8] [7, 8] true (.ov (.tup (.cons (.tup (.cons (.fnv 52) (.cons (.tup (.cons (.tup (.cons (.lit (.int 2)) (.cons (.tup (.cons (.tup (.cons (.lit (.int 0)) (.cons (.lit (.int 1)) .nil))) .nil)) .nil))) (.cons (.tup (.cons (.lit (.int 1)) (.cons (.lit (.int 0)) .nil))) .nil))) .nil))) (.cons (.tup (.cons (.fnv 54) (.cons (.tup (.cons (.tup (.cons (.lit (.int 0)) (.cons (.lit (.int 1)) .nil))) .nil)) .nil))) (.cons (.tup (.cons (.fnv 56) (.cons (.tup (.cons (.op .add (.op .mul (.tup (.cons (.lit (.int 0)) .nil)) (.lit (.int 13))) (.tup (.cons (.lit (.int 1)) .nil))) (.cons (.lit .non) .nil))) .nil))) .nil))))) .no (.call 143 (.cons (.var 7) (.cons (.var 8) .nil))))) (.cons (.ret (.call 139 (.cons (.var 6) (.cons (.op .mul (.lst (.cons (.lst (.cons (.lit (.str "can not")) (.cons (.lit (.bl true)) .nil))) .nil)) (.lit (.int 3))) .nil)))) .nil)))))))))⟩⟩
def src : List Vi.Src := [d_is_number, d_is_within, d_ascends, d_tupled, d_sure_within, d_is_comparer_in, d_is_net_in, d_sure_net, d_is_row_in, d_sure_any_row, d_sure_row, d_is_in_order, d_compared, d_made_in, d_steps_in, d_exchanging_in, d_cut_in, d_bits_of, d_layers_in, d_mirrored_in, d_straight_in, d_in_order, d_made, d_steps_made, d_exchanged, d_cut, d_layers, d_depth, d_mirrored, d_put_behind] ++ [d_put_beside, d_idle, d_straight, d_is_turned_in, d_is_bits_in, d_sure_bits, d_sure_few, d_unsorted_in, d_failing_in, d_lone_made_in, d_shifted, d_without, d_lone_in, d_led_down, d_first_unsorted_in, d_sure_unsorted, d_are_bits_set_in, d_missing_in, d_unsorted_bits, d_unsorted_by, d_sorts_all, d_first_unsorted, d_cut_unsorted, d_row_of_bits, d_lone_net, d_lone_made, d_is_lone_net, d_sure_bits_set, d_missing_bits, d_tells_all] ++ [d_is_perm_in, d_sure_perm, d_are_perms_in, d_sure_perms, d_cuts_in, d_pairs_in, d_free_in, d_chain_in, d_chain_perm_in, d_telling_in, d_chosen, d_uncovered_in, d_perm_cuts, d_covers, d_bit_pairs, d_free_lines, d_chain, d_chain_perm, d_fewest_perms, d_telling_perms, d_uncovered, d_is_near_in, d_sure_near, d_falling_in, d_short_in, d_inversions_in, d_all_pairs, d_near_to_in, d_is_near, d_inversions] ++ [d_falling, d_falls_to, d_sorts_near, d_sure_two_near, d_do_same_in, d_do_same, d_shortened, d_fewest_near, d_near_net_to, d_is_near_net_to, d_run_from, d_line_words, d_words, d_is_figures, d_number_of, d_sure_text, d_spaced, d_read_marked, d_net_text, d_read_net, d_row_text, d_read_row, d_bits_word, d_drawing, d_part_bits, d_join_bits_in, d_unjoined_in, d_sure_part, d_sure_sizes, d_row_by_steps] ++ [d_join_rows_in, d_covers_joins_in, d_merged, d_odd_even_in, d_count_in, d_halved_in, d_join_bits, d_joins, d_first_unjoined, d_join_rows, d_are_join_rows, d_is_join_row, d_odd_even_net, d_odd_even_count, d_halved_net, d_law_box, d_law_take, d_law_cells, d_law_pick, d_law_same, d_law_unmarked, d_law_call, d_law_none_fits, d_law_heard, d_law_places, d_law]
def cI : List (PySem.Str × Int) := [("MOST_LINES", 24), ("MOST_COMPARERS", 800), ("MOST_LOOKED", 12), ("MOST_HELD", 1000000), ("MOST_PERMS", 1000), ("MOST_TOLD", 10), ("LONGEST", 31), ("MOST_JOINED", 12)]
def cS : List (PySem.Str × PySem.Str) := [("FIGURES", "0123456789"), ("SIGNS", "abcdefghijklmnopqrstuvwxyz0123456789-"), ("BELOW", "-"), ("REMARK", "#")]
def clss : List PySem.Str := ["BadText", "CanNot", "TooMany", "Unfit"]
def plain : List PySem.Str := ["CanNot", "TooMany", "Unfit"]
end Law

namespace Law
open PySem
abbrev P90 : Program := PySem.Challenge.pw_looksfororder_k90_whole_refused_of_nets
theorem tab_ok : (src.map (Vi.rowOf P90)).all (Vi.ckRow (Vi.globOf src cI cS clss plain)) = true := by decide +kernel
end Law
set_option Elab.async false
set_option linter.all false
set_option maxRecDepth 100000
set_option maxHeartbeats 400000
namespace Law
open PySem Vi
def df (f : Nat) : Option Vi.Def := (src[f]?).map (·.df)
abbrev L0 : Cls := LOf clss plain
abbrev cl (m f : Nat) (io : Option (List D)) (as : List D) := Vi.call df L0 m f io as
theorem call_eq {defs : Nat → Option Def} {L : Cls} {n f : Nat} {io : Option (List D)} {ds : List D} {d : Def} (h : defs f = some d) (h2 : (d.io == io.isSome && d.np == ds.length + (if d.io then 1 else 0)) = true) :
    call defs L (n + 1) f io ds = match evSs ⟨defs, call defs L n⟩ L (ioIx d.io) d.body (begin_ d.n io ds) with
        | some fl => fin d.io fl
        | none => none := by
  show (match defs f with
    | none => none
    | some df => if df.io == io.isSome && df.np == ds.length + (if df.io then 1 else 0) then
        (match evSs ⟨defs, call defs L n⟩ L (ioIx df.io) df.body (begin_ df.n io ds) with
        | some fl => fin df.io fl
        | none => none)
      else none) = _
  rw [h]
  simp only [h2, if_true]
theorem forLoop_inv {f : Vi.Env → D → Option Fl} (Inv : Nat → Vi.Env → Prop) : ∀ {ds : List D} {ρ : Vi.Env}, (∀ ρ d k, d ∈ ds → Inv (k + 1) ρ → ∃ ρ1, f ρ d = some (.nx ρ1) ∧ Inv k ρ1) → Inv ds.length ρ → ∃ ρ', forLoop f ρ ds = some (.nx ρ') ∧ Inv 0 ρ'
  | [], ρ, _, h => ⟨ρ, rfl, h⟩
  | d :: ds, ρ, st, h => by
    obtain ⟨ρ1, e, h1⟩ := st ρ d ds.length List.mem_cons_self h
    obtain ⟨ρ2, e2, h2⟩ := forLoop_inv Inv (ds := ds) (fun ρ d k m i => st ρ d k (List.mem_cons_of_mem _ m) i) h1
    refine ⟨ρ2, ?_, h2⟩
    show (match f ρ d with
    | some (.nx ρ1) => forLoop f ρ1 ds
    | some (.ct ρ1) => forLoop f ρ1 ds
    | some (.bk ρ1) => some (.nx ρ1)
    | some fl => some fl
    | none => none) = _
    rw [e]
    exact e2
theorem dbox : df 135 = some d_law_box.df := by rfl
theorem mulOk_bit (w : Int) (p : Prop) [Decidable p] : mulOk w (if p then 1 else 0) = true := by
  unfold mulOk
  by_cases h : p <;> simp [h]
theorem box (m : Nat) (v : Int) : ∃ a b : Int, 0 ≤ a ∧ cl (m + 1) 135 none [.lst [.int v], .int 0] = some (.ok (.nw [.int a, .int b, .int 0]) none) := by
  refine ⟨(if v < 0 then -v else v) * (if 1000000000000000000 ≤ (if v < 0 then -v else v) then 1 else 0), v % 2305843009213693951 + 26293090, Int.mul_nonneg (by split <;> omega) (by split <;> omega), ?_⟩
  rw [cl, call_eq dbox (by rfl)]
  have k1 : mulOk (39373 : Int) 0 = true := by decide
  simp [d_law_box, evSs, evS, evE, evEs, bnd, bndS, peek, peeks, pks, pk, liftR, evOp, evPr, begin_, put, slOf, esc, ioIx, truth, tru, L2.atI, L2.ixN, mulOk_bit, k1, mkL, fit, lim, fin, outOf, escs]
theorem dtake : df 136 = some d_law_take.df := by rfl
theorem mulOk_l (x : Int) : mulOk 48271 x = true := by simp [mulOk]
theorem mulOk_r (x : Int) : mulOk x 48271 = true := by simp [mulOk]
theorem mulOk_w (x y : Int) : mulOk x (y % 40009 + 7) = true := by
  have := Int.emod_nonneg y (show (40009 : Int) ≠ 0 by omega)
  have := Int.emod_lt_of_pos y (show (0 : Int) < 40009 by omega)
  simp [mulOk]
  omega
theorem take_ok (m : Nat) {a b c : Int} {n : Nat} (ha : 0 ≤ a) (hc : 0 ≤ c) (hc2 : c < 1000000) (hn : 0 < n) (hn2 : n < 1000000) : ∃ a' c' : Int, ∃ r : Nat, 0 ≤ a' ∧ 0 ≤ c' ∧ c' ≤ c + 1 ∧ r < n ∧
    cl (m + 1) 136 (some [.int a, .int b, .int c]) [.int n] = some (.ok (.v (.int r)) (some [.int a', .int b, .int c'])) := by
  have n0 : (0 : Int) < n := by omega
  have n1 : (n : Int) < 1073741824 := by omega
  have cast : ∀ x : Int, ∃ r : Nat, r < n ∧ x % (n : Int) = r := fun x => ⟨(x % n).toNat, by have := Int.emod_nonneg x (show (n : Int) ≠ 0 by omega); have := Int.emod_lt_of_pos x n0; omega, by have := Int.emod_nonneg x (show (n : Int) ≠ 0 by omega); omega⟩
  by_cases h : 0 < a
  · obtain ⟨r, hr, er⟩ := cast a
    refine ⟨a / n, c, r, Int.ediv_nonneg ha (by omega), hc, by omega, hr, ?_⟩
    rw [cl, call_eq dtake (by rfl)]
    simp [d_law_take, evSs, evS, evE, evEs, bnd, bndS, peek, peeks, pks, pk, liftR, evOp, evPr, begin_, put, slOf, esc, ioIx, truth, tru, L2.atI, L2.ixN, stTg, putIx, setS, fin, outOf, h, n0, n1, hn]
    exact er
  · have k1 : ∀ x : Int, mulOk x (39373 + (c + 1)) = true := fun x => by
      simp [mulOk]
      omega
    obtain ⟨r, hr, er⟩ := cast ((((((b + 48271 * (c + 1)) * (39373 + (c + 1)) % 2147483647 + (c + 1) + b / 1000003) * ((b + 48271 * (c + 1)) * (39373 + (c + 1)) % 2147483647 % 40009 + 7)) % 2147483629 * 48271 + (b + 48271 * (c + 1)) * (39373 + (c + 1)) % 2147483647) % 2147483587) / 64)
    refine ⟨a, c + 1, r, ha, by omega, by omega, hr, ?_⟩
    rw [cl, call_eq dtake (by rfl)]
    simp [d_law_take, evSs, evS, evE, evEs, bnd, bndS, peek, peeks, pks, pk, liftR, evOp, evPr, begin_, put, slOf, esc, ioIx, truth, tru, L2.atI, L2.ixN, stTg, putIx, setS, fin, outOf, h, n0, n1, hn, mulOk_l, mulOk_r, mulOk_w, k1]
    exact er
theorem seqIx {r n : Nat} (h : r < n) : seqIndex? (r : Int) n = some r := by
  unfold seqIndex?
  have : ¬ (r : Int) < 0 := by omega
  simp [this, h]
theorem mu_app {xs : List D} {y : D} (h : xs.length < 100000) : evMu .append xs [y] = some (.v .non, xs ++ [y]) := by
  show (if Nat.blt xs.length lim then some (R.v D.non, xs ++ [y]) else none) = _
  rw [if_pos]
  have : xs.length < lim := Nat.lt_of_lt_of_le h (by decide)
  exact Nat.ble_eq_true_of_le this
theorem mu_pop {xs : List D} {r : Nat} {y : D} (h : r < xs.length) (h2 : xs.length < 1000000) (e : xs[r]? = some y) : evMu .pop xs [.int r] = some (.v y, xs.eraseIdx r) := by
  show (if small r then (match seqIndex? r xs.length with
    | some k => (match xs[k]? with
      | some y => some (R.v y, xs.eraseIdx k)
      | none => none)
    | none => none) else none) = _
  have sm : small (r : Int) = true := by
    unfold small
    rw [decide_eq_true (by omega), decide_eq_true (by omega)]
    rfl
  rw [if_pos sm, seqIx h]
  simp only [e]
def pickB : Ss := .cons (.ex (.mut .append 4 (.cons (.mut .pop 3 (.cons (.call 136 (.cons (.var 0) (.cons (.prim .len (.cons (.var 3) .nil)) .nil))) .nil)) .nil))) .nil
theorem pick_a {C : Vi.Ctx} {df0 : Def} {tin tin' pool : List D} {s1 s2 s4 s5 : Option Sl} {r : Nat} (hd : C.defs 136 = some df0) (hio : df0.io = true)
    (e : C.run 136 (some tin) [.int pool.length] = some (Vi.CRes.ok (.v (.int r)) (some tin'))) :
    evE C (.call 136 (.cons (.var 0) (.cons (.prim .len (.cons (.var 3) .nil)) .nil))) [some (.ow tin), s1, s2, some (.ow pool), s4, s5] = some (.ok (.v (.int r)) [some (.ow tin'), s1, s2, some (.ow pool), s4, s5]) := by
  simp [evE, evEs, bnd, doCall, hd, hio, args, escs, esc, e, back, peek, peeks, pks, pk, liftR, evPr]
theorem mut_one {C : Vi.Ctx} {m : Mu} {i : Nat} {ex : E} {ρ ρ1 : Vi.Env} {xs0 xs ys : List D} {d : D} {r : R} (h0 : ρ[i]? = some (some (.ow xs0))) (e : evE C ex ρ = some (.ok (.v d) ρ1)) (h1 : ρ1[i]? = some (some (.ow xs))) (hm : evMu m xs [d] = some (r, ys)) :
    evE C (.mut m i (.cons ex .nil)) ρ = some (.ok r (ρ1.set i (some (.ow ys)))) := by
  simp only [evE, h0, evEs, e, bnd, escs, esc, h1, hm]
theorem pick_b {C : Vi.Ctx} {tin tin' pool : List D} {s1 s2 s4 s5 : Option Sl} {r : Nat} {ex : E} {y : D} {ys : List D} 
    (e : evE C ex [some (.ow tin), s1, s2, some (.ow pool), s4, s5] = some (.ok (.v (.int r)) [some (.ow tin'), s1, s2, some (.ow pool), s4, s5])) (ep : evMu .pop pool [.int r] = some (.v y, ys)) :
    evE C (.mut .pop 3 (.cons ex .nil)) [some (.ow tin), s1, s2, some (.ow pool), s4, s5] = some (.ok (.v y) [some (.ow tin'), s1, s2, some (.ow ys), s4, s5]) :=
  mut_one (xs0 := pool) rfl e rfl ep
theorem pick_c {C : Vi.Ctx} {L : Cls} {t t' p p' found : List D} {s1 s2 s5 : Option Sl} {ex : E} {y : D} (hf : evMu .append found [y] = some (.v .non, found ++ [y]))
    (e : evE C ex [some (.ow t), s1, s2, some (.ow p), some (.ow found), s5] = some (.ok (.v y) [some (.ow t'), s1, s2, some (.ow p'), some (.ow found), s5])) :
    evSs C L [0] (.cons (.ex (.mut .append 4 (.cons ex .nil))) .nil) [some (.ow t), s1, s2, some (.ow p), some (.ow found), s5] = some (.nx [some (.ow t'), s1, s2, some (.ow p'), some (.ow (found ++ [y])), s5]) := by
  have := mut_one (xs0 := found) (i := 4) rfl e rfl hf
  simp only [evSs, evS, bndS, this]
  rfl
theorem pick_one {C : Vi.Ctx} {L : Cls} {df0 : Def} {tin tin' : List D} {g kk d y : D} {pool found : List D} {x : Option Sl} {r : Nat} (hd : C.defs 136 = some df0) (hio : df0.io = true) (hr : r < pool.length) (hn2 : pool.length < 1000000) (hf : found.length < 100000)
    (ey : pool[r]? = some y) (e : C.run 136 (some tin) [.int pool.length] = some (Vi.CRes.ok (.v (.int r)) (some tin'))) :
      (match setTgIo [0] [some (.ow tin), some (.sh g), some (.sh kk), some (.ow pool), some (.ow found), x] [5] false d with
        | some ρb => evSs C L [0] pickB ρb
        | none => none) = some (.nx [some (.ow tin'), some (.sh g), some (.sh kk), some (.ow (pool.eraseIdx r)), some (.ow (found ++ [y])), some (.sh d)]) :=
  pick_c (mu_app hf) (pick_b (pick_a hd hio e) (mu_pop hr hn2 ey))
def pickIt : It := .rng (.cons (.prim .min (.cons (.prim .int (.cons (.var 2) .nil)) (.cons (.prim .len (.cons (.var 3) .nil)) .nil))) .nil)
theorem dpick : df 138 = some ⟨true, 3, 6, .cons (.par [3, 4] (.cons (.prim .list (.cons (.var 1) .nil)) (.cons (.lst .nil) .nil))) (.cons (.for_ [5] false pickIt pickB) (.cons (.ret (.var 4)) .nil))⟩ := by rfl
theorem pick_it {C : Vi.Ctx} {n : Nat} {s0 s1 s4 s5 : Option Sl} {pool : List D} (hn : pool.length < 1000000) :
    ∃ items, items.length ≤ pool.length ∧ items.length ≤ 40 ∧ evI C pickIt [s0, s1, some (.sh (.int 40)), some (.ow pool), s4, s5] = some (.ok items [s0, s1, some (.sh (.int 40)), some (.ow pool), s4, s5]) := by
  refine ⟨rgU 0 (if (pool.length : Int) < 40 then pool.length else 40), ?_, ?_, ?_⟩
  · simp only [rgU, rgC, List.length_map, List.length_range]
    split <;> omega
  · simp only [rgU, rgC, List.length_map, List.length_range]
    split <;> omega
  · have sm : small (if (pool.length : Int) < 40 then (pool.length : Int) else 40) = true := by
      unfold small
      rw [decide_eq_true (by split <;> omega), decide_eq_true (by split <;> omega)]
      rfl
    simp only [pickIt, evI, evEs, evE, bnd, peeks, pks, pk, liftR, evPr, rangeD, List.getElem?_cons_zero, List.getElem?_cons_succ, sm, if_true]
theorem for_eq {C : Vi.Ctx} {L : Cls} {io tg : List Nat} {tp : Bool} {it : It} {b : Ss} {ρ ρ1 : Vi.Env} {items : List D} {fl : Fl} (h : evI C it ρ = some (.ok items ρ1))
    (h2 : forLoop (fun ρa d => match setTgIo io ρa tg tp d with
    | some ρb => evSs C L io b ρb
    | none => none) ρ1 items = some fl) : evS C L io (.for_ tg tp it b) ρ = some fl := by
  simp only [evS, bndS, h]
  exact h2
theorem seq_nx {C : Vi.Ctx} {L : Cls} {io : List Nat} {s : S} {r : Ss} {ρ ρ1 : Vi.Env} (h : evS C L io s ρ = some (.nx ρ1)) : evSs C L io (.cons s r) ρ = evSs C L io r ρ1 := by
  simp only [evSs, h]
theorem seq_rt {C : Vi.Ctx} {L : Cls} {io : List Nat} {s : S} {r : Ss} {ρ ρ1 : Vi.Env} {v : R} (h : evS C L io s ρ = some (.rt v ρ1)) : evSs C L io (.cons s r) ρ = some (.rt v ρ1) := by
  simp only [evSs, h]
theorem pick_ok (m : Nat) {a b : Int} {goods : List D} (ha : 0 ≤ a) (hg : goods.length < 1000) : ∃ found tin', (∀ d ∈ found, d ∈ goods) ∧
    Vi.call df L0 (m + 2) 138 (some [.int a, .int b, .int 0]) [.lst goods, .int 40] = some (.ok (.nw found) (some tin')) := by
  obtain ⟨items, hi1, hi2, ei⟩ := pick_it (C := ⟨df, Vi.call df L0 (m + 1)⟩) (n := 0) (s0 := some (.ow [.int a, .int b, .int 0])) (s1 := some (.sh (.lst goods))) (s4 := some (.ow [])) (s5 := none) (pool := goods) (by omega)
  obtain ⟨ρ', e, a', b', c', pool', found', x', rfl, _, _, _, _, _, _, _, hf⟩ := forLoop_inv (f := fun ρa d => match setTgIo [0] ρa [5] false d with
    | some ρb => evSs ⟨df, Vi.call df L0 (m + 1)⟩ L0 [0] pickB ρb
    | none => none) (fun k ρ => ∃ a b c : Int, ∃ pool found : List D, ∃ x : Option Sl, ρ = [some (.ow [.int a, .int b, .int c]), some (.sh (.lst goods)), some (.sh (.int 40)), some (.ow pool), some (.ow found), x] ∧
      0 ≤ a ∧ 0 ≤ c ∧ c + k ≤ 1000 ∧ k ≤ pool.length ∧ pool.length < 1000 ∧ found.length + k ≤ 1000 ∧ (∀ d ∈ pool, d ∈ goods) ∧ ∀ d ∈ found, d ∈ goods) (ds := items) (ρ := [some (.ow [.int a, .int b, .int 0]), some (.sh (.lst goods)), some (.sh (.int 40)), some (.ow goods), some (.ow []), none])
    (fun ρ d k _ ⟨a, b, c, pool, found, x, e, h1, h2, h3, h4, h5, h6, h7, h8⟩ => by
      subst e
      obtain ⟨a', c', r, q1, q2, q3, q4, q5⟩ := take_ok m (b := b) h1 h2 (by omega) (n := pool.length) (by omega) (by omega)
      have ey : pool[r]? = some pool[r] := by simp [q4]
      refine ⟨_, pick_one dtake rfl q4 (by omega) (by omega) ey q5, a', b, c', pool.eraseIdx r, found ++ [pool[r]], _, rfl, q1, q2, by omega, ?_, ?_, ?_, fun d hd => h7 d (List.mem_of_mem_eraseIdx hd), fun d hd => ?_⟩
      · rw [List.length_eraseIdx_of_lt q4]; omega
      · rw [List.length_eraseIdx_of_lt q4]; omega
      · rw [List.length_append]
        show found.length + 1 + k ≤ 1000
        omega
      · rcases List.mem_append.mp hd with z | z
        · exact h8 d z
        · rw [List.mem_singleton.mp z]
          exact h7 _ (List.getElem_mem q4))
    ⟨a, b, 0, goods, [], none, rfl, ha, Int.le_refl 0, by omega, hi1, hg, by simp; omega, fun _ h => h, fun _ h => by cases h⟩
  refine ⟨found', [.int a', .int b', .int c'], hf, ?_⟩
  rw [call_eq dpick (by rfl)]
  have hfit : fit goods = true := by
    unfold fit
    exact Nat.ble_eq_true_of_le (Nat.le_trans (Nat.le_of_lt hg) (by decide))
  have s1 : evS ⟨df, Vi.call df L0 (m + 1)⟩ L0 (ioIx true) (.par [3, 4] (.cons (.prim .list (.cons (.var 1) .nil)) (.cons (.lst .nil) .nil))) (begin_ 6 (some [.int a, .int b, .int 0]) [.lst goods, .int 40]) = some (.nx [some (.ow [.int a, .int b, .int 0]), some (.sh (.lst goods)), some (.sh (.int 40)), some (.ow goods), some (.ow []), none]) := by
    simp [evS, begin_, ioIx, evEs, evE, bnd, bndS, evPr, mkL, hfit, peeks, pks, pk, liftR, escs, esc, putAll, slsOf, slOf, putS]
    rfl
  rw [show evSs ⟨df, Vi.call df L0 (m + 1)⟩ L0 (ioIx true) _ (begin_ 6 (some [.int a, .int b, .int 0]) [.lst goods, .int 40]) = _ from seq_nx s1, seq_nx (for_eq ei e)]
  rfl
/-! ### the cells -/
theorem cut_ints (ns : List Int) (lo hi : Option Int) : ∃ ms : List Int, ms.length ≤ ns.length ∧ cutD (ns.map D.int) lo hi = ms.map D.int := by
  refine ⟨(ns.drop (HT.sIx ns.length 0 lo)).take (HT.sIx ns.length ns.length hi - HT.sIx ns.length 0 lo), by rw [List.length_take, List.length_drop]; omega, ?_⟩
  unfold cutD
  rw [List.length_map, List.map_take, List.map_drop]
theorem cut_one (ns : List Int) : cutD (ns.map D.int) none (some 1) = (ns.take 1).map D.int := by
  unfold cutD
  cases ns with
  | nil => rfl
  | cons n r =>
    have : HT.sIx ((n :: r).map D.int).length ((n :: r).map D.int).length (some 1) - HT.sIx ((n :: r).map D.int).length 0 none = 1 := by
      simp [HT.sIx]
    rw [this]
    have : HT.sIx ((n :: r).map D.int).length 0 none = 0 := by simp [HT.sIx]
    rw [this]
    rfl
def cellB : Ss := .cons (.asg (.nm 5) (.op .mod (.prim .int (.cons (.var 3) .nil)) (.var 1))) (.cons (.asg (.sub 2 (.var 5)) (.op .add (.op .ix (.var 2) (.var 5)) (.op .mul (.var 4) (.op .add (.var 3) (.lit (.int 2)))))) .nil)
theorem cell_one {C : Vi.Ctx} {L : Cls} {s0 x3 x4 x5 : Option Sl} {v k u : Int} (hk : 0 ≤ k) (hk2 : k < 1000) :
    (match setTgIo [] [s0, some (.sh (.int 1)), some (.ow [.int v]), x3, x4, x5] [3, 4] true (.tup [.int k, .int u]) with
      | some ρb => evSs C L [] cellB ρb
      | none => none) = some (.nx [s0, some (.sh (.int 1)), some (.ow [.int (v + u * (k + 2))]), some (.sh (.int k)), some (.sh (.int u)), some (.sh (.int 0))]) := by
  have k1 : mulOk u (k + 2) = true := by
    simp [mulOk]
    omega
  simp [setTgIo, setTg, setS, cellB, evSs, evS, evE, evEs, bnd, bndS, peek, peeks, pks, pk, liftR, evPr, evOp, put, slOf, esc, L2.atI, L2.ixN, stTg, putIx, k1, Int.emod_one]
theorem dcells : df 137 = some ⟨false, 2, 6, .cons (.asg (.nm 2) (.or (.prim .list (.cons (.sli (.var 0) .no (.so (.var 1))) .nil)) (.lst (.cons (.lit (.int 0)) .nil)))) (.cons (.for_ [3, 4] true (.enm (.sli (.var 0) (.so (.var 1)) (.so (.lit (.int 63))))) cellB) (.cons (.ret (.var 2)) .nil))⟩ := by rfl
theorem cells_ok (m : Nat) (ns : List Int) (hl : ns.length ≤ 63) : ∃ v : Int, Vi.call df L0 (m + 1) 137 none [.ro (ns.map D.int), .int 1] = some (.ok (.nw [.int v]) none) := by
  obtain ⟨v, ev⟩ : ∃ v : Int, evS ⟨df, Vi.call df L0 m⟩ L0 (ioIx false) (.asg (.nm 2) (.or (.prim .list (.cons (.sli (.var 0) .no (.so (.var 1))) .nil)) (.lst (.cons (.lit (.int 0)) .nil)))) (begin_ 6 none [.ro (ns.map D.int), .int 1]) =
      some (.nx [some (.sh (.ro (ns.map D.int))), some (.sh (.int 1)), some (.ow [.int v]), none, none, none]) := by
    cases ns with
    | nil =>
      refine ⟨0, ?_⟩
      rfl
    | cons n r =>
      refine ⟨n, ?_⟩
      have c1 := cut_one (n :: r)
      have c2 : cutD (D.int n :: r.map D.int) none (some 1) = [D.int n] := c1
      simp [evS, begin_, ioIx, evEs, evE, evEo, bnd, bndS, evPr, mkL, fit, lim, peeks, peek, pks, pk, liftR, evSli, tru, truth, escs, esc, put, slOf, c2]
  obtain ⟨ms, hm, em⟩ := cut_ints ns (some 1) (some 63)
  have ei : evI ⟨df, Vi.call df L0 m⟩ (.enm (.sli (.var 0) (.so (.var 1)) (.so (.lit (.int 63))))) [some (.sh (.ro (ns.map D.int))), some (.sh (.int 1)), some (.ow [.int v]), none, none, none] =
      some (.ok ((ms.map D.int).zipIdx.map fun p => .tup [.int p.2, p.1]) [some (.sh (.ro (ns.map D.int))), some (.sh (.int 1)), some (.ow [.int v]), none, none, none]) := by
    simp [evI, evE, evEo, bnd, peek, pk, liftR, evSli, esc, em]
  obtain ⟨ρ', e, v', x3, x4, x5, rfl⟩ := forLoop_inv (f := fun ρa d => match setTgIo [] ρa [3, 4] true d with
    | some ρb => evSs ⟨df, Vi.call df L0 m⟩ L0 [] cellB ρb
    | none => none) (fun _ ρ => ∃ v : Int, ∃ x3 x4 x5 : Option Sl, ρ = [some (.sh (.ro (ns.map D.int))), some (.sh (.int 1)), some (.ow [.int v]), x3, x4, x5]) (ds := (ms.map D.int).zipIdx.map fun p => .tup [.int p.2, p.1]) (ρ := [some (.sh (.ro (ns.map D.int))), some (.sh (.int 1)), some (.ow [.int v]), none, none, none])
    (fun ρ d k hd ⟨v, x3, x4, x5, e⟩ => by
      subst e
      obtain ⟨p, hp, rfl⟩ := List.mem_map.mp hd
      obtain ⟨h1, h2, h3⟩ := List.mem_zipIdx hp
      rw [List.length_map] at h2
      rw [List.getElem_map] at h3
      rw [h3]
      exact ⟨_, cell_one (by omega) (by omega), _, _, _, _, rfl⟩)
    ⟨v, none, none, none, rfl⟩
  refine ⟨v', ?_⟩
  rw [call_eq dcells (by rfl)]
  rw [show evSs ⟨df, Vi.call df L0 m⟩ L0 (ioIx false) _ (begin_ 6 none [.ro (ns.map D.int), .int 1]) = _ from seq_nx ev, seq_nx (for_eq (io := ioIx false) ei e)]
  rfl
end Law
set_option Elab.async false
set_option linter.all false
set_option maxRecDepth 100000
set_option maxHeartbeats 0
namespace Law
open Vi
def b_0 : D := .lst [.non, .int 5, .tup [], .tup [.int 3], .tup [.int 0, .tup []], .tup [.int 25, .tup []], .tup [.bl true, .tup []], .tup [.int 3, .tup [.tup [.int 1, .int 1]]], .tup [.int 3, .tup [.tup [.int 2, .int 1]]], .tup [.int 3, .tup [.tup [.int 0, .int 3]]], .tup [.int 3, .tup [.tup [.int 0, .bl true]]], .tup [.int 3, .tup [.int 0, .int 1]], .tup [.int 2, .tup (List.replicate 801 (.tup [.int 0, .int 1]))], .str "net"]
def b_1 : D := .lst [.non, .int 5, .tup [], .tup [.int 1, .int 2], .tup [.int 1, .int 2, .int 3, .int 4], .tup [.int 1, .int 2, .bl true], .tup [.int 1, .int 2, .int 1000001], .tup [.int 1, .int 2, .int (-1000001)], .tup [.int 1, .int 2, .str "3"], .str "012"]
def b_2 : D := .lst [.non, .int 5, .tup [], .tup (List.replicate 25 (.int 0)), .tup [.int 0, .non], .tup [.bl true], .tup [.int 1000001], .str "01"]
def b_3 : D := .lst [.non, .bl true, .int 1000001, .int (-1000001), .str "1"]
def b_4 : D := .lst [.non, .int 0, .int 25, .bl true, .str "3", .tup [.int 3]]
def b_5 : D := .lst [.non, .int 5, .tup [.tup [.int 0, .int 0]], .tup [.tup [.int 0, .int 3]], .tup [.tup [.int 0]], .tup [.tup [.int 0, .bl true]], .tup [.int 0, .int 1], .tup (List.replicate 801 (.tup [.int 1, .int 0]))]
def b_6 : D := .lst [.non, .int 5, .tup [], .tup [.int 0, .int 2], .tup [.int 0, .int (-1)], .tup [.bl true, .int 0], .tup (List.replicate 25 (.int 0)), .str "10"]
def b_7 : D := .lst [.non, .int 0, .int 25, .bl true, .str "3", .tup [.int 3], .int 11]
def b_8 : D := .lst [.non, .int 5, .tup [.tup [.int 0, .int 1, .int 0]], .tup [.tup [.int 1, .int 0], .tup [.int 0, .int 1]], .tup [.tup [.int 1, .int 0], .tup [.int 1, .int 0]], .tup [.tup [.int 1, .int 2]], .tup [.int 0, .int 1]]
def b_9 : D := .lst [.non, .int 5, .tup [], .tup [.int 0, .int 0], .tup [.int 0, .int 2], .tup [.int 1, .int 2], .tup [.int 0, .bl true], .tup [.int 0, .int 1, .int 2, .int 3, .int 4, .int 5, .int 6, .int 7, .int 8, .int 9, .int 10, .int 11, .int 12, .int 13, .int 14, .int 15, .int 16, .int 17, .int 18, .int 19, .int 20, .int 21, .int 22, .int 23, .int 24], .str "01"]
def b_10 : D := .lst [.non, .int 5, .tup [], .tup [.int 0, .int 2], .tup [.int 0, .int (-1)], .tup [.bl true, .int 0], .tup (List.replicate 25 (.int 0)), .str "10", .tup [.int 1], .tup [.int 1, .int 0, .int 1]]
def b_11 : D := .lst [.non, .int 5, .tup [.tup [.int 0, .int 0]], .tup [.tup [.int 0, .int 1, .int 2]], .tup [.int 0, .int 1], .tup (List.replicate 1001 (.tup [.int 0, .int 1]))]
def b_12 : D := .lst [.non, .int 0, .int 3, .bl true, .str "1"]
def b_13 : D := .lst [.non, .int 0, .int 13, .bl true]
def b_14 : D := .lst [.non, .int 5, .tup [.str "net 1"]]
def row_0 : D := .tup [.fn 26, .tup [.tup [.int 3, .tup [.tup [.int 0, .int 1], .tup [.int 1, .int 2]]]], .int 0, b_0]
def row_1 : D := .tup [.fn 27, .tup [.tup [.int 3, .tup [.tup [.int 0, .int 1], .tup [.int 1, .int 2]]]], .int 0, b_0]
def row_2 : D := .tup [.fn 28, .tup [.tup [.int 3, .tup [.tup [.int 0, .int 1], .tup [.int 1, .int 2]]]], .int 0, b_0]
def row_3 : D := .tup [.fn 31, .tup [.tup [.int 3, .tup [.tup [.int 0, .int 1], .tup [.int 1, .int 2]]]], .int 0, b_0]
def row_4 : D := .tup [.fn 49, .tup [.tup [.int 3, .tup [.tup [.int 0, .int 1], .tup [.int 1, .int 2]]]], .int 0, b_0]
def row_5 : D := .tup [.fn 50, .tup [.tup [.int 3, .tup [.tup [.int 0, .int 1], .tup [.int 1, .int 2]]]], .int 0, b_0]
def row_6 : D := .tup [.fn 51, .tup [.tup [.int 3, .tup [.tup [.int 0, .int 1], .tup [.int 1, .int 2]]]], .int 0, b_0]
def row_7 : D := .tup [.fn 88, .tup [.tup [.int 3, .tup [.tup [.int 0, .int 1], .tup [.int 1, .int 2]]]], .int 0, b_0]
def row_8 : D := .tup [.fn 91, .tup [.tup [.int 3, .tup [.tup [.int 0, .int 1], .tup [.int 1, .int 2]]]], .int 0, b_0]
def row_9 : D := .tup [.fn 92, .tup [.tup [.int 3, .tup [.tup [.int 0, .int 1], .tup [.int 1, .int 2]]]], .int 0, b_0]
def row_10 : D := .tup [.fn 96, .tup [.tup [.int 3, .tup [.tup [.int 0, .int 1], .tup [.int 1, .int 2]]]], .int 0, b_0]
def row_11 : D := .tup [.fn 108, .tup [.tup [.int 3, .tup [.tup [.int 0, .int 1], .tup [.int 1, .int 2]]]], .int 0, b_0]
def row_12 : D := .tup [.fn 113, .tup [.tup [.int 3, .tup [.tup [.int 0, .int 1], .tup [.int 1, .int 2]]]], .int 0, b_0]
def row_13 : D := .tup [.fn 22, .tup [.tup [.int 3, .tup [.tup [.int 0, .int 1], .tup [.int 1, .int 2]]], .tup [.int 2, .int 0, .int 1]], .int 0, b_0]
def row_14 : D := .tup [.fn 22, .tup [.tup [.int 3, .tup [.tup [.int 0, .int 1], .tup [.int 1, .int 2]]], .tup [.int 2, .int 0, .int 1]], .int 1, b_1]
def row_15 : D := .tup [.fn 23, .tup [.tup [.int 3, .tup [.tup [.int 0, .int 1], .tup [.int 1, .int 2]]], .tup [.int 2, .int 0, .int 1]], .int 0, b_0]
def row_16 : D := .tup [.fn 23, .tup [.tup [.int 3, .tup [.tup [.int 0, .int 1], .tup [.int 1, .int 2]]], .tup [.int 2, .int 0, .int 1]], .int 1, b_1]
def row_17 : D := .tup [.fn 24, .tup [.tup [.int 3, .tup [.tup [.int 0, .int 1], .tup [.int 1, .int 2]]], .tup [.int 2, .int 0, .int 1]], .int 0, b_0]
def row_18 : D := .tup [.fn 24, .tup [.tup [.int 3, .tup [.tup [.int 0, .int 1], .tup [.int 1, .int 2]]], .tup [.int 2, .int 0, .int 1]], .int 1, b_1]
def row_19 : D := .tup [.fn 52, .tup [.tup [.int 3, .tup [.tup [.int 0, .int 1], .tup [.int 1, .int 2]]], .tup [.int 2, .int 0, .int 1]], .int 0, b_0]
def row_20 : D := .tup [.fn 52, .tup [.tup [.int 3, .tup [.tup [.int 0, .int 1], .tup [.int 1, .int 2]]], .tup [.int 2, .int 0, .int 1]], .int 1, b_1]
def row_21 : D := .tup [.fn 29, .tup [.tup [.int 3, .tup [.tup [.int 0, .int 1], .tup [.int 1, .int 2]]], .tup [.int 3, .tup [.tup [.int 0, .int 1], .tup [.int 1, .int 2]]]], .int 0, b_0]
def row_22 : D := .tup [.fn 29, .tup [.tup [.int 3, .tup [.tup [.int 0, .int 1], .tup [.int 1, .int 2]]], .tup [.int 3, .tup [.tup [.int 0, .int 1], .tup [.int 1, .int 2]]]], .int 1, b_0]
def row_23 : D := .tup [.fn 30, .tup [.tup [.int 3, .tup [.tup [.int 0, .int 1], .tup [.int 1, .int 2]]], .tup [.int 3, .tup [.tup [.int 0, .int 1], .tup [.int 1, .int 2]]]], .int 0, b_0]
def row_24 : D := .tup [.fn 30, .tup [.tup [.int 3, .tup [.tup [.int 0, .int 1], .tup [.int 1, .int 2]]], .tup [.int 3, .tup [.tup [.int 0, .int 1], .tup [.int 1, .int 2]]]], .int 1, b_0]
def row_25 : D := .tup [.fn 95, .tup [.tup [.int 3, .tup [.tup [.int 0, .int 1], .tup [.int 1, .int 2]]], .tup [.int 3, .tup [.tup [.int 0, .int 1], .tup [.int 1, .int 2]]]], .int 0, b_0]
def row_26 : D := .tup [.fn 95, .tup [.tup [.int 3, .tup [.tup [.int 0, .int 1], .tup [.int 1, .int 2]]], .tup [.int 3, .tup [.tup [.int 0, .int 1], .tup [.int 1, .int 2]]]], .int 1, b_0]
def row_27 : D := .tup [.fn 21, .tup [.tup [.int 2, .int 0, .int 1]], .int 0, b_2]
def row_28 : D := .tup [.fn 89, .tup [.tup [.int 2, .int 0, .int 1]], .int 0, b_2]
def row_29 : D := .tup [.fn 110, .tup [.tup [.int 2, .int 0, .int 1]], .int 0, b_2]
def row_30 : D := .tup [.fn 25, .tup [.tup [.int 2, .int 0, .int 1], .int 1], .int 0, b_2]
def row_31 : D := .tup [.fn 25, .tup [.tup [.int 2, .int 0, .int 1], .int 1], .int 1, b_3]
def row_32 : D := .tup [.fn 32, .tup [.int 3, .tup []], .int 0, b_4]
def row_33 : D := .tup [.fn 32, .tup [.int 3, .tup []], .int 1, b_5]
def row_34 : D := .tup [.fn 53, .tup [.tup [.int 1, .int 0]], .int 0, b_6]
def row_35 : D := .tup [.fn 54, .tup [.tup [.int 1, .int 0]], .int 0, b_6]
def row_36 : D := .tup [.fn 55, .tup [.tup [.int 1, .int 0]], .int 0, b_6]
def row_37 : D := .tup [.fn 74, .tup [.tup [.int 1, .int 0]], .int 0, b_6]
def row_38 : D := .tup [.fn 75, .tup [.tup [.int 1, .int 0]], .int 0, b_6]
def row_39 : D := .tup [.fn 76, .tup [.tup [.int 1, .int 0]], .int 0, b_6]
def row_40 : D := .tup [.fn 77, .tup [.tup [.int 1, .int 0]], .int 0, b_6]
def row_41 : D := .tup [.fn 112, .tup [.tup [.int 1, .int 0]], .int 0, b_6]
def row_42 : D := .tup [.fn 56, .tup [.tup [.int 1, .int 0], .non], .int 0, b_6]
def row_43 : D := .tup [.fn 48, .tup [.int 3], .int 0, b_4]
def row_44 : D := .tup [.fn 78, .tup [.int 3], .int 0, b_4]
def row_45 : D := .tup [.fn 90, .tup [.int 3], .int 0, b_4]
def row_46 : D := .tup [.fn 134, .tup [.int 3], .int 0, b_4]
def row_47 : D := .tup [.fn 79, .tup [.int 3], .int 0, b_7]
def row_48 : D := .tup [.fn 58, .tup [.int 2, .tup []], .int 0, b_4]
def row_49 : D := .tup [.fn 58, .tup [.int 2, .tup []], .int 1, b_8]
def row_50 : D := .tup [.fn 59, .tup [.int 2, .tup []], .int 0, b_4]
def row_51 : D := .tup [.fn 59, .tup [.int 2, .tup []], .int 1, b_8]
def row_52 : D := .tup [.fn 72, .tup [.tup [.int 1, .int 0]], .int 0, b_9]
def row_53 : D := .tup [.fn 97, .tup [.tup [.int 1, .int 0]], .int 0, b_9]
def row_54 : D := .tup [.fn 98, .tup [.tup [.int 1, .int 0]], .int 0, b_9]
def row_55 : D := .tup [.fn 99, .tup [.tup [.int 1, .int 0], .non], .int 0, b_9]
def row_56 : D := .tup [.fn 73, .tup [.tup [.int 1, .int 0], .tup [.int 1, .int 0]], .int 0, b_9]
def row_57 : D := .tup [.fn 73, .tup [.tup [.int 1, .int 0], .tup [.int 1, .int 0]], .int 1, b_10]
def row_58 : D := .tup [.fn 80, .tup [.int 2, .tup [.tup [.int 1, .int 0]]], .int 0, b_4]
def row_59 : D := .tup [.fn 80, .tup [.int 2, .tup [.tup [.int 1, .int 0]]], .int 1, b_11]
def row_60 : D := .tup [.fn 127, .tup [.tup [.int 3, .tup [.tup [.int 0, .int 1], .tup [.int 1, .int 2]]], .int 1], .int 0, b_0]
def row_61 : D := .tup [.fn 127, .tup [.tup [.int 3, .tup [.tup [.int 0, .int 1], .tup [.int 1, .int 2]]], .int 1], .int 1, b_12]
def row_62 : D := .tup [.fn 128, .tup [.tup [.int 3, .tup [.tup [.int 0, .int 1], .tup [.int 1, .int 2]]], .int 1], .int 0, b_0]
def row_63 : D := .tup [.fn 128, .tup [.tup [.int 3, .tup [.tup [.int 0, .int 1], .tup [.int 1, .int 2]]], .int 1], .int 1, b_12]
def row_64 : D := .tup [.fn 126, .tup [.int 1, .int 2], .int 0, b_13]
def row_65 : D := .tup [.fn 126, .tup [.int 1, .int 2], .int 1, b_13]
def row_66 : D := .tup [.fn 129, .tup [.int 1, .int 2], .int 0, b_13]
def row_67 : D := .tup [.fn 129, .tup [.int 1, .int 2], .int 1, b_13]
def row_68 : D := .tup [.fn 132, .tup [.int 1, .int 2], .int 0, b_13]
def row_69 : D := .tup [.fn 132, .tup [.int 1, .int 2], .int 1, b_13]
def row_70 : D := .tup [.fn 133, .tup [.int 1, .int 2], .int 0, b_13]
def row_71 : D := .tup [.fn 133, .tup [.int 1, .int 2], .int 1, b_13]
def row_72 : D := .tup [.fn 130, .tup [.int 1, .int 2, .non], .int 0, b_13]
def row_73 : D := .tup [.fn 130, .tup [.int 1, .int 2, .non], .int 1, b_13]
def row_74 : D := .tup [.fn 109, .tup [.str "net 1"], .int 0, b_14]
def row_75 : D := .tup [.fn 111, .tup [.str "net 1"], .int 0, b_14]
def places : List D := [row_0, row_1, row_2, row_3, row_4, row_5, row_6, row_7, row_8, row_9, row_10, row_11, row_12, row_13, row_14, row_15, row_16, row_17, row_18, row_19, row_20, row_21, row_22, row_23, row_24, row_25, row_26, row_27, row_28, row_29, row_30, row_31, row_32, row_33, row_34, row_35, row_36, row_37, row_38, row_39, row_40, row_41, row_42, row_43, row_44, row_45, row_46, row_47, row_48, row_49, row_50, row_51, row_52, row_53, row_54, row_55, row_56, row_57, row_58, row_59, row_60, row_61, row_62, row_63, row_64, row_65, row_66, row_67, row_68, row_69, row_70, row_71, row_72, row_73, row_74, row_75]
end Law
namespace Law
open Vi PySem
def isU : Option Vi.CRes → Bool
  | some (.ok (.nw [.str s, .bl true]) none) => s == ("unfit" : Str)
  | _ => false
def rowOk : D → Bool
  | .tup [.fn f, .tup goods, .int p, .lst bads] => bads.all fun own =>
    fit (cutD goods none (some p) ++ [own]) && fit ((cutD goods none (some p) ++ [own]) ++ cutD goods (some (p + 1)) none) && isU (Vi.call df L0 38 143 none [.fn f, .tup ((cutD goods none (some p) ++ [own]) ++ cutD goods (some (p + 1)) none)])
  | _ => false
theorem pl_eq : Vi.call df L0 39 144 none [] = some (.ok (.nw places) none) := by kernel_rfl
theorem r_0 : rowOk row_0 = true := by decide +kernel
theorem r_1 : rowOk row_1 = true := by decide +kernel
theorem r_2 : rowOk row_2 = true := by decide +kernel
theorem r_3 : rowOk row_3 = true := by decide +kernel
theorem r_4 : rowOk row_4 = true := by decide +kernel
theorem r_5 : rowOk row_5 = true := by decide +kernel
theorem r_6 : rowOk row_6 = true := by decide +kernel
theorem r_7 : rowOk row_7 = true := by decide +kernel
theorem r_8 : rowOk row_8 = true := by decide +kernel
theorem r_9 : rowOk row_9 = true := by decide +kernel
theorem r_10 : rowOk row_10 = true := by decide +kernel
theorem r_11 : rowOk row_11 = true := by decide +kernel
theorem r_12 : rowOk row_12 = true := by decide +kernel
theorem r_13 : rowOk row_13 = true := by decide +kernel
theorem r_14 : rowOk row_14 = true := by decide +kernel
theorem r_15 : rowOk row_15 = true := by decide +kernel
theorem r_16 : rowOk row_16 = true := by decide +kernel
theorem r_17 : rowOk row_17 = true := by decide +kernel
theorem r_18 : rowOk row_18 = true := by decide +kernel
theorem r_19 : rowOk row_19 = true := by decide +kernel
theorem r_20 : rowOk row_20 = true := by decide +kernel
theorem r_21 : rowOk row_21 = true := by decide +kernel
theorem r_22 : rowOk row_22 = true := by decide +kernel
theorem r_23 : rowOk row_23 = true := by decide +kernel
theorem r_24 : rowOk row_24 = true := by decide +kernel
theorem r_25 : rowOk row_25 = true := by decide +kernel
theorem r_26 : rowOk row_26 = true := by decide +kernel
theorem r_27 : rowOk row_27 = true := by decide +kernel
theorem r_28 : rowOk row_28 = true := by decide +kernel
theorem r_29 : rowOk row_29 = true := by decide +kernel
theorem r_30 : rowOk row_30 = true := by decide +kernel
theorem r_31 : rowOk row_31 = true := by decide +kernel
theorem r_32 : rowOk row_32 = true := by decide +kernel
theorem r_33 : rowOk row_33 = true := by decide +kernel
theorem r_34 : rowOk row_34 = true := by decide +kernel
theorem r_35 : rowOk row_35 = true := by decide +kernel
theorem r_36 : rowOk row_36 = true := by decide +kernel
theorem r_37 : rowOk row_37 = true := by decide +kernel
theorem r_38 : rowOk row_38 = true := by decide +kernel
theorem r_39 : rowOk row_39 = true := by decide +kernel
theorem r_40 : rowOk row_40 = true := by decide +kernel
theorem r_41 : rowOk row_41 = true := by decide +kernel
theorem r_42 : rowOk row_42 = true := by decide +kernel
theorem r_43 : rowOk row_43 = true := by decide +kernel
theorem r_44 : rowOk row_44 = true := by decide +kernel
theorem r_45 : rowOk row_45 = true := by decide +kernel
theorem r_46 : rowOk row_46 = true := by decide +kernel
theorem r_47 : rowOk row_47 = true := by decide +kernel
theorem r_48 : rowOk row_48 = true := by decide +kernel
theorem r_49 : rowOk row_49 = true := by decide +kernel
theorem r_50 : rowOk row_50 = true := by decide +kernel
theorem r_51 : rowOk row_51 = true := by decide +kernel
theorem r_52 : rowOk row_52 = true := by decide +kernel
theorem r_53 : rowOk row_53 = true := by decide +kernel
theorem r_54 : rowOk row_54 = true := by decide +kernel
theorem r_55 : rowOk row_55 = true := by decide +kernel
theorem r_56 : rowOk row_56 = true := by decide +kernel
theorem r_57 : rowOk row_57 = true := by decide +kernel
theorem r_58 : rowOk row_58 = true := by decide +kernel
theorem r_59 : rowOk row_59 = true := by decide +kernel
theorem r_60 : rowOk row_60 = true := by decide +kernel
theorem r_61 : rowOk row_61 = true := by decide +kernel
theorem r_62 : rowOk row_62 = true := by decide +kernel
theorem r_63 : rowOk row_63 = true := by decide +kernel
theorem r_64 : rowOk row_64 = true := by decide +kernel
theorem r_65 : rowOk row_65 = true := by decide +kernel
theorem r_66 : rowOk row_66 = true := by decide +kernel
theorem r_67 : rowOk row_67 = true := by decide +kernel
theorem r_68 : rowOk row_68 = true := by decide +kernel
theorem r_69 : rowOk row_69 = true := by decide +kernel
theorem r_70 : rowOk row_70 = true := by decide +kernel
theorem r_71 : rowOk row_71 = true := by decide +kernel
theorem r_72 : rowOk row_72 = true := by decide +kernel
theorem r_73 : rowOk row_73 = true := by decide +kernel
theorem r_74 : rowOk row_74 = true := by decide +kernel
theorem r_75 : rowOk row_75 = true := by decide +kernel
theorem rows_ok : places.all rowOk = true := by
  unfold places
  simp only [List.all_cons, List.all_nil, Bool.and_true, r_0, r_1, r_2, r_3, r_4, r_5, r_6, r_7, r_8, r_9, r_10, r_11, r_12, r_13, r_14, r_15, r_16, r_17, r_18, r_19, r_20, r_21, r_22, r_23, r_24, r_25, r_26, r_27, r_28, r_29, r_30, r_31, r_32, r_33, r_34, r_35, r_36, r_37, r_38, r_39, r_40, r_41, r_42, r_43, r_44, r_45, r_46, r_47, r_48, r_49, r_50, r_51, r_52, r_53, r_54, r_55, r_56, r_57, r_58, r_59, r_60, r_61, r_62, r_63, r_64, r_65, r_66, r_67, r_68, r_69, r_70, r_71, r_72, r_73, r_74, r_75]
end Law
set_option Elab.async false
set_option linter.all false
set_option maxRecDepth 100000
set_option maxHeartbeats 1000000
namespace Law
open PySem Vi
theorem isU_eq {r : Option Vi.CRes} (h : isU r = true) : r = some (.ok (.nw [.str "unfit", .bl true]) none) := by
  unfold isU at h
  split at h
  · rw [eq_of_beq h]
  · cases h
def nfI : Ss := .cons (.ite (.op .ne (.callv 0 (.cons (.var 2) (.cons (.op .add (.op .add (.sli (.var 3) .no (.so (.var 4))) (.tup (.cons (.var 6) .nil))) (.sli (.var 3) (.so (.op .add (.var 4) (.lit (.int 1)))) .no)) .nil))) (.lst (.cons (.lit (.str "unfit")) (.cons (.lit (.bl true)) .nil)))) (.cons (.ret (.lit (.bl false))) .nil) .nil) .nil
def nfO : Ss := .cons (.for_ [6] false (.ov (.var 5)) nfI) .nil
theorem dnf : df 142 = some ⟨false, 2, 7, .cons (.for_ [2, 3, 4, 5] true (.ov (.var 1)) nfO) (.cons (.ret (.lit (.bl true))) .nil)⟩ := by rfl
theorem dheard : df 143 = some d_law_heard.df := by rfl
theorem nf_in {C : Vi.Ctx} {L : Cls} {df0 : Def} {s1 s5 : Option Sl} {f : Nat} {goods : List D} {p : Int} {own : D} (hd : C.defs 143 = some df0) (hio : df0.io = false)
    (h1 : fit (cutD goods none (some p) ++ [own]) = true) (h2 : fit ((cutD goods none (some p) ++ [own]) ++ cutD goods (some (p + 1)) none) = true)
    (e : C.run 143 none [.fn f, .tup ((cutD goods none (some p) ++ [own]) ++ cutD goods (some (p + 1)) none)] = some (.ok (.nw [.str "unfit", .bl true]) none)) :
    evSs C L [] nfI [some (.sh (.fn 143)), s1, some (.sh (.fn f)), some (.sh (.tup goods)), some (.sh (.int p)), s5, some (.sh own)] = some (.nx [some (.sh (.fn 143)), s1, some (.sh (.fn f)), some (.sh (.tup goods)), some (.sh (.int p)), s5, some (.sh own)]) := by
  have f1 : fit [own] = true := rfl
  have f2 : fit [D.str "unfit", D.bl true] = true := rfl
  have c : evOp .ne (.lst [.str "unfit", .bl true]) (.lst [.str "unfit", .bl true]) = some (.v (.bl false)) := rfl
  have ea : evOp .add (.tup (cutD goods none (some p))) (.tup [own]) = some (.v (.tup (cutD goods none (some p) ++ [own]))) := by
    show mkT _ = _
    unfold mkT
    rw [if_pos h1]
  have eb : evOp .add (.tup (cutD goods none (some p) ++ [own])) (.tup (cutD goods (some (p + 1)) none)) = some (.v (.tup ((cutD goods none (some p) ++ [own]) ++ cutD goods (some (p + 1)) none))) := by
    show mkT _ = _
    unfold mkT
    rw [if_pos h2]
  have ec : evOp .add (.int p) (.int 1) = some (.v (.int (p + 1))) := rfl
  have m1 : mkT [own] = some (.v (.tup [own])) := rfl
  have m2 : mkL [D.str "unfit", D.bl true] = some (.nw [D.str "unfit", D.bl true]) := rfl
  simp only [nfI, evSs, evS, evE, evEs, evEo, bnd, bndS, doCall, hd, hio, args, escs, esc, e, back, peek, pk, liftR, evSli, ea, eb, ec, c, m1, m2, List.getElem?_cons_zero, List.getElem?_cons_succ, truth, Option.map_none]
theorem nf_out {C : Vi.Ctx} {L : Cls} {df0 : Def} {s1 : Option Sl} {f : Nat} {goods bads : List D} {p : Int} {x6 : Option Sl} (hd : C.defs 143 = some df0) (hio : df0.io = false)
    (h : ∀ own ∈ bads, fit (cutD goods none (some p) ++ [own]) = true ∧ fit ((cutD goods none (some p) ++ [own]) ++ cutD goods (some (p + 1)) none) = true ∧
      C.run 143 none [.fn f, .tup ((cutD goods none (some p) ++ [own]) ++ cutD goods (some (p + 1)) none)] = some (.ok (.nw [.str "unfit", .bl true]) none)) :
    ∃ y6, evSs C L [] nfO [some (.sh (.fn 143)), s1, some (.sh (.fn f)), some (.sh (.tup goods)), some (.sh (.int p)), some (.sh (.lst bads)), x6] = some (.nx [some (.sh (.fn 143)), s1, some (.sh (.fn f)), some (.sh (.tup goods)), some (.sh (.int p)), some (.sh (.lst bads)), y6]) := by
  obtain ⟨ρ', e, y6, rfl⟩ := forLoop_inv (f := fun ρa d => match setTgIo [] ρa [6] false d with
    | some ρb => evSs C L [] nfI ρb
    | none => none) (fun _ ρ => ∃ y6, ρ = [some (.sh (.fn 143)), s1, some (.sh (.fn f)), some (.sh (.tup goods)), some (.sh (.int p)), some (.sh (.lst bads)), y6]) (ds := bads) (ρ := [some (.sh (.fn 143)), s1, some (.sh (.fn f)), some (.sh (.tup goods)), some (.sh (.int p)), some (.sh (.lst bads)), x6])
    (fun ρ d k hm ⟨y6, e⟩ => by
      subst e
      obtain ⟨h1, h2, h3⟩ := h d hm
      exact ⟨_, nf_in hd hio h1 h2 h3, _, rfl⟩) ⟨x6, rfl⟩
  refine ⟨y6, ?_⟩
  have ei : evI C (.ov (.var 5)) [some (.sh (.fn 143)), s1, some (.sh (.fn f)), some (.sh (.tup goods)), some (.sh (.int p)), some (.sh (.lst bads)), x6] = some (.ok bads [some (.sh (.fn 143)), s1, some (.sh (.fn f)), some (.sh (.tup goods)), some (.sh (.int p)), some (.sh (.lst bads)), x6]) := by rfl
  exact (seq_nx (for_eq (io := []) ei e)).trans rfl
theorem nf_ok {rows : List D} (h : ∀ d ∈ rows, rowOk d = true) : Vi.call df L0 39 142 none [.fn 143, .lst rows] = some (.ok (.v (.bl true)) none) := by
  obtain ⟨ρ', e, x2, x3, x4, x5, x6, rfl⟩ := forLoop_inv (f := fun ρa d => match setTgIo [] ρa [2, 3, 4, 5] true d with
    | some ρb => evSs ⟨df, Vi.call df L0 38⟩ L0 [] nfO ρb
    | none => none) (fun _ ρ => ∃ x2 x3 x4 x5 x6, ρ = [some (.sh (.fn 143)), some (.sh (.lst rows)), x2, x3, x4, x5, x6]) (ds := rows) (ρ := [some (.sh (.fn 143)), some (.sh (.lst rows)), none, none, none, none, none])
    (fun ρ d k hm ⟨x2, x3, x4, x5, x6, e⟩ => by
      subst e
      have hr := h d hm
      unfold rowOk at hr
      split at hr
      · rename_i f goods p bads
        obtain ⟨y6, e⟩ := nf_out (C := ⟨df, Vi.call df L0 38⟩) (L := L0) (s1 := some (.sh (.lst rows))) (f := f) (goods := goods) (bads := bads) (p := p) (x6 := x6) dheard rfl (fun own hm => by
          have q := List.all_eq_true.mp hr own hm
          obtain ⟨q, q3⟩ := and2 q
          obtain ⟨q1, q2⟩ := and2 q
          exact ⟨q1, q2, isU_eq q3⟩)
        exact ⟨_, e, _, _, _, _, _, rfl⟩
      · cases hr) ⟨_, _, _, _, _, rfl⟩
  rw [call_eq dnf (by rfl)]
  have ei : evI ⟨df, Vi.call df L0 38⟩ (.ov (.var 1)) (begin_ 7 none [.fn 143, .lst rows]) = some (.ok rows [some (.sh (.fn 143)), some (.sh (.lst rows)), none, none, none, none, none]) := by rfl
  rw [show evSs ⟨df, Vi.call df L0 38⟩ L0 (ioIx false) _ (begin_ 7 none [.fn 143, .lst rows]) = _ from seq_nx (for_eq (io := ioIx false) ei e)]
  rfl
end Law
set_option Elab.async false
set_option linter.all false
set_option maxRecDepth 100000
set_option maxHeartbeats 1000000
namespace Law
open PySem Vi
def lawR : Ss := (.cons (.par [3, 4] (.cons (.tup (.cons (.lit (.int 3)) (.cons (.tup (.cons (.tup (.cons (.lit (.int 0)) (.cons (.lit (.int 2)) .nil))) .nil)) .nil))) (.cons (.tup (.cons (.lit (.int 24)) (.cons (.tup .nil) .nil))) .nil))) (.cons (.asg (.nm 5) (.tup (.cons (.tup (.cons (.fnv 95) (.cons (.tup (.cons (.var 3) (.cons (.lit .non) .nil))) .nil))) (.cons (.tup (.cons (.fnv 29) (.cons (.tup (.cons (.var 4) (.cons (.tup (.cons (.lit (.int 0)) (.cons (.tup .nil) .nil))) .nil))) .nil))) (.cons (.tup (.cons (.fnv 58) (.cons (.tup (.cons (.lit (.int 24)) (.cons (.tup (.cons (.tup (.cons (.lit (.int 0)) (.cons (.lit (.int 1)) .nil))) .nil)) .nil))) .nil))) (.cons (.tup (.cons (.fnv 80) (.cons (.tup (.cons (.lit (.int 24)) (.cons (.tup (.cons (.tup (.cons (.lit (.int 0)) (.cons (.lit (.int 1)) .nil))) .nil)) .nil))) .nil))) (.cons (.tup (.cons (.fnv 52) (.cons (.tup (.cons (.var 4) (.cons (.tup (.cons (.lit (.int 1)) (.cons (.lit (.int 0)) .nil))) .nil))) .nil))) .nil))))))) (.cons (.asg (.nm 6) (.lc [7, 8] [7, 8] true (.ov (.var 5)) .no (.call 143 (.cons (.var 7) (.cons (.var 8) .nil))))) (.cons (.ite (.not (.call 139 (.cons (.var 6) (.cons (.op .mul (.lst (.cons (.lst (.cons (.lit (.str "unfit")) (.cons (.lit (.bl true)) .nil))) .nil)) (.lit (.int 5))) .nil)))) (.cons (.ret (.lit (.bl false))) .nil) .nil) (.cons (.asg (.nm 6) (.lc [7, 8] [7, 8] true (.ov (.tup (.cons (.tup (.cons (.fnv 52) (.cons (.tup (.cons (.tup (.cons (.lit (.int 2)) (.cons (.tup (.cons (.tup (.cons (.lit (.int 0)) (.cons (.lit (.int 1)) .nil))) .nil)) .nil))) (.cons (.tup (.cons (.lit (.int 1)) (.cons (.lit (.int 0)) .nil))) .nil))) .nil))) (.cons (.tup (.cons (.fnv 54) (.cons (.tup (.cons (.tup (.cons (.lit (.int 0)) (.cons (.lit (.int 1)) .nil))) .nil)) .nil))) (.cons (.tup (.cons (.fnv 56) (.cons (.tup (.cons (.op .add (.op .mul (.tup (.cons (.lit (.int 0)) .nil)) (.lit (.int 13))) (.tup (.cons (.lit (.int 1)) .nil))) (.cons (.lit .non) .nil))) .nil))) .nil))))) .no (.call 143 (.cons (.var 7) (.cons (.var 8) .nil))))) (.cons (.ret (.call 139 (.cons (.var 6) (.cons (.op .mul (.lst (.cons (.lst (.cons (.lit (.str "can not")) (.cons (.lit (.bl true)) .nil))) .nil)) (.lit (.int 3))) .nil)))) .nil))))))
def law1 : S := (.asg (.nm 1) (.call 135 (.cons (.call 137 (.cons (.var 0) (.cons (.lit (.int 1)) .nil))) (.cons (.lit (.int 0)) .nil))))
def law2 : S := (.asg (.nm 2) (.call 144 .nil))
def law3 : S := (.ite (.not (.call 142 (.cons (.fnv 143) (.cons (.call 138 (.cons (.var 1) (.cons (.var 2) (.cons (.lit (.int 40)) .nil)))) .nil)))) (.cons (.ret (.lit (.bl false))) .nil) .nil)
theorem dlaw : df 145 = some ⟨false, 1, 9, .cons law1 (.cons law2 (.cons law3 lawR))⟩ := by rfl
def isT : Option Fl → Bool
  | some (.rt (.v (.bl true)) _) => true
  | _ => false
theorem isT_of {o : Option Fl} (h : isT o = true) : ∃ ρ, o = some (.rt (.v (.bl true)) ρ) := by
  unfold isT at h
  split at h
  · exact ⟨_, rfl⟩
  · cases h
theorem rest_ok (s0 s1 s2 : Option Sl) : isT (evSs ⟨df, Vi.call df L0 39⟩ L0 [] lawR [s0, s1, s2, none, none, none, none, none, none]) = true := by kernel_rfl
theorem l1 {C : Vi.Ctx} {L : Cls} {ns : List D} {d1 d2 : Def} {v a b : Int} (h1 : C.defs 137 = some d1) (i1 : d1.io = false) (h2 : C.defs 135 = some d2) (i2 : d2.io = false)
    (e1 : C.run 137 none [.ro ns, .int 1] = some (.ok (.nw [.int v]) none)) (e2 : C.run 135 none [.lst [.int v], .int 0] = some (.ok (.nw [.int a, .int b, .int 0]) none)) :
    evS C L [] law1 [some (.sh (.ro ns)), none, none, none, none, none, none, none, none] = some (.nx [some (.sh (.ro ns)), some (.ow [.int a, .int b, .int 0]), none, none, none, none, none, none, none]) := by
  simp [law1, evS, evE, evEs, bnd, bndS, doCall, h1, i1, h2, i2, args, escs, esc, e1, e2, back, put, slOf]
theorem l2 {C : Vi.Ctx} {L : Cls} {s0 s1 : Option Sl} {d1 : Def} {ps : List D} (h1 : C.defs 144 = some d1) (i1 : d1.io = false) (e1 : C.run 144 none [] = some (.ok (.nw ps) none)) :
    evS C L [] law2 [s0, s1, none, none, none, none, none, none, none] = some (.nx [s0, s1, some (.ow ps), none, none, none, none, none, none]) := by
  simp [law2, evS, evE, evEs, bnd, bndS, doCall, h1, i1, args, escs, esc, e1, back, put, slOf]
theorem l3 {C : Vi.Ctx} {L : Cls} {s0 : Option Sl} {d1 d2 d3 : Def} {ps tin tin' found : List D} (h1 : C.defs 138 = some d1) (i1 : d1.io = true) (h2 : C.defs 142 = some d2) (i2 : d2.io = false)
    (e1 : C.run 138 (some tin) [.lst ps, .int 40] = some (.ok (.nw found) (some tin'))) (e2 : C.run 142 none [.fn 143, .lst found] = some (.ok (.v (.bl true)) none)) :
    evS C L [] law3 [s0, some (.ow tin), some (.ow ps), none, none, none, none, none, none] = some (.nx [s0, some (.ow tin'), some (.sh (.lst ps)), none, none, none, none, none, none]) := by
  simp [law3, evSs, evS, evE, evEs, bnd, bndS, doCall, h1, i1, h2, i2, args, escs, esc, e1, e2, back, tru, pk, truth]
theorem law_true (ns : List Int) (hl : ns.length ≤ 63) : Vi.call df L0 40 145 none [.ro (ns.map D.int)] = some (.ok (.v (.bl true)) none) := by
  obtain ⟨v, ev⟩ := cells_ok 38 ns hl
  obtain ⟨a, b, ha, eb⟩ := box 38 v
  obtain ⟨found, tin', hf, ef⟩ := pick_ok 37 (a := a) (b := b) (goods := places) ha (by decide)
  have en := nf_ok (rows := found) fun d hd => List.all_eq_true.mp rows_ok d (hf d hd)
  have s1 := l1 (C := ⟨df, Vi.call df L0 39⟩) (L := L0) (ns := ns.map D.int) dcells rfl dbox rfl ev eb
  have s2 := l2 (C := ⟨df, Vi.call df L0 39⟩) (L := L0) (s0 := some (.sh (.ro (ns.map D.int)))) (s1 := some (.ow [.int a, .int b, .int 0])) (show df 144 = some d_law_places.df from rfl) rfl pl_eq
  have s3 := l3 (C := ⟨df, Vi.call df L0 39⟩) (L := L0) (s0 := some (.sh (.ro (ns.map D.int)))) (d3 := d_law.df) dpick rfl dnf rfl ef en
  obtain ⟨ρ, er⟩ := isT_of (rest_ok (some (.sh (.ro (ns.map D.int)))) (some (.ow tin')) (some (.sh (.lst places))))
  rw [call_eq dlaw (by rfl)]
  have e : evSs ⟨df, Vi.call df L0 39⟩ L0 (ioIx false) (.cons law1 (.cons law2 (.cons law3 lawR))) (begin_ 9 none [.ro (ns.map D.int)]) = some (.rt (.v (.bl true)) ρ) := (seq_nx s1).trans ((seq_nx s2).trans ((seq_nx s3).trans er))
  simp only [e]
  rfl
theorem defs_eq : Vi.defsOf (src.map (Vi.rowOf P90)) = df := by
  funext f
  unfold Vi.defsOf df
  rw [List.getElem?_map]
  cases src[f]? <;> rfl
theorem hlaw (ns : List Int) (hl : ns.length ≤ 63) : Vi.call (Vi.defsOf (src.map (Vi.rowOf P90))) (LOf clss plain) 40 145 none [.ro (ns.map D.int)] = some (.ok (.v (.bl true)) none) := by
  rw [defs_eq]
  exact law_true ns hl
end Law
set_option Elab.async false
set_option linter.all false
set_option maxRecDepth 100000
set_option maxHeartbeats 0
namespace Law
open PySem PySem.Spec PySem.Calls PyProof.Rows L2
abbrev R : PySem.W.OpenRow := PySem.W.OpenLaw.row PySem.Challenge.rw_looksfororder_k90_whole_refused_of_nets
def fa_ : List He.Fa := Vi.faOf (src.map (·.name)) cI cS clss plain
def fn_ : List He.DefD := src.map (Vi.dOf (PySem.W.OpenLaw.prog PySem.Challenge.rw_looksfororder_k90_whole_refused_of_nets))
abbrev hk : PySem.W.Hook := Vi.hookM clss fa_ fn_ plain
def ob (s : PySem.W.SharedT) : Vi.AlM := Vi.obsM clss fa_ fn_ plain (HandSHeadRun.getT s)
theorem ob_eq (s : PySem.W.SharedT) : ob s = hk.obs s.abs := Vi.obM_eq clss fa_ fn_ plain s
def names : List PySem.Str := (["BadText", "CanNot", "TooMany", "Unfit", "is_number", "is_within", "ascends", "tupled", "sure_within", "MOST_LINES", "MOST_COMPARERS", "MOST_LOOKED", "MOST_HELD", "is_comparer_in", "is_net_in", "sure_net", "is_row_in", "sure_any_row", "sure_row", "is_in_order", "compared", "made_in", "steps_in", "exchanging_in", "cut_in", "bits_of", "layers_in", "mirrored_in", "straight_in", "in_order"] : List PySem.Str) ++ (["made", "steps_made", "exchanged", "cut", "layers", "depth", "mirrored", "put_behind", "put_beside", "idle", "straight", "is_turned_in", "is_bits_in", "sure_bits", "sure_few", "unsorted_in", "failing_in", "lone_made_in", "shifted", "without", "lone_in", "led_down", "first_unsorted_in", "sure_unsorted", "are_bits_set_in", "missing_in", "unsorted_bits", "unsorted_by", "sorts_all", "first_unsorted"] : List PySem.Str) ++ (["cut_unsorted", "row_of_bits", "lone_net", "lone_made", "is_lone_net", "sure_bits_set", "missing_bits", "tells_all", "MOST_PERMS", "MOST_TOLD", "is_perm_in", "sure_perm", "are_perms_in", "sure_perms", "cuts_in", "pairs_in", "free_in", "chain_in", "chain_perm_in", "telling_in", "chosen", "uncovered_in", "perm_cuts", "covers", "bit_pairs", "free_lines", "chain", "chain_perm", "fewest_perms", "telling_perms"] : List PySem.Str) ++ (["uncovered", "is_near_in", "sure_near", "falling_in", "short_in", "inversions_in", "all_pairs", "near_to_in", "is_near", "inversions", "falling", "falls_to", "sorts_near", "sure_two_near", "do_same_in", "do_same", "shortened", "fewest_near", "near_net_to", "is_near_net_to", "FIGURES", "SIGNS", "LONGEST", "BELOW", "REMARK", "run_from", "line_words", "words", "is_figures", "number_of"] : List PySem.Str) ++ (["sure_text", "spaced", "read_marked", "net_text", "read_net", "row_text", "read_row", "bits_word", "drawing", "MOST_JOINED", "part_bits", "join_bits_in", "unjoined_in", "sure_part", "sure_sizes", "row_by_steps", "join_rows_in", "covers_joins_in", "merged", "odd_even_in", "count_in", "halved_in", "join_bits", "joins", "first_unjoined", "join_rows", "are_join_rows", "is_join_row", "odd_even_net", "odd_even_count"] : List PySem.Str) ++ (["halved_net", "_law_box", "_law_take", "_law_cells", "_law_pick", "_law_same", "_law_unmarked", "_law_call", "_law_none_fits", "_law_heard", "_law_places"] : List PySem.Str)
theorem runA (w : World) (os : OsState) : (HandSHeadRun.endF (HandSHeadRun.stepQ (HandSHeadRun.denQ HandSHeadRun.tabQ) R.prog w) 6000 R.prog w os).map (fun s => (HandSHeadRun.looksF R.prog (PySem.W.boot_heap w.params) s.abs, HandSHeadRun.seenQ (PySem.W.view R.prog [172]) names (importedModules R.prog.main.body) (fun s => PySem.W.xlAt (PySem.W.view R.prog [172]) [] s && PySem.W.recOk R.toRowW.records s) s.abs)) = some (true, PySem.W.openGood (PySem.W.view R.prog [172]) names) := by
  kernel_rfl
theorem runB (w : World) (os : OsState) : (HandSHeadRun.endF (HandSHeadRun.stepQ (HandSHeadRun.denQ HandSHeadRun.tabQ) R.prog w) 6000 R.prog w os).map (fun s => ob s) = some (hk.val w) := by
  kernel_rfl
theorem run (w : World) : HandSHeadRun.RunEq R (PySem.W.view R.prog [172]) hk ob 6000 names w := by
  intro os
  have a := runA w os
  have b := runB w os
  revert a b
  cases HandSHeadRun.endF (HandSHeadRun.stepQ (HandSHeadRun.denQ HandSHeadRun.tabQ) R.prog w) 6000 R.prog w os with
  | none => intro a; cases a
  | some s =>
    intro a b
    have a1 := Option.some.inj a
    have b1 := Option.some.inj b
    obtain ⟨a2, a3⟩ := Prod.mk.inj a1
    show some (_, _, ob s) = some (true, _, hk.val w)
    exact congrArg some (Prod.ext a2 (Prod.ext a3 b1))
end Law
open PySem PySem.W PySem.Calls PyProof.Rows
theorem PySem.Challenge.cw_looksfororder_k90_whole_refused_of_nets_holds : PySem.Challenge.rw_looksfororder_k90_whole_refused_of_nets.Holds := by
  w_on; o_law
  refine HandSHeadRun.head_any (r := OpenLaw.row PySem.Challenge.rw_looksfororder_k90_whole_refused_of_nets) (q := view (OpenLaw.row PySem.Challenge.rw_looksfororder_k90_whole_refused_of_nets).prog [172]) (H := Law.hk) (ob := Law.ob) (M := 6000) (loose := Law.names) (d := HandSHeadRun.topDef (OpenLaw.row PySem.Challenge.rw_looksfororder_k90_whole_refused_of_nets).prog 172) (kwd := []) Law.ob_eq
    (by kernel_rfl) (fun s => by kernel_rfl) Law.run (by kernel_rfl) (by kernel_rfl) (by kernel_rfl) (by rfl) (by first | assumption | decide +kernel) (by decide +kernel) ⟨rfl, rfl, rfl, rfl, rfl, by decide +kernel⟩ ?hw ?hc
  case hw => w_witness2
  case hc => exact Vi.law_ofVi (k := 40) (li := 145) (s := Law.d_law) (src := Law.src) (cI := Law.cI) (cS := Law.cS) (clss := Law.clss) (plain := Law.plain) rfl rfl ⟨rfl, by decide +kernel, by decide +kernel⟩ rfl rfl rfl rfl Law.tab_ok Law.hlaw
