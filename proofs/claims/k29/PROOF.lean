import PyProof.Rows.All
import HandS.ForMost
import HandS.Deep
import HandS.NoneIn
import HandS.IsInst
import HandS.Style
import HandS.Zip
import HandS.SortInts
import HandS.HeadHook4
import HandS.HeadWalk
import HandS.Head2
import HandS.HeadEnd
import HandS.Defaults
import PyProof.Rows.StrCountLaw
import KE.SortData
import HandS.TupAny
import HandS.AnyAll
import KE.GoesNew
import KE.GoesMore
import HandS.GenList
import PySem.Challenge.RW_clockless_k29_implementing_covers
set_option Elab.async false
set_option linter.all false
set_option maxRecDepth 100000
set_option maxHeartbeats 4000000
/-! PV, part A: data as trees, the evaluated language, its evaluator. -/
namespace PV
/-- a mutable node: frozen (never written again), locked (borrowed), owned -/
inductive Fl where
  | frz | lck | own
  deriving DecidableEq
inductive D where
  | non | bl (b : Bool) | int (i : Int) | str (s : List Nat) | tup (l : List D) | lst (f : Fl) (l : List D) | scr (l : List Int)
instance : Inhabited D := ⟨.non⟩
mutual
def D.beq : D → D → Bool
  | .non, .non => true
  | .bl a, .bl b => a == b
  | .int a, .int b => a == b
  | .str a, .str b => a == b
  | .tup a, .tup b => D.beqL a b
  | .lst _ a, .lst _ b => D.beqL a b
  | _, _ => false
def D.beqL : List D → List D → Bool
  | [], [] => true
  | a :: as, b :: bs => D.beq a b && D.beqL as bs
  | _, _ => false
end
mutual
def D.isFrz : D → Bool
  | .tup l => D.isFrzL l
  | .lst f l => (f == .frz) && D.isFrzL l
  | _ => true
def D.isFrzL : List D → Bool
  | [] => true
  | d :: ds => D.isFrz d && D.isFrzL ds
end
--  nothing locked within 
mutual
def D.noLck : D → Bool
  | .tup l => D.noLckL l
  | .lst f l => (f != .lck) && D.noLckL l
  | _ => true
def D.noLckL : List D → Bool
  | [] => true
  | d :: ds => D.noLck d && D.noLckL ds
end
mutual
def D.noOwn : D → Bool
  | .tup l => D.noOwnL l
  | .lst f l => (f != .own) && D.noOwnL l
  | _ => true
def D.noOwnL : List D → Bool
  | [] => true
  | d :: ds => D.noOwn d && D.noOwnL ds
end
def D.okD (d : D) : Bool := d.noLck || d.noOwn
mutual
def D.frz : D → D
  | .tup l => .tup (D.frzL l)
  | .lst _ l => .lst .frz (D.frzL l)
  | d => d
def D.frzL : List D → List D
  | [] => []
  | d :: ds => D.frz d :: D.frzL ds
end
/-- an argument: what is owned (it is new) is frozen -/
def D.frzA (d : D) : D := if d.noLck then d.frz else d
def Fl.lock : Fl → Fl
  | .own => .lck
  | f => f
mutual
def D.lock : D → D
  | .tup l => .tup (D.lockL l)
  | .lst f l => .lst f.lock (D.lockL l)
  | d => d
def D.lockL : List D → List D
  | [] => []
  | d :: ds => D.lock d :: D.lockL ds
end
/-- data whose == is compared by structure without an int beside a bool -/
inductive BO where
  | add | sub | mul | fdiv | mod | pow
  deriving DecidableEq
inductive CO where
  | eq | ne | lt | le | gt | ge | inn | nin
  deriving DecidableEq
/-- built-in functions -/
inductive BI where
  | len | int | str | list | tuple | sorted | max | min | sum | range
  deriving DecidableEq
/-- methods of built-in types that write nothing -/
inductive MT where
  | count | index | join | split
  deriving DecidableEq
/-- built-in types, for isinstance -/
inductive BT where
  | int | bool | str | list | tuple
  deriving DecidableEq
inductive Tg where
  | name (i : Nat) | tup (is : List Nat)
  deriving DecidableEq
mutual
inductive E where
  | var (i : Nat) | non | bl (b : Bool) | int (i : Int) | str (s : List Nat) | glb (k : Nat)
  | bin (o : BO) (a b : E) | neg (a : E) | cmp (o : CO) (a b : E) | cmp2 (o p : CO) (a b c : E)
  | isN (n : Bool) (a : E) | isB (n : Bool) (b : Bool) (a : E)
  | and (a b : E) | or (a b : E) | not (a : E) | ite (c a b : E)
  | idx (a b : E) | slc (a lo hi : E) | tup (es : Es) | lst (es : Es)
  | call (f : Nat) (es : Es) | bi (f : BI) (es : Es) | inst (t : BT) (a : E) | mth (m : MT) (o : E) (es : Es)
  | lc (elt : E) (tg : Tg) (it : It) (cond : E)
  | gen (all : Bool) (elt : E) (tg : Tg) (it : It)
  | rev (a : E)
  | nop
inductive Es where
  | nil | cons (e : E) (es : Es)
inductive It where
  | seq (e : E) | rng1 (a : E) | rng2 (a b : E) | rng3 (a b c : E) | zip (a b : E)
end
mutual
inductive S where
  | asg (fr : Bool) (i : Nat) (e : E)
  | asgT (is : List Nat) (e : E)
  | aug (i : Nat) (o : BO) (e : E)
  | app (i : Nat) (e : E)
  | setI (i : Nat) (k : E) (e : E)
  | ite (c : E) (a b : Ss)
  | for_ (lk : List Nat) (tg : Tg) (it : It) (b : Ss)
  | while_ (c : E) (b : Ss)
  | ret (e : E) | retMv (i : Nat) | retN
  | mv (i j : Nat)
  | brk | cnt | pass
  | expr (e : E)
  | fz (i : Nat)
inductive Ss where
  | nil | cons (s : S) (ss : Ss)
end
abbrev Env := List (Option D)
/-- the number of items that a list, signs that a text may have -/
def line : Nat := 16777216

def cut {α : Type} (xs : List α) (lo hi : Option Int) : List α := (xs.drop (HT.sIx xs.length 0 lo)).take (HT.sIx xs.length xs.length hi - HT.sIx xs.length 0 lo)
abbrev ixOf (n : Nat) (i : Int) : Option Nat := L2.ixN n i
abbrev getI {α : Type} (xs : List α) (i : Int) : Option α := L2.atI xs i

def small (i : Int) : Bool := decide (-(2 ^ 64) < i) && decide (i < 2 ^ 64)
def binop : BO → D → D → Option D
  | .add, .int i, .int j => some (.int (i + j))
  | .add, .str a, .str b => if a.length + b.length ≤ line then some (.str (a ++ b)) else none
  | .add, .lst f a, .lst g b => if a.length + b.length ≤ line ∧ D.isFrzL a ∧ D.isFrzL b then some (.lst .own (a ++ b)) else none
  | .add, .tup a, .tup b => if a.length + b.length ≤ line then some (.tup (a ++ b)) else none
  | .sub, .int i, .int j => some (.int (i - j))
  | .mul, .int i, .int j => if small i || small j then some (.int (i * j)) else none
  | .mul, .str [c], .int n => if -1000000 ≤ n ∧ n ≤ 1000000 then some (.str (List.replicate n.toNat c)) else none
  | .fdiv, .int i, .int j => if 0 < j ∧ j < 1073741824 then some (.int (i / j)) else none
  | .mod, .int i, .int j => if 0 < j then some (.int (i % j)) else none
  | .pow, .int i, .int j => if 0 ≤ j ∧ j ≤ 1000000 ∧ small i then some (.int (i ^ j.toNat)) else none
  | _, _, _ => none
/-- x op= y of what never changes -/
def augop : BO → D → D → Option D
  | .add, .int i, .int j => some (.int (i + j))
  | .sub, .int i, .int j => some (.int (i - j))
  | .add, .str a, .str b => if a.length + b.length ≤ line then some (.str (a ++ b)) else none
  | _, _, _ => none
--  data that == and in may be asked of: no int beside a bool can be met, of bounded depth 
mutual
def D.depth : D → Nat
  | .tup l => D.depthL l + 1
  | .lst _ l => D.depthL l + 1
  | _ => 0
def D.depthL : List D → Nat
  | [] => 0
  | d :: ds => max (D.depth d) (D.depthL ds)
end
--  no bool and no script within 
mutual
def D.plain : D → Bool
  | .tup l => D.plainL l
  | .lst _ l => D.plainL l
  | .scr _ => false
  | .str _ => true
  | .non => true
  | .bl _ => true
  | .int _ => true
def D.plainL : List D → Bool
  | [] => true
  | d :: ds => D.plain d && D.plainL ds
end
mutual
def D.noBl : D → Bool
  | .tup l => D.noBlL l
  | .lst _ l => D.noBlL l
  | .bl _ => false
  | _ => true
def D.noBlL : List D → Bool
  | [] => true
  | d :: ds => D.noBl d && D.noBlL ds
end
mutual
def D.noInt : D → Bool
  | .tup l => D.noIntL l
  | .lst _ l => D.noIntL l
  | .int _ => false
  | _ => true
def D.noIntL : List D → Bool
  | [] => true
  | d :: ds => D.noInt d && D.noIntL ds
end
def eqable (a b : D) : Bool := a.plain && b.plain && decide (a.depth ≤ 60) && decide (b.depth ≤ 60) && ((a.noBl && b.noBl) || (a.noInt && b.noInt))
def eqop (a b : D) : Option Bool := match a, b with
  | .str x, .str y => some (x == y)
  | a, b => if eqable a b then some (a.beq b) else none
def inop (a b : D) : Option Bool := match b with
  | .lst _ l => if eqable a b then some (l.any fun z => z.beq a) else none
  | .tup l => if a.depth = 0 ∧ D.depthL l = 0 ∧ eqable a b then some (l.any fun z => z.beq a) else none
  | .str s => (match a with
    | .str [c] => some (decide (c ∈ s))
    | _ => none)
  | _ => none
def cmpop : CO → D → D → Option Bool
  | .eq, a, b => eqop a b
  | .ne, a, b => (eqop a b).map (!·)
  | .inn, a, b => inop a b
  | .nin, a, b => (inop a b).map (!·)
  | .lt, .int i, .int j => some (decide (i < j))
  | .le, .int i, .int j => some (decide (i ≤ j))
  | .gt, .int i, .int j => some (decide (j < i))
  | .ge, .int i, .int j => some (decide (j ≤ i))
  | _, _, _ => none
def idxop : D → D → Option D
  | .tup l, .int i => getI l i
  | .lst _ l, .int i => getI l i
  | .str s, .int i => (getI s i).map fun c => .str [c]
  | .scr l, .int i => (getI l i).map .int
  | _, _ => none
def asI : Option D → Option (Option Int)
  | none => some none
  | some (.int i) => some (some i)
  | _ => none
def slcop (a : D) (lo hi : Option Int) : Option D := match a with
  | .tup l => some (.tup (cut l lo hi))
  | .lst _ l => if D.isFrzL l then some (.lst .own (cut l lo hi)) else none
  | .str s => some (.str (cut s lo hi))
  | _ => none
def D.isInst : BT → D → Option Bool
  | .int, .int _ => some true
  | .int, .bl _ => some true
  | .int, .str _ => some false
  | .int, .non => some false
  | .int, .tup _ => some false
  | .int, .lst _ _ => some false
  | .bool, .int _ => some false
  | .bool, .bl _ => some true
  | .bool, .str _ => some false
  | .bool, .non => some false
  | .bool, .tup _ => some false
  | .bool, .lst _ _ => some false
  | .str, .int _ => some false
  | .str, .bl _ => some false
  | .str, .str _ => some true
  | .str, .non => some false
  | .str, .tup _ => some false
  | .str, .lst _ _ => some false
  | .list, .int _ => some false
  | .list, .bl _ => some false
  | .list, .str _ => some false
  | .list, .non => some false
  | .list, .tup _ => some false
  | .list, .lst _ _ => some true
  | .tuple, .int _ => some false
  | .tuple, .bl _ => some false
  | .tuple, .str _ => some false
  | .tuple, .non => some false
  | .tuple, .tup _ => some true
  | .tuple, .lst _ _ => some false
  | _, .scr _ => none
def asInts : List D → Option (List Int)
  | [] => some []
  | .int i :: r => (asInts r).map (i :: ·)
  | _ :: _ => none
def asStrs : List D → Option (List (List Nat))
  | [] => some []
  | .str s :: r => (asStrs r).map (s :: ·)
  | _ :: _ => none
def insI (x : Int) : List Int → List Int
  | [] => [x]
  | y :: r => if x ≤ y then x :: y :: r else y :: insI x r
def sortI : List Int → List Int
  | [] => []
  | x :: r => insI x (sortI r)
def maxI : List Int → Int
  | [] => 0
  | [x] => x
  | x :: r => max x (maxI r)
def minI : List Int → Int
  | [] => 0
  | [x] => x
  | x :: r => min x (minI r)
def fits62 (i : Int) : Bool := decide (-(2 ^ 62) ≤ i) && decide (i < 2 ^ 62)
def rng (a b : Int) : List D := (List.range (b - a).toNat).map fun (k : Nat) => D.int (a + k)
def sOf (s : List Nat) : PySem.Str := ⟨s.toArray⟩
open PySem in
mutual
def D.py : D → PyData
  | .non => .none
  | .bl b => .bool b
  | .int i => .int i
  | .str s => .str (sOf s)
  | .tup l => .tuple (D.pyL l)
  | .lst _ l => .list (D.pyL l)
  | .scr l => .list (l.map .int)
def D.pyL : List D → List PyData
  | [] => []
  | d :: ds => D.py d :: D.pyL ds
end
/-- data that < compares place by place -/
def sortable (l : List D) : Bool := D.plainL l && (l.all fun a => l.all fun b => PySem.W.alike a.py b.py) && decide (D.depthL l ≤ 60) && ((l.all fun a => match a with
    | .tup (_ :: _) => true
    | _ => false) || (l.all fun a => match a with
    | .int _ => true
    | .str _ => true
    | _ => false))
def leD (a b : D) : Bool := PySem.W.dataLe false D.py a b
def biop : BI → List D → Option D
  | .len, [.tup l] => some (.int l.length)
  | .len, [.lst _ l] => some (.int l.length)
  | .len, [.str s] => some (.int s.length)
  | .len, [.scr l] => some (.int l.length)
  | .int, [.int i] => some (.int i)
  | .int, [.bl b] => some (.int (if b then 1 else 0))
  | .list, [.lst _ l] => if D.isFrzL l then some (.lst .own l) else none
  | .list, [.tup l] => some (.lst .own l)
  | .tuple, [.lst _ l] => if D.isFrzL l then some (.tup l) else none
  | .tuple, [.tup l] => some (.tup l)
  | .sorted, [.lst _ l] => (match asInts l with
    | some ns => some (.lst .own ((sortI ns).map .int))
    | none => if D.isFrzL l && sortable l then some (.lst .own (l.mergeSort leD)) else none)
  | .max, [.int a, .int b] => some (.int (if b > a then b else a))
  | .min, [.int a, .int b] => some (.int (if b < a then b else a))
  | .max, [.lst _ l] => (asInts l).bind fun ns => if ns = [] then none else some (.int (maxI ns))
  | .min, [.lst _ l] => (asInts l).bind fun ns => if ns = [] then none else some (.int (minI ns))
  | .sum, [.lst _ l] => (asInts l).map fun ns => .int ns.sum
  | _, _ => none
def joinO (a : List Nat) (l : List D) : Option D := (asStrs l).bind fun ys => if (ys.map List.length).sum + ys.length * a.length ≤ line then some (.str (TL.joinL a ys)) else none
def mtop : MT → D → List D → Option D
  | .join, .str a, [.lst _ l] => joinO a l
  | .join, .str a, [.tup l] => joinO a l
  | .count, .str a, [.str [c]] => some (.int (a.count c))
  | _, _, _ => none
def revop : D → Option D
  | .lst _ l => if D.isFrzL l then some (.lst .own l.reverse) else none
  | _ => none
/-- what a loop, a comprehension walks -/
def itemsOf : D → Option (List D)
  | .tup l => some l
  | .lst f l => if f = .own then (if D.noLckL l then some (D.frzL l) else none) else some l
  | .str s => some (s.map fun c => .str [c])
  | _ => none
def zipD : List D → List D → List D
  | a :: as, b :: bs => .tup [a, b] :: zipD as bs
  | _, _ => []
def setE (env : Env) (i : Nat) (d : D) : Option Env := if i < env.length ∧ d.noLck then some (env.set i (some d)) else none
def setF (env : Env) (i : Nat) (d : D) : Option Env := if i < env.length ∧ d.isFrz then some (env.set i (some d)) else none
def setEs : List Nat → List D → Env → Option Env
  | [], [], env => some env
  | i :: is, d :: ds, env => (setF env i d).bind (setEs is ds)
  | _, _, _ => none
def bindT : Tg → D → Env → Option Env
  | .name i, d, env => setF env i d
  | .tup is, .tup l, env => setEs is l env
  | _, _, _ => none
def getE (env : Env) (i : Nat) : Option D := match env[i]? with
  | some (some d) => some d
  | _ => none
def asBl : Option D → Option Bool
  | some (.bl b) => some b
  | _ => none
def E.isNop : E → Bool
  | .nop => true
  | _ => false
/-- a slice's bound, a comprehension's condition: left out, or a value -/
def asP (e : E) (o : Option D) : Option (Option Int) := if e.isNop then some none else match o with
  | some (.int i) => some (some i)
  | _ => none
def asC (e : E) (o : Option D) : Option Bool := if e.isNop then some true else asBl o
/-- the turns of a comprehension -/
def lcL (f : D → Option (Option D)) : List D → Option (List D)
  | [] => some []
  | x :: r => (f x).bind fun o => match o with
    | none => lcL f r
    | some d => (lcL f r).map (d :: ·)
def allL (f : D → Option Bool) : List D → Option Bool
  | [] => some true
  | x :: r => (f x).bind fun b => if b then allL f r else some false
def anyL (f : D → Option Bool) : List D → Option Bool
  | [] => some false
  | x :: r => (f x).bind fun b => if b then some true else anyL f r
def D.isNon : D → Bool
  | .non => true
  | _ => false
structure Glob where
  consts : List D
mutual
def ev (G : Glob) (cf : Nat → List D → Option D) : E → Env → Option D
  | .var i, env => (getE env i).map D.lock
  | .non, _ => some .non
  | .bl b, _ => some (.bl b)
  | .int i, _ => some (.int i)
  | .str s, _ => some (.str s)
  | .glb k, _ => G.consts[k]?
  | .bin o a b, env => (ev G cf a env).bind fun x => (ev G cf b env).bind fun y => binop o x y
  | .neg a, env => (ev G cf a env).bind fun x => match x with
    | .int i => some (.int (-i))
    | _ => none
  | .cmp o a b, env => (ev G cf a env).bind fun x => (ev G cf b env).bind fun y => (cmpop o x y).map .bl
  | .cmp2 o p a b c, env => (ev G cf a env).bind fun x => (ev G cf b env).bind fun y => (cmpop o x y).bind fun k =>
      if k then (ev G cf c env).bind fun z => (cmpop p y z).map .bl else some (.bl false)
  | .isN n a, env => (ev G cf a env).map fun x => .bl (if n then !x.isNon else x.isNon)
  | .isB n b a, env => (ev G cf a env).bind fun x => match x with
    | .bl c => some (.bl (if n then !decide (c = b) else decide (c = b)))
    | _ => none
  | .and a b, env => (asBl (ev G cf a env)).bind fun x => if x then ev G cf b env else some (.bl false)
  | .or a b, env => (asBl (ev G cf a env)).bind fun x => if x then some (.bl true) else ev G cf b env
  | .not a, env => (asBl (ev G cf a env)).map fun x => .bl (!x)
  | .ite c a b, env => (asBl (ev G cf c env)).bind fun x => if x then ev G cf a env else ev G cf b env
  | .idx a b, env => (ev G cf a env).bind fun x => (ev G cf b env).bind fun y => idxop x y
  | .slc a lo hi, env => (ev G cf a env).bind fun x => (asP lo (ev G cf lo env)).bind fun l => (asP hi (ev G cf hi env)).bind fun h => slcop x l h
  | .tup es, env => (evs G cf es env).bind fun ds => if D.noLckL ds ∧ ds.length ≤ line then some (.tup (D.frzL ds)) else none
  | .lst es, env => (evs G cf es env).bind fun ds => if D.noLckL ds ∧ ds.length ≤ line then some (.lst .own (D.frzL ds)) else none
  | .call f es, env => (evs G cf es env).bind fun ds => if ds.all D.okD then cf f (ds.map D.frzA) else none
  | .bi f es, env => (evs G cf es env).bind fun ds => biop f ds
  | .inst t a, env => (ev G cf a env).bind fun x => (x.isInst t).map .bl
  | .rev a, env => (ev G cf a env).bind revop
  | .mth m o es, env => (ev G cf o env).bind fun x => (evs G cf es env).bind fun ds => mtop m x ds
  | .lc elt tg it cond, env => (items G cf it env).bind fun xs =>
      (lcL (fun x => (bindT tg x env).bind fun env1 =>
        (asC cond (ev G cf cond env1)).bind fun k => if k then (ev G cf elt env1).bind fun d => if d.noLck then some (some d.frz) else none else some none) xs).bind fun ds =>
        if xs.length < line then some (.lst .own ds) else none
  | .gen all elt tg it, env => (items G cf it env).bind fun xs =>
      ((if all then allL else anyL) (fun x => (bindT tg x env).bind fun env1 => asBl (ev G cf elt env1)) xs).map .bl
  | .nop, _ => none
def evs (G : Glob) (cf : Nat → List D → Option D) : Es → Env → Option (List D)
  | .nil, _ => some []
  | .cons e es, env => (ev G cf e env).bind fun d => (evs G cf es env).map (d :: ·)
def items (G : Glob) (cf : Nat → List D → Option D) : It → Env → Option (List D)
  | .seq e, env => (ev G cf e env).bind itemsOf
  | .rng1 a, env => (ev G cf a env).bind fun x => match x with
    | .int i => if fits62 i then some (rng 0 i) else none
    | _ => none
  | .rng2 a b, env => (ev G cf a env).bind fun x => (ev G cf b env).bind fun y => match x, y with
    | .int i, .int j => if fits62 i && fits62 j then some (rng i j) else none
    | _, _ => none
  | .rng3 _ _ _, _ => none
  | .zip a b, env => (ev G cf a env).bind fun x => (ev G cf b env).bind fun y => match x, y with
    | .str s, .str t => some (zipD (s.map fun c => .str [c]) (t.map fun c => .str [c]))
    | _, _ => none
end
/-- a block's end -/
inductive Out where
  | nx (env : Env) | rt (d : D) | bk (env : Env) | ct (env : Env)
/-- what a loop may walk: what is not owned, and the slots lk -/
def selO (lk : List Nat) (i : Nat) : Option D → Option D
  | some d => if lk.contains i || d.noOwn then some d else none
  | none => none
def selE (lk : List Nat) : Nat → Env → Env
  | _, [] => []
  | i, o :: r => selO lk i o :: selE lk (i + 1) r
def lockO (lk : List Nat) (i : Nat) (o : Option D) : Option D := if lk.contains i then o.map D.lock else o
def lockE (lk : List Nat) : Nat → Env → Env
  | _, [] => []
  | i, o :: r => lockO lk i o :: lockE lk (i + 1) r
/-- behind a loop: what was locked by it, and still is there, is as it was -/
def unlO (lk : List Nat) (i : Nat) (o n : Option D) : Option D := if lk.contains i then (match n with
  | some d => if d.noLck then some d else o
  | none => none) else n
def unlockE (lk : List Nat) : Nat → Env → Env → Env
  | i, o :: r, n :: s => unlO lk i o n :: unlockE lk (i + 1) r s
  | _, _, _ => []
def itemsS (G : Glob) (cf : Nat → List D → Option D) (lk : List Nat) (it : It) (env : Env) : Option (List D) := match it with
  | .seq e => items G cf (.seq e) (selE lk 0 env)
  | it => items G cf it env
def forL (f : D → Env → Option Out) : List D → Env → Option Out
  | [], env => some (.nx env)
  | x :: r, env => (f x env).bind fun o => match o with
    | .nx e => forL f r e
    | .ct e => forL f r e
    | .bk e => some (.nx e)
    | .rt d => some (.rt d)
def whileL (c : Env → Option Bool) (f : Env → Option Out) : Nat → Env → Option Out
  | 0, _ => none
  | n + 1, env => (c env).bind fun k => if k then (f env).bind fun o => match o with
    | .nx e => whileL c f n e
    | .ct e => whileL c f n e
    | .bk e => some (.nx e)
    | .rt d => some (.rt d)
    else some (.nx env)
/-- turns of a while -/
def turns : Nat := 1000000
mutual
def ex (G : Glob) (cf : Nat → List D → Option D) : S → Env → Option Out
  | .asg fr i e, env => (ev G cf e env).bind fun d => if fr then (if d.noLck then (setE env i d.frz).map .nx else none) else (setE env i d).map .nx
  | .asgT is e, env => (ev G cf e env).bind fun d => match d with
    | .tup l => (setEs is l env).map .nx
    | .lst f l => if D.isFrzL l then (setEs is l env).map .nx else none
    | _ => none
  | .aug i o e, env => (getE env i).bind fun x => (ev G cf e env).bind fun y => (augop o x y).bind fun z => (setE env i z).map .nx
  | .app i e, env => (ev G cf e env).bind fun d => match getE env i with
    | some (.lst .own l) => if d.noLck ∧ l.length < line then some (.nx (env.set i (some (.lst .own (l ++ [d.frz]))))) else none
    | _ => none
  | .setI i k e, env => (ev G cf e env).bind fun d => (ev G cf k env).bind fun j => match getE env i, j with
    | some (.lst .own l), .int j => (ixOf l.length j).bind fun j => if d.noLck ∧ D.isFrzL l then some (.nx (env.set i (some (.lst .own (l.set j d.frz))))) else none
    | _, _ => none
  | .ite c a b, env => (asBl (ev G cf c env)).bind fun k => if k then exs G cf a env else exs G cf b env
  | .for_ lk tg it b, env => (itemsS G cf lk it env).bind fun xs => (forL (fun x env1 => (bindT tg x env1).bind fun env2 => exs G cf b env2) xs (lockE lk 0 env)).map fun o => match o with
    | .nx e => .nx (unlockE lk 0 env e)
    | o => o
  | .while_ c b, env => whileL (fun e => asBl (ev G cf c e)) (fun e => exs G cf b e) turns env
  | .ret e, env => (ev G cf e env).bind fun d => if d.noLck then some (.rt d) else none
  | .mv i j, env => (getE env j).bind fun d => if i ≠ j ∧ i < env.length ∧ d.noLck then some (.nx ((env.set j none).set i (some d))) else none
  | .retMv i, env => (getE env i).bind fun d => if d.noLck then some (.rt d) else none
  | .retN, _ => some (.rt .non)
  | .brk, env => some (.bk env)
  | .cnt, env => some (.ct env)
  | .pass, env => some (.nx env)
  | .expr e, env => (ev G cf e env).map fun _ => .nx env
  | .fz i, env => (getE env i).bind fun d => if d.noLck then some (.nx (env.set i (some d.frz))) else none
def exs (G : Glob) (cf : Nat → List D → Option D) : Ss → Env → Option Out
  | .nil, env => some (.nx env)
  | .cons s ss, env => (ex G cf s env).bind fun o => match o with
    | .nx e => exs G cf ss e
    | o => some o
end
/-- a def: the number of its parameters, of its names, its body -/
structure Df where
  pars : Nat
  slots : Nat
  body : Ss
  gen : Bool
  /-- what it returns is frozen -/
  fr : Bool := true
/-- f(args) with calls of depth at most n -/
def call (G : Glob) (P : List Df) : Nat → Nat → List D → Option D
  | 0, _, _ => none
  | n + 1, f, ds => match P[f]? with
    | some d => if ds.length = d.pars ∧ d.pars ≤ d.slots ∧ ds.all D.okD then
        (match exs G (call G P n) d.body (ds.map some ++ List.replicate (d.slots - d.pars) none) with
          | some (.nx _) => some .non
          | some (.rt v) => some (if d.fr then v.frz else v)
          | _ => none)
      else none
    | none => none
end PV

set_option Elab.async false
set_option linter.all false
set_option maxRecDepth 100000
set_option maxHeartbeats 4000000
/-! PV, part B: how data stand in the abstract heap. -/
namespace PV
open PySem PySem.Spec PyProof.Rows L2
theorem line_eq : line = sizeLine := by rw [sizeLine_eq]; rfl
abbrev AP := Addr → Prop
/-- no table of code objects: what stands there changes by a store alone -/
def datO : HO → Bool
  | .tbl _ => false
  | _ => true
def TupAt (K : PySem.W.Frag) (F : AP) (H : Hp) (a : Addr) (xs : List V) : Prop :=
  (F a ∧ H a = some (.tup xs)) ∨ ∃ (o : Obj) (its : Array Value) (n : Nat), K.lookup a = some o ∧ o.cls = .type "tuple" ∧ o.data = .seq its n ∧ its.size ≤ sizeLine ∧ Vals xs its.toList
theorem TupAt.sq {K : PySem.W.Frag} {F : AP} {H : Hp} {a : Addr} {xs : List V} (h : TupAt K F H a xs) : SqT K H a xs := by
  rcases h with ⟨_, h⟩ | h
  · exact .inl (.inl h)
  · exact .inr h
def ScrAt (K : PySem.W.Frag) (F : AP) (H : Hp) (a : Addr) (ns : List Int) : Prop :=
  (F a ∧ Rd H a (.lst (ns.map V.int))) ∨ ∃ (o : Obj) (its : Array Value) (n : Nat), K.lookup a = some o ∧ o.cls = .type "list" ∧ o.dict = none ∧ o.data = .seq its n ∧ its.size ≤ sizeLine ∧ Vals (ns.map V.int) its.toList
theorem ScrAt.sq {K : PySem.W.Frag} {F : AP} {H : Hp} {a : Addr} {ns : List Int} (h : ScrAt K F H a ns) : SqL K H a (ns.map V.int) := by
  rcases h with ⟨_, h⟩ | h
  · exact .inl h
  · exact .inr h
theorem ScrAt.mono {K : PySem.W.Frag} {F F' : AP} {H H' : Hp} {a : Addr} {ns : List Int} (h : ScrAt K F H a ns) (hF : ∀ a, F a → F' a) (hH : ∀ o, F a → H a = some o → datO o = true → H' a = some o) : ScrAt K F' H' a ns := by
  rcases h with ⟨f, h | ⟨o, h⟩⟩ | h
  · exact .inl ⟨hF a f, .inl (hH _ f h rfl)⟩
  · exact .inl ⟨hF a f, .inr ⟨o, hH _ f h rfl⟩⟩
  · exact .inr h
/-- a text that may stand: neither too long nor with odd signs -/
def okS (s : List Nat) : Prop := s.length ≤ line ∧ ∀ c ∈ s, c < 1114112
def okSb (s : List Nat) : Bool := decide (s.length ≤ line) && s.all fun c => decide (c < 1114112)
theorem okSb_ok {s : List Nat} (h : okSb s = true) : okS s := by
  unfold okSb at h
  simp only [Bool.and_eq_true, decide_eq_true_eq, List.all_eq_true] at h
  exact h
theorem sOf_len (s : List Nat) : (sOf s).length = s.length := by simp [sOf, Str.length]
mutual
def Rep (K : PySem.W.Frag) (F L : AP) (H : Hp) : D → V → List Addr → Prop
  | .non, v, fp => v = .non ∧ fp = []
  | .bl b, v, fp => v = .bl b ∧ fp = []
  | .int i, v, fp => v = .int i ∧ fp = []
  | .str s, v, fp => v = .str (sOf s) ∧ fp = [] ∧ okS s
  | .scr ns, v, fp => ∃ a, v = .ref a ∧ ScrAt K F H a ns ∧ fp = []
  | .tup l, v, fp => ∃ a xs, v = .ref a ∧ TupAt K F H a xs ∧ RepL K F L H l xs [] ∧ D.isFrzL l = true ∧ fp = []
  | .lst f l, v, fp => ∃ a xs fp', v = .ref a ∧ H a = some (.lst xs) ∧ RepL K F L H l xs fp' ∧ (match f with
    | .frz => F a ∧ fp' = [] ∧ fp = [] ∧ D.isFrzL l = true
    | .lck => L a ∧ fp' = [] ∧ fp = []
    | .own => fp = a :: fp')
def RepL (K : PySem.W.Frag) (F L : AP) (H : Hp) : List D → List V → List Addr → Prop
  | [], vs, fp => vs = [] ∧ fp = []
  | d :: ds, vs, fp => ∃ v vr f1 f2, vs = v :: vr ∧ Rep K F L H d v f1 ∧ RepL K F L H ds vr f2 ∧ fp = f1 ++ f2
end
section
variable {K : PySem.W.Frag} {F F' L L' : AP} {H H' : Hp}
mutual
theorem Rep.mono (hF : ∀ a, F a → F' a) (hL : ∀ a, L a → L' a) : ∀ (d : D) {v : V} {fp : List Addr}, (∀ a o, H a = some o → datO o = true → (F a ∨ L a ∨ a ∈ fp) → H' a = some o) → Rep K F L H d v fp → Rep K F' L' H' d v fp
  | .non, _, _, _, h => h
  | .bl _, _, _, _, h => h
  | .int _, _, _, _, h => h
  | .str _, _, _, _, h => h
  | .scr ns, v, fp, hH, h => by
    simp only [Rep] at h ⊢
    obtain ⟨a, e, s, e2⟩ := h
    exact ⟨a, e, s.mono hF (fun o f q dd => hH a o q dd (.inl f)), e2⟩
  | .tup l, v, fp, hH, h => by
    simp only [Rep] at h ⊢
    obtain ⟨a, xs, e, ta, hl, fz, e2⟩ := h
    refine ⟨a, xs, e, ?_, RepL.mono hF hL l (fun b o hb dd q => hH b o hb dd (by rcases q with q | q | q; exact .inl q; exact .inr (.inl q); cases q)) hl, fz, e2⟩
    rcases ta with ⟨fa, ha⟩ | k
    · exact .inl ⟨hF a fa, hH a _ ha rfl (.inl fa)⟩
    · exact .inr k
  | .lst f l, v, fp, hH, h => by
    simp only [Rep] at h ⊢
    obtain ⟨a, xs, fp', e, ha, hl, q⟩ := h
    cases f with
    | frz =>
      obtain ⟨fa, e1, e2, fz⟩ := q
      subst e1
      exact ⟨a, xs, [], e, hH a _ ha rfl (.inl fa), RepL.mono hF hL l (fun b o hb dd q => hH b o hb dd (by rcases q with q | q | q; exact .inl q; exact .inr (.inl q); cases q)) hl, hF a fa, rfl, e2, fz⟩
    | lck =>
      obtain ⟨la, e1, e2⟩ := q
      subst e1
      exact ⟨a, xs, [], e, hH a _ ha rfl (.inr (.inl la)), RepL.mono hF hL l (fun b o hb dd q => hH b o hb dd (by rcases q with q | q | q; exact .inl q; exact .inr (.inl q); cases q)) hl, hL a la, rfl, e2⟩
    | own =>
      have q : fp = a :: fp' := q
      subst q
      exact ⟨a, xs, fp', e, hH a _ ha rfl (.inr (.inr List.mem_cons_self)), RepL.mono hF hL l (fun b o hb dd q => hH b o hb dd (by rcases q with q | q | q; exact .inl q; exact .inr (.inl q); exact .inr (.inr (List.mem_cons_of_mem _ q)))) hl, rfl⟩
theorem RepL.mono (hF : ∀ a, F a → F' a) (hL : ∀ a, L a → L' a) : ∀ (ds : List D) {vs : List V} {fp : List Addr}, (∀ a o, H a = some o → datO o = true → (F a ∨ L a ∨ a ∈ fp) → H' a = some o) → RepL K F L H ds vs fp → RepL K F' L' H' ds vs fp
  | [], _, _, _, h => h
  | d :: ds, vs, fp, hH, h => by
    simp only [RepL] at h ⊢
    obtain ⟨v, vr, f1, f2, e, h1, h2, e2⟩ := h
    subst e2
    refine ⟨v, vr, f1, f2, e, Rep.mono hF hL d (fun b o hb dd q => hH b o hb dd ?_) h1, RepL.mono hF hL ds (fun b o hb dd q => hH b o hb dd ?_) h2, rfl⟩
    · rcases q with q | q | q
      · exact .inl q
      · exact .inr (.inl q)
      · exact .inr (.inr (List.mem_append_left _ q))
    · rcases q with q | q | q
      · exact .inl q
      · exact .inr (.inl q)
      · exact .inr (.inr (List.mem_append_right _ q))
end
mutual
/-- the owned nodes stand -/
theorem Rep.stand : ∀ (d : D) {v : V} {fp : List Addr}, Rep K F L H d v fp → ∀ a ∈ fp, ∃ o, H a = some o
  | .non, _, _, h, a, ha => by simp only [Rep] at h; rw [h.2] at ha; cases ha
  | .bl _, _, _, h, a, ha => by simp only [Rep] at h; rw [h.2] at ha; cases ha
  | .int _, _, _, h, a, ha => by simp only [Rep] at h; rw [h.2] at ha; cases ha
  | .str _, _, _, h, a, ha => by simp only [Rep] at h; rw [h.2.1] at ha; cases ha
  | .scr _, _, _, h, a, ha => by simp only [Rep] at h; obtain ⟨_, _, _, e⟩ := h; rw [e] at ha; cases ha
  | .tup l, _, _, h, a, ha => by simp only [Rep] at h; obtain ⟨_, _, _, _, _, _, e⟩ := h; rw [e] at ha; cases ha
  | .lst f l, _, fp, h, a, ha => by
    simp only [Rep] at h
    obtain ⟨b, xs, fp', e, hb, hl, q⟩ := h
    cases f with
    | frz => obtain ⟨_, _, e, _⟩ := q; rw [e] at ha; cases ha
    | lck => obtain ⟨_, _, e⟩ := q; rw [e] at ha; cases ha
    | own =>
      have q : fp = b :: fp' := q
      rw [q] at ha
      rcases List.mem_cons.mp ha with z | z
      · rw [z]; exact ⟨_, hb⟩
      · exact RepL.stand l hl a z
theorem RepL.stand : ∀ (ds : List D) {vs : List V} {fp : List Addr}, RepL K F L H ds vs fp → ∀ a ∈ fp, ∃ o, H a = some o
  | [], _, _, h, a, ha => by simp only [RepL] at h; rw [h.2] at ha; cases ha
  | d :: ds, _, _, h, a, ha => by
    simp only [RepL] at h
    obtain ⟨v, vr, f1, f2, e, h1, h2, e2⟩ := h
    rw [e2] at ha
    rcases List.mem_append.mp ha with z | z
    · exact Rep.stand d h1 a z
    · exact RepL.stand ds h2 a z
end
mutual
theorem isFrz_frz : ∀ d : D, d.frz.isFrz = true
  | .non => rfl
  | .bl _ => rfl
  | .int _ => rfl
  | .str _ => rfl
  | .scr _ => rfl
  | .tup l => by simp only [D.frz, D.isFrz]; exact isFrz_frzL l
  | .lst _ l => by simp only [D.frz, D.isFrz, Bool.and_eq_true]; exact ⟨rfl, isFrz_frzL l⟩
theorem isFrz_frzL : ∀ ds : List D, D.isFrzL (D.frzL ds) = true
  | [] => rfl
  | d :: ds => by simp only [D.frzL, D.isFrzL, Bool.and_eq_true]; exact ⟨isFrz_frz d, isFrz_frzL ds⟩
end
mutual
theorem frz_of : ∀ d : D, d.isFrz = true → d.frz = d
  | .non, _ => rfl
  | .bl _, _ => rfl
  | .int _, _ => rfl
  | .str _, _ => rfl
  | .scr _, _ => rfl
  | .tup l, h => by simp only [D.isFrz] at h; simp only [D.frz]; rw [frzL_of l h]
  | .lst f l, h => by
    simp only [D.isFrz, Bool.and_eq_true, beq_iff_eq] at h
    simp only [D.frz]; rw [frzL_of l h.2, h.1]
theorem frzL_of : ∀ ds : List D, D.isFrzL ds = true → D.frzL ds = ds
  | [], _ => rfl
  | d :: ds, h => by
    simp only [D.isFrzL, Bool.and_eq_true] at h
    simp only [D.frzL]; rw [frz_of d h.1, frzL_of ds h.2]
end
mutual
theorem noLck_of : ∀ d : D, d.isFrz = true → d.noLck = true
  | .non, _ => rfl
  | .bl _, _ => rfl
  | .int _, _ => rfl
  | .str _, _ => rfl
  | .scr _, _ => rfl
  | .tup l, h => by simp only [D.isFrz] at h; simp only [D.noLck]; exact noLckL_of l h
  | .lst f l, h => by
    simp only [D.isFrz, Bool.and_eq_true, beq_iff_eq] at h
    simp only [D.noLck, Bool.and_eq_true]; exact ⟨by rw [h.1]; rfl, noLckL_of l h.2⟩
theorem noLckL_of : ∀ ds : List D, D.isFrzL ds = true → D.noLckL ds = true
  | [], _ => rfl
  | d :: ds, h => by
    simp only [D.isFrzL, Bool.and_eq_true] at h
    simp only [D.noLckL, Bool.and_eq_true]; exact ⟨noLck_of d h.1, noLckL_of ds h.2⟩
end
mutual
theorem lock_of : ∀ d : D, d.isFrz = true → d.lock = d
  | .non, _ => rfl
  | .bl _, _ => rfl
  | .int _, _ => rfl
  | .str _, _ => rfl
  | .scr _, _ => rfl
  | .tup l, h => by simp only [D.isFrz] at h; simp only [D.lock]; rw [lockL_of l h]
  | .lst f l, h => by
    simp only [D.isFrz, Bool.and_eq_true, beq_iff_eq] at h
    simp only [D.lock]; rw [lockL_of l h.2, h.1]; rfl
theorem lockL_of : ∀ ds : List D, D.isFrzL ds = true → D.lockL ds = ds
  | [], _ => rfl
  | d :: ds, h => by
    simp only [D.isFrzL, Bool.and_eq_true] at h
    simp only [D.lockL]; rw [lock_of d h.1, lockL_of ds h.2]
end
mutual
theorem fp_of : ∀ (d : D) {v : V} {fp : List Addr}, d.isFrz = true → Rep K F L H d v fp → fp = []
  | .non, _, _, _, h => by simp only [Rep] at h; exact h.2
  | .bl _, _, _, _, h => by simp only [Rep] at h; exact h.2
  | .int _, _, _, _, h => by simp only [Rep] at h; exact h.2
  | .str _, _, _, _, h => by simp only [Rep] at h; exact h.2.1
  | .scr _, _, _, _, h => by simp only [Rep] at h; obtain ⟨_, _, _, e⟩ := h; exact e
  | .tup l, _, _, _, h => by simp only [Rep] at h; obtain ⟨_, _, _, _, _, _, e⟩ := h; exact e
  | .lst f l, _, _, z, h => by
    simp only [D.isFrz, Bool.and_eq_true, beq_iff_eq] at z
    rw [z.1] at h
    simp only [Rep] at h
    obtain ⟨_, _, _, _, _, _, _, _, e, _⟩ := h
    exact e
theorem fpL_of : ∀ (ds : List D) {vs : List V} {fp : List Addr}, D.isFrzL ds = true → RepL K F L H ds vs fp → fp = []
  | [], _, _, _, h => by simp only [RepL] at h; exact h.2
  | d :: ds, _, _, z, h => by
    simp only [D.isFrzL, Bool.and_eq_true] at z
    simp only [RepL] at h
    obtain ⟨v, vr, f1, f2, e, h1, h2, e2⟩ := h
    rw [e2, fp_of d z.1 h1, fpL_of ds z.2 h2]; rfl
end
mutual
/-- what is owned is frozen -/
theorem Rep.freeze : ∀ (d : D) {v : V} {fp : List Addr}, d.noLck = true → Rep K F L H d v fp → Rep K (fun a => F a ∨ a ∈ fp) L H d.frz v []
  | .non, _, _, _, h => by simp only [Rep, D.frz] at h ⊢; exact ⟨h.1, by trivial⟩
  | .bl _, _, _, _, h => by simp only [Rep, D.frz] at h ⊢; exact ⟨h.1, by trivial⟩
  | .int _, _, _, _, h => by simp only [Rep, D.frz] at h ⊢; exact ⟨h.1, by trivial⟩
  | .str _, _, _, _, h => by simp only [Rep, D.frz] at h ⊢; exact ⟨h.1, by trivial, h.2.2⟩
  | .scr _, _, _, _, h => by
    simp only [Rep, D.frz] at h ⊢
    obtain ⟨a, e, s, _⟩ := h
    exact ⟨a, e, s.mono (fun _ q => .inl q) (fun _ _ q _ => q), by trivial⟩
  | .tup l, v, fp, n, h => by
    have z : Rep K F L H (.tup l) v fp := h
    simp only [Rep] at h
    obtain ⟨a, xs, e, ta, hl, fz, e2⟩ := h
    subst e2
    have e3 : D.frz (.tup l) = .tup l := by simp only [D.frz]; rw [frzL_of l fz]
    rw [e3]
    exact Rep.mono (fun _ q => .inl q) (fun _ q => q) (.tup l) (fun _ _ q _ _ => q) z
  | .lst f l, v, fp, n, h => by
    simp only [D.noLck, Bool.and_eq_true] at n
    simp only [Rep, D.frz] at h ⊢
    obtain ⟨a, xs, fp', e, ha, hl, q⟩ := h
    cases f with
    | lck => exact absurd n.1 (by decide)
    | frz =>
      obtain ⟨fa, e1, e2, fz⟩ := q
      subst e1 e2
      refine ⟨a, xs, [], e, ha, ?_, .inl fa, by trivial, by trivial, isFrz_frzL l⟩
      rw [frzL_of l fz]
      exact RepL.mono (fun _ q => .inl q) (fun _ q => q) l (fun _ _ q _ _ => q) hl
    | own =>
      have q : fp = a :: fp' := q
      subst q
      refine ⟨a, xs, [], e, ha, ?_, .inr List.mem_cons_self, by trivial, by trivial, isFrz_frzL l⟩
      exact RepL.mono (fun b q => q.elim .inl fun q => .inr (List.mem_cons_of_mem _ q)) (fun _ q => q) _ (fun _ _ q _ _ => q) (RepL.freeze l n.2 hl)
theorem RepL.freeze : ∀ (ds : List D) {vs : List V} {fp : List Addr}, D.noLckL ds = true → RepL K F L H ds vs fp → RepL K (fun a => F a ∨ a ∈ fp) L H (D.frzL ds) vs []
  | [], _, _, _, h => by simp only [RepL, D.frzL] at h ⊢; exact ⟨h.1, by trivial⟩
  | d :: ds, _, _, n, h => by
    simp only [D.noLckL, Bool.and_eq_true] at n
    simp only [RepL, D.frzL] at h ⊢
    obtain ⟨v, vr, f1, f2, e, h1, h2, e2⟩ := h
    subst e2
    exact ⟨v, vr, [], [], e, Rep.mono (fun b q => q.elim .inl fun q => .inr (List.mem_append_left _ q)) (fun _ q => q) _ (fun _ _ q _ _ => q) (Rep.freeze d n.1 h1),
      RepL.mono (fun b q => q.elim .inl fun q => .inr (List.mem_append_right _ q)) (fun _ q => q) _ (fun _ _ q _ _ => q) (RepL.freeze ds n.2 h2), by trivial⟩
end
mutual
/-- what is owned is lent -/
theorem Rep.lend : ∀ (d : D) {v : V} {fp : List Addr}, Rep K F L H d v fp → Rep K F (fun a => L a ∨ a ∈ fp) H d.lock v []
  | .non, _, _, h => by simp only [Rep, D.lock] at h ⊢; exact ⟨h.1, by trivial⟩
  | .bl _, _, _, h => by simp only [Rep, D.lock] at h ⊢; exact ⟨h.1, by trivial⟩
  | .int _, _, _, h => by simp only [Rep, D.lock] at h ⊢; exact ⟨h.1, by trivial⟩
  | .str _, _, _, h => by simp only [Rep, D.lock] at h ⊢; exact ⟨h.1, by trivial, h.2.2⟩
  | .scr _, _, _, h => by
    simp only [Rep, D.lock] at h ⊢
    obtain ⟨a, e, s, _⟩ := h
    exact ⟨a, e, s, by trivial⟩
  | .tup l, v, fp, h => by
    have z : Rep K F L H (.tup l) v fp := h
    simp only [Rep] at h
    obtain ⟨a, xs, e, ta, hl, fz, e2⟩ := h
    subst e2
    have e3 : D.lock (.tup l) = .tup l := by simp only [D.lock]; rw [lockL_of l fz]
    rw [e3]
    exact Rep.mono (fun _ q => q) (fun _ q => .inl q) (.tup l) (fun _ _ q _ _ => q) z
  | .lst f l, v, fp, h => by
    simp only [Rep, D.lock] at h ⊢
    obtain ⟨a, xs, fp', e, ha, hl, q⟩ := h
    cases f with
    | lck =>
      obtain ⟨la, e1, e2⟩ := q
      subst e1 e2
      refine ⟨a, xs, [], e, ha, ?_, .inl la, by trivial, by trivial⟩
      exact RepL.mono (fun b q => q) (fun b q => q.elim .inl fun q => .inr q) _ (fun _ _ q _ _ => q) (RepL.lend l hl)
    | frz =>
      obtain ⟨fa, e1, e2, fz⟩ := q
      subst e1 e2
      rw [lockL_of l fz]
      refine ⟨a, xs, [], e, ha, ?_, fa, by trivial, by trivial, fz⟩
      exact RepL.mono (fun _ q => q) (fun _ q => .inl q) l (fun _ _ q _ _ => q) hl
    | own =>
      have q : fp = a :: fp' := q
      subst q
      refine ⟨a, xs, [], e, ha, ?_, .inr List.mem_cons_self, by trivial, by trivial⟩
      exact RepL.mono (fun b q => q) (fun b q => q.elim .inl fun q => .inr (List.mem_cons_of_mem _ q)) _ (fun _ _ q _ _ => q) (RepL.lend l hl)
theorem RepL.lend : ∀ (ds : List D) {vs : List V} {fp : List Addr}, RepL K F L H ds vs fp → RepL K F (fun a => L a ∨ a ∈ fp) H (D.lockL ds) vs []
  | [], _, _, h => by simp only [RepL, D.lockL] at h ⊢; exact ⟨h.1, by trivial⟩
  | d :: ds, _, _, h => by
    simp only [RepL, D.lockL] at h ⊢
    obtain ⟨v, vr, f1, f2, e, h1, h2, e2⟩ := h
    subst e2
    exact ⟨v, vr, [], [], e, Rep.mono (fun _ q => q) (fun b q => q.elim .inl fun q => .inr (List.mem_append_left _ q)) _ (fun _ _ q _ _ => q) (Rep.lend d h1),
      RepL.mono (fun _ q => q) (fun b q => q.elim .inl fun q => .inr (List.mem_append_right _ q)) _ (fun _ _ q _ _ => q) (RepL.lend ds h2), by trivial⟩
end
theorem RepL.length : ∀ {ds : List D} {vs : List V} {fp : List Addr}, RepL K F L H ds vs fp → vs.length = ds.length
  | [], _, _, h => by simp only [RepL] at h; rw [h.1]; rfl
  | d :: ds, _, _, h => by
    simp only [RepL] at h
    obtain ⟨v, vr, f1, f2, e, h1, h2, e2⟩ := h
    rw [e, List.length_cons, List.length_cons, RepL.length h2]
theorem RepL.get : ∀ {ds : List D} {vs : List V} {fp : List Addr} {i : Nat} {d : D}, RepL K F L H ds vs fp → ds[i]? = some d → ∃ v f, vs[i]? = some v ∧ Rep K F L H d v f ∧ f.Sublist fp
  | [], _, _, _, _, _, h => by simp at h
  | c :: ds, _, _, 0, d, h, e => by
    simp only [RepL] at h
    obtain ⟨v, vr, f1, f2, e1, h1, h2, e2⟩ := h
    have e : c = d := by simpa using e
    subst e
    exact ⟨v, f1, by rw [e1]; rfl, h1, by rw [e2]; exact List.sublist_append_left _ _⟩
  | c :: ds, _, _, i + 1, d, h, e => by
    simp only [RepL] at h
    obtain ⟨v, vr, f1, f2, e1, h1, h2, e2⟩ := h
    obtain ⟨v', f, q1, q2, q3⟩ := RepL.get (i := i) h2 (by simpa using e)
    exact ⟨v', f, by rw [e1]; simpa using q1, q2, by rw [e2]; exact q3.trans (List.sublist_append_right _ _)⟩
theorem RepL.getI {ds : List D} {vs : List V} {fp : List Addr} {i : Int} {d : D} (h : RepL K F L H ds vs fp) (e : atI ds i = some d) : ∃ v f, atI vs i = some v ∧ Rep K F L H d v f ∧ f.Sublist fp := by
  unfold atI at e ⊢
  rw [h.length]
  cases q : ixN ds.length i with
  | none => rw [q] at e; cases e
  | some j =>
    rw [q] at e
    exact h.get (show ds[j]? = some d from e)
theorem RepL.app : ∀ {ds es : List D} {vs ws : List V} {f g : List Addr}, RepL K F L H ds vs f → RepL K F L H es ws g → RepL K F L H (ds ++ es) (vs ++ ws) (f ++ g)
  | [], _, _, _, _, _, h, h' => by
    simp only [RepL] at h
    rw [h.1, h.2]; exact h'
  | d :: ds, es, _, ws, _, g, h, h' => by
    simp only [RepL] at h
    obtain ⟨v, vr, f1, f2, e1, h1, h2, e2⟩ := h
    rw [e1, e2]
    simp only [List.cons_append, RepL]
    exact ⟨v, vr ++ ws, f1, f2 ++ g, rfl, h1, RepL.app h2 h', by rw [List.append_assoc]⟩
theorem RepL.one {d : D} {v : V} {f : List Addr} (h : Rep K F L H d v f) : RepL K F L H [d] [v] f := by
  simp only [RepL]
  exact ⟨v, [], f, [], rfl, h, ⟨rfl, rfl⟩, by simp⟩
theorem isFrzL_iff : ∀ {ds : List D}, D.isFrzL ds = true ↔ ∀ d ∈ ds, d.isFrz = true
  | [] => by simp [D.isFrzL]
  | d :: ds => by simp only [D.isFrzL, Bool.and_eq_true, isFrzL_iff (ds := ds), List.mem_cons, forall_eq_or_imp]
theorem isFrzL_app {a b : List D} (h : D.isFrzL a = true) (h' : D.isFrzL b = true) : D.isFrzL (a ++ b) = true := by
  rw [isFrzL_iff] at *
  intro d hd
  rcases List.mem_append.mp hd with z | z
  · exact h d z
  · exact h' d z
theorem RepL.drop : ∀ (n : Nat) {ds : List D} {vs : List V}, RepL K F L H ds vs [] → RepL K F L H (ds.drop n) (vs.drop n) []
  | 0, _, _, h => h
  | n + 1, [], _, h => by simp only [RepL] at h; rw [h.1]; simp [RepL]
  | n + 1, d :: ds, _, h => by
    simp only [RepL] at h
    obtain ⟨v, vr, f1, f2, e1, h1, h2, e2⟩ := h
    obtain ⟨rfl, rfl⟩ : f1 = [] ∧ f2 = [] := by have := List.append_eq_nil_iff.mp e2.symm; exact this
    rw [e1]
    simpa using RepL.drop n h2
theorem RepL.take : ∀ (n : Nat) {ds : List D} {vs : List V}, RepL K F L H ds vs [] → RepL K F L H (ds.take n) (vs.take n) []
  | 0, _, _, h => by simp [RepL]
  | n + 1, [], _, h => by simp only [RepL] at h; rw [h.1]; simp [RepL]
  | n + 1, d :: ds, _, h => by
    simp only [RepL] at h
    obtain ⟨v, vr, f1, f2, e1, h1, h2, e2⟩ := h
    obtain ⟨rfl, rfl⟩ : f1 = [] ∧ f2 = [] := by have := List.append_eq_nil_iff.mp e2.symm; exact this
    rw [e1]
    simp only [List.take_succ_cons, RepL]
    exact ⟨v, _, [], [], rfl, h1, RepL.take n h2, rfl⟩
theorem RepL.set {d : D} {v : V} (hd : Rep K F L H d v []) : ∀ (i : Nat) {ds : List D} {vs : List V}, RepL K F L H ds vs [] → RepL K F L H (ds.set i d) (vs.set i v) []
  | _, [], _, h => by simp only [RepL] at h; rw [h.1]; simp [RepL]
  | 0, c :: ds, _, h => by
    simp only [RepL] at h
    obtain ⟨w, vr, f1, f2, e1, h1, h2, e2⟩ := h
    obtain ⟨rfl, rfl⟩ : f1 = [] ∧ f2 = [] := by have := List.append_eq_nil_iff.mp e2.symm; exact this
    rw [e1]
    simp only [List.set_cons_zero, RepL]
    exact ⟨v, vr, [], [], rfl, hd, h2, rfl⟩
  | i + 1, c :: ds, _, h => by
    simp only [RepL] at h
    obtain ⟨w, vr, f1, f2, e1, h1, h2, e2⟩ := h
    obtain ⟨rfl, rfl⟩ : f1 = [] ∧ f2 = [] := by have := List.append_eq_nil_iff.mp e2.symm; exact this
    rw [e1]
    simp only [List.set_cons_succ, RepL]
    exact ⟨w, _, [], [], rfl, h1, RepL.set hd i h2, rfl⟩
end
end PV

set_option Elab.async false
set_option linter.all false
set_option maxRecDepth 100000
set_option maxHeartbeats 4000000
/-! PV, part C: operators by the hand layer's rules. -/
namespace PV
open PySem PySem.Spec PyProof.Rows L2
/-- the heap has grown: what stood stands; what is frozen now was so, or is new -/
structure Grow (F F' : AP) (H H' : Hp) : Prop where
  keep : ∀ a o, H a = some o → datO o = true → H' a = some o
  mono : ∀ a, F a → F' a
  new : ∀ a, F' a → F a ∨ H a = none
  st : ∀ a, F' a → H' a ≠ none
  ne : ∀ a, H a ≠ none → H' a ≠ none
  tb : ∀ P, GxR.TabG H P → GxR.TabG H' P
section
variable {F F1 F2 L : AP} {H H1 H2 : Hp}
theorem Grow.refl (h : ∀ a, F a → H a ≠ none) : Grow F F H H := ⟨fun _ _ e _ => e, fun _ e => e, fun _ e => .inl e, h, fun _ e => e, fun _ e => e⟩
theorem Grow.free (g : Grow F F1 H H1) {a : Addr} (h : H1 a = none) : H a = none := by
  cases e : H a with
  | none => rfl
  | some o => exact absurd h (g.ne a (by rw [e]; simp))
theorem Grow.trans (g : Grow F F1 H H1) (g' : Grow F1 F2 H1 H2) : Grow F F2 H H2 :=
  ⟨fun a o e dd => g'.keep a o (g.keep a o e dd) dd, fun a e => g'.mono a (g.mono a e), fun a e => (g'.new a e).elim (g.new a) fun z => .inr (g.free z), g'.st, fun a e => g'.ne a (g.ne a e), fun P e => g'.tb P (g.tb P e)⟩
theorem Grow.lk (g : Grow F F1 H H1) (hL : ∀ a, L a → H a ≠ none) : ∀ a, L a → H1 a ≠ none := fun a e z => hL a e (g.free z)
end
/-- a value as it came: its owned nodes are new -/
structure NewV (K : PySem.W.Frag) (F' L : AP) (H H' : Hp) (d : D) (v : V) (fp : List Addr) : Prop where
  rep : Rep K F' L H' d v fp
  nd : fp.Nodup
  fresh : ∀ a ∈ fp, H a = none ∧ ¬ F' a
structure NewVs (K : PySem.W.Frag) (F' L : AP) (H H' : Hp) (ds : List D) (vs : List V) (fp : List Addr) : Prop where
  rep : RepL K F' L H' ds vs fp
  nd : fp.Nodup
  fresh : ∀ a ∈ fp, H a = none ∧ ¬ F' a
section
variable {K : PySem.W.Frag} {F F1 F2 L : AP} {H H0 H1 H2 : Hp} {d : D} {v : V} {fp : List Addr} {ds : List D} {vs : List V}
theorem Rep.grow (g : Grow F F1 H H1) (h : Rep K F L H d v fp) : Rep K F1 L H1 d v fp := Rep.mono g.mono (fun _ e => e) d (fun a o e dd _ => g.keep a o e dd) h
theorem RepL.grow (g : Grow F F1 H H1) (h : RepL K F L H ds vs fp) : RepL K F1 L H1 ds vs fp := RepL.mono g.mono (fun _ e => e) ds (fun a o e dd _ => g.keep a o e dd) h
theorem NewV.grow (n : NewV K F1 L H0 H1 d v fp) (g : Grow F1 F2 H1 H2) : NewV K F2 L H0 H2 d v fp :=
  ⟨n.rep.grow g, n.nd, fun a ha => ⟨(n.fresh a ha).1, fun z => (g.new a z).elim (n.fresh a ha).2 fun z => by
    obtain ⟨o, e⟩ := n.rep.stand d a ha
    rw [z] at e; cases e⟩⟩
theorem NewVs.grow (n : NewVs K F1 L H0 H1 ds vs fp) (g : Grow F1 F2 H1 H2) : NewVs K F2 L H0 H2 ds vs fp :=
  ⟨n.rep.grow g, n.nd, fun a ha => ⟨(n.fresh a ha).1, fun z => (g.new a z).elim (n.fresh a ha).2 fun z => by
    obtain ⟨o, e⟩ := n.rep.stand ds a ha
    rw [z] at e; cases e⟩⟩
theorem NewV.back (n : NewV K F1 L H0 H1 d v fp) (g : Grow F F2 H H0) : NewV K F1 L H H1 d v fp := ⟨n.rep, n.nd, fun a ha => ⟨g.free (n.fresh a ha).1, (n.fresh a ha).2⟩⟩
theorem NewVs.back (n : NewVs K F1 L H0 H1 ds vs fp) (g : Grow F F2 H H0) : NewVs K F1 L H H1 ds vs fp := ⟨n.rep, n.nd, fun a ha => ⟨g.free (n.fresh a ha).1, (n.fresh a ha).2⟩⟩
/-- a value without owned nodes -/
theorem NewV.plain (h : Rep K F1 L H1 d v []) : NewV K F1 L H H1 d v [] := ⟨h, List.nodup_nil, fun a ha => by cases ha⟩
end
/-- what may follow a value: the continuation of an expression -/
def After (K : PySem.W.Frag) (F L : AP) (H : Hp) (d : D) (Q : VK) : Prop := ∀ v H' F' fp, Grow F F' H H' → NewV K F' L H H' d v fp → Q v H'
section
variable {K : PySem.W.Frag} {F F1 L : AP} {H H1 : Hp} {d : D} {Q : VK}
theorem After.grow (h : After K F L H d Q) (g : Grow F F1 H H1) : After K F1 L H1 d Q := fun v H' F' fp g' n => h v H' F' fp (g.trans g') (n.back g)
theorem After.bl {b : Bool} (h : After K F L H (.bl b) Q) (hF : ∀ a, F a → H a ≠ none) : Q (.bl b) H := h _ _ F [] (Grow.refl hF) (.plain (by simp [Rep]))
theorem After.int {i : Int} (h : After K F L H (.int i) Q) (hF : ∀ a, F a → H a ≠ none) : Q (.int i) H := h _ _ F [] (Grow.refl hF) (.plain (by simp [Rep]))
theorem After.str {s : List Nat} (h : After K F L H (.str s) Q) (ok : okS s) (hF : ∀ a, F a → H a ≠ none) : Q (.str (sOf s)) H := h _ _ F [] (Grow.refl hF) (.plain (by simpa [Rep] using ok))
theorem upd_free {p : Addr} {o : HO} (hp : H p = none) : ∀ a u, H a = some u → upd H p o a = some u := fun a u e => by rw [upd_ne (ne_of_none e hp)]; exact e
theorem upd_ne0 {p : Addr} {o : HO} : ∀ a, H a ≠ none → upd H p o a ≠ none := fun a n => by
  by_cases q : a = p
  · subst q; rw [upd_same]; simp
  · rw [upd_ne q]; exact n
theorem upd_tb {p : Addr} {o : HO} (hp : H p = none) : ∀ P, GxR.TabG H P → GxR.TabG (upd H p o) P := fun P ⟨ps, e, t⟩ => ⟨ps, upd_free hp P _ e, t⟩
/-- a new list, owned -/
theorem After.lst {l : List D} {xs : List V} (h : After K F L H (.lst .own l) Q) (hF : ∀ a, F a → H a ≠ none) (hl : RepL K F L H l xs []) {p : Addr} (hp : H p = none) : Q (.ref p) (upd H p (.lst xs)) := by
  refine h _ _ F [p] ⟨fun a u e _ => upd_free hp a u e, fun _ e => e, fun _ e => .inl e, fun a e z => ?_, upd_ne0, upd_tb hp⟩ ⟨?_, by simp, fun a ha => ?_⟩
  · by_cases q : a = p
    · subst q; exact hF a e hp
    · rw [upd_ne q] at z; exact hF a e z
  · simp only [Rep]
    exact ⟨p, xs, [], rfl, upd_same, RepL.mono (fun _ e => e) (fun _ e => e) l (fun a u e _ _ => upd_free hp a u e) hl, rfl⟩
  · have : a = p := by simpa using ha
    subst this
    exact ⟨hp, fun z => hF a z hp⟩
/-- a new tuple -/
theorem After.tup {l : List D} {xs : List V} (h : After K F L H (.tup l) Q) (hF : ∀ a, F a → H a ≠ none) (hl : RepL K F L H l xs []) (hz : D.isFrzL l = true) {p : Addr} (hp : H p = none) : Q (.ref p) (upd H p (.tup xs)) := by
  refine h _ _ (fun a => F a ∨ a = p) [] ⟨fun a u e _ => upd_free hp a u e, fun _ e => .inl e, fun a e => e.elim .inl fun z => .inr (by rw [z]; exact hp), fun a e z => ?_, upd_ne0, upd_tb hp⟩ (.plain ?_)
  · by_cases q : a = p
    · subst q; rw [upd_same] at z; cases z
    · rw [upd_ne q] at z; exact e.elim (fun e => hF a e z) q
  · simp only [Rep]
    exact ⟨p, xs, rfl, .inl ⟨.inr rfl, upd_same⟩, RepL.mono (fun _ e => .inl e) (fun _ e => e) l (fun a u e _ _ => upd_free hp a u e) hl, hz, by trivial⟩
end
/-! ### data and equality -/
theorem pyL_map : ∀ l : List D, D.pyL l = l.map D.py
  | [] => rfl
  | d :: ds => by simp only [D.pyL, List.map_cons, pyL_map ds]
section
variable {K : PySem.W.Frag} {F L : AP} {H : Hp}
theorem Rep.sqL {f : Fl} {l : List D} {v : V} {fp : List Addr} (h : Rep K F L H (.lst f l) v fp) : ∃ a xs fp', v = .ref a ∧ H a = some (.lst xs) ∧ RepL K F L H l xs fp' ∧ fp'.Sublist fp := by
  simp only [Rep] at h
  obtain ⟨a, xs, fp', e, ha, hl, q⟩ := h
  refine ⟨a, xs, fp', e, ha, hl, ?_⟩
  cases f with
  | frz => obtain ⟨_, e1, _⟩ := q; rw [e1]; exact List.nil_sublist _
  | lck => obtain ⟨_, e1, _⟩ := q; rw [e1]; exact List.nil_sublist _
  | own => have q : fp = a :: fp' := q; rw [q]; exact List.sublist_cons_self _ _
mutual
theorem Rep.dp : ∀ (d : D) {v : V} {fp : List Addr}, d.plain = true → Rep K F L H d v fp → Dp K H v d.py
  | .non, _, _, _, h => by simp only [Rep] at h; rw [h.1]; exact .non
  | .bl b, _, _, _, h => by simp only [Rep] at h; rw [h.1]; exact .bl b
  | .int i, _, _, _, h => by simp only [Rep] at h; rw [h.1]; exact .int i
  | .str s, _, _, _, h => by simp only [Rep] at h; rw [h.1]; exact .str _
  | .scr _, _, _, p, _ => by simp [D.plain] at p
  | .tup l, _, _, p, h => by
    simp only [D.plain] at p
    simp only [Rep] at h
    obtain ⟨a, xs, e, ta, hl, _, _⟩ := h
    rw [e]
    exact .tup ta.sq (RepL.dp l p hl)
  | .lst f l, _, _, p, h => by
    simp only [D.plain] at p
    obtain ⟨a, xs, fp', e, ha, hl, _⟩ := h.sqL
    rw [e]
    exact .lst (SqL.of ha) (RepL.dp l p hl)
theorem RepL.dp : ∀ (ds : List D) {vs : List V} {fp : List Addr}, D.plainL ds = true → RepL K F L H ds vs fp → DpAll K H vs (D.pyL ds)
  | [], _, _, _, h => by simp only [RepL] at h; rw [h.1]; exact .nil
  | d :: ds, _, _, p, h => by
    simp only [D.plainL, Bool.and_eq_true] at p
    simp only [RepL] at h
    obtain ⟨v, vr, f1, f2, e, h1, h2, _⟩ := h
    rw [e]
    exact .cons (Rep.dp d p.1 h1) (RepL.dp ds p.2 h2)
end
end
mutual
theorem py_depth : ∀ d : D, d.plain = true → d.py.depth = d.depth
  | .non, _ => by simp [D.py, PyData.depth, D.depth]
  | .bl _, _ => by simp [D.py, PyData.depth, D.depth]
  | .int _, _ => by simp [D.py, PyData.depth, D.depth]
  | .str _, _ => by simp [D.py, PyData.depth, D.depth]
  | .scr _, p => by simp [D.plain] at p
  | .tup l, p => by simp only [D.plain] at p; simp only [D.py, PyData.depth, D.depth, py_depthL l p]
  | .lst _ l, p => by simp only [D.plain] at p; simp only [D.py, PyData.depth, D.depth, py_depthL l p]
theorem py_depthL : ∀ ds : List D, D.plainL ds = true → PyData.depthAll (D.pyL ds) = D.depthL ds
  | [], _ => by simp [D.pyL, PyData.depthAll, D.depthL]
  | d :: ds, p => by
    simp only [D.plainL, Bool.and_eq_true] at p
    simp only [D.pyL, PyData.depthAll, D.depthL, py_depth d p.1, py_depthL ds p.2]
end
section
variable {K : PySem.W.Frag} {F L : AP} {H : Hp}
mutual
theorem py_lay : ∀ (d : D) {v : V} {fp : List Addr}, d.plain = true → Rep K F L H d v fp → d.py.canLay0 = true
  | .non, _, _, _, _ => by simp [D.py, PyData.canLay0]
  | .bl _, _, _, _, _ => by simp [D.py, PyData.canLay0]
  | .int _, _, _, _, _ => by simp [D.py, PyData.canLay0]
  | .str s, _, _, _, r => by
    simp only [Rep] at r
    have p := r.2.2.2
    simp only [D.py, PyData.canLay0]
    show (sOf s).cps.all (· < 0x110000) = true
    simp only [sOf, Array.all_eq_true_iff_forall_mem, decide_eq_true_eq, List.mem_toArray]
    intro c hc
    have := p c hc
    omega
  | .scr _, _, _, p, _ => by simp [D.plain] at p
  | .tup l, _, _, p, r => by
    simp only [D.plain] at p
    simp only [Rep] at r
    obtain ⟨_, _, _, _, hl, _⟩ := r
    simp only [D.py, PyData.canLay0, py_layL l p hl]
  | .lst _ l, _, _, p, r => by
    simp only [D.plain] at p
    obtain ⟨_, _, _, _, _, hl, _⟩ := r.sqL
    simp only [D.py, PyData.canLay0, py_layL l p hl]
theorem py_layL : ∀ (ds : List D) {vs : List V} {fp : List Addr}, D.plainL ds = true → RepL K F L H ds vs fp → PyData.canLayAll0 (D.pyL ds) = true
  | [], _, _, _, _ => by simp [D.pyL, PyData.canLayAll0]
  | d :: ds, _, _, p, r => by
    simp only [D.plainL, Bool.and_eq_true] at p
    simp only [RepL] at r
    obtain ⟨_, _, _, _, _, h1, h2, _⟩ := r
    simp only [D.pyL, PyData.canLayAll0, py_lay d p.1 h1, py_layL ds p.2 h2, Bool.and_self]
end
theorem py_shaped {d : D} {v : V} {fp : List Addr} (r : Rep K F L H d v fp) (p : d.plain = true) (h : d.depth ≤ 60) : SeqAt.shaped d.py = true := by
  unfold SeqAt.shaped
  rw [py_lay d p r, py_depth d p, Bool.true_and]
  exact decide_eq_true (by omega)
end
theorem sOf_beq (a b : List Nat) : (sOf a == sOf b) = (a == b) := by
  rw [Bool.eq_iff_iff, beq_iff_eq, beq_iff_eq]
  constructor
  · intro h
    have h := congrArg (fun x : Str => x.cps.toList) h
    simpa [sOf] using h
  · intro h; rw [h]
def bi (a b : D) : Bool := (a.noBl && b.noBl) || (a.noInt && b.noInt)
mutual
theorem py_eqv : ∀ a b : D, a.plain = true → b.plain = true → ((a.noBl = true ∧ b.noBl = true) ∨ (a.noInt = true ∧ b.noInt = true)) → PyData.eqv a.py b.py = a.beq b
  | .non, b, _, q, _ => by cases b <;> simp_all [D.py, PyData.eqv, D.beq, D.plain]
  | .bl x, b, _, q, n => by cases b <;> simp_all [D.py, PyData.eqv, D.beq, D.plain, D.noBl, D.noInt]
  | .int x, b, _, q, n => by cases b <;> simp_all [D.py, PyData.eqv, D.beq, D.plain, D.noBl, D.noInt]
  | .str x, b, _, q, n => by cases b <;> simp_all [D.py, PyData.eqv, D.beq, D.plain, sOf_beq]
  | .scr _, _, p, _, _ => by simp [D.plain] at p
  | .tup x, b, p, q, n => by
    cases b with
    | tup y =>
      simp only [D.plain] at p q
      simp only [D.noBl, D.noInt] at n
      simp only [D.py, PyData.eqv, D.beq]
      exact py_eqvL x y p q n
    | scr _ => simp [D.plain] at q
    | _ => simp [D.py, PyData.eqv, D.beq]
  | .lst _ x, b, p, q, n => by
    cases b with
    | lst f y =>
      simp only [D.plain] at p q
      simp only [D.noBl, D.noInt] at n
      simp only [D.py, PyData.eqv, D.beq]
      exact py_eqvL x y p q n
    | scr _ => simp [D.plain] at q
    | _ => simp [D.py, PyData.eqv, D.beq]
theorem py_eqvL : ∀ a b : List D, D.plainL a = true → D.plainL b = true → ((D.noBlL a = true ∧ D.noBlL b = true) ∨ (D.noIntL a = true ∧ D.noIntL b = true)) → PyData.eqvAll (D.pyL a) (D.pyL b) = D.beqL a b
  | [], [], _, _, _ => by simp [D.pyL, PyData.eqvAll, D.beqL]
  | [], _ :: _, _, _, _ => by simp [D.pyL, PyData.eqvAll, D.beqL]
  | _ :: _, [], _, _, _ => by simp [D.pyL, PyData.eqvAll, D.beqL]
  | x :: xs, y :: ys, p, q, n => by
    simp only [D.plainL, Bool.and_eq_true] at p q
    simp only [D.noBlL, D.noIntL, Bool.and_eq_true] at n
    simp only [D.pyL, PyData.eqvAll, D.beqL]
    rw [py_eqv x y p.1 q.1 (n.elim (fun z => .inl ⟨z.1.1, z.2.1⟩) fun z => .inr ⟨z.1.1, z.2.1⟩), py_eqvL xs ys p.2 q.2 (n.elim (fun z => .inl ⟨z.1.2, z.2.2⟩) fun z => .inr ⟨z.1.2, z.2.2⟩)]
end
end PV

set_option Elab.async false
set_option linter.all false
set_option maxRecDepth 100000
set_option maxHeartbeats 8000000
/-! PV, part Ga: a generator expression handed to any, all: its own frame. -/
namespace PV
open PySem PySem.Spec PyProof.Rows L2
/-- the context of a generator expression's frame that started at s; A: as it is woken; pn: its own object -/
abbrev gcx (X : Cx) (A : Around) (s : Shared) (H : Hp) (cenv : PySem.Env) (fp : List Addr) (pn : List (Addr × Obj)) : Cx :=
  { X with A := A, s_0 := s, H_0 := H, env := cenv, outer := X.stack, stack := cenv :: X.stack, ex := fp, fn := fun _ => false, pn := pn, xe := fun _ _ => False }
/-- what is asked of its names -/
structure GenOk (N : List Str) (sc scope : Scope) (own : List (Str × Nat)) : Prop where
  b : BlkOk N sc scope own
  co : scope.isCoroutine = false
  nc : ∀ y ∈ scope.names, y.2 ≠ .cell
  dot : scope.names.lookup (".0" : Str) = some NameKind.local
  nd : (".0" : Str) ∉ N
section
variable {X : Cx} {pins : List (Addr × Obj)} {σ : L2.St} {H : Hp} {s : Shared}
theorem gen_free (I : Inv X pins σ H s) {scope : Scope} {own : List (Str × Nat)} (ok : BlkOk X.N X.env.scope scope own) : ∀ y ∈ scope.names, y.2 = .free → ∃ c, X.env.cells.lookup y.1 = some c := fun y hy e => by
  rcases ok.free y hy e with k | k
  · exact I.ok.has _ (.inl k)
  · exact I.ok.has _ (.inr k)
theorem gen_start {A' : Around} {scope : Scope} {own : List (Str × Nat)} {fp : List Addr} {code : Value} {h6 : Heap} {g6 : Array GenState} {d6 : Drawn} {tk : Nat} {it : Value} {a : Addr} {go : Obj} (I : Inv X pins σ H s) (ok : GenOk X.N X.env.scope scope own) (hN : X.N.Nodup)
    (hfp : ∀ b ∈ fp, FpOk X pins H b ∧ b < s.heap.objs.size) (hd : A'.handled = none) (hfr : A'.frames = some (genEnv scope (cloFrom X.env.cells scope.names []) s.heap.objs.size code builtinsNs X.env :: X.stack))
    (kp : ∀ b o, s.heap.get? b = some o → h6.get? b = some o) (ns : h6.Ns s.heap.objs.size (fun y => if y = ".0" then some it else none)) (ha : h6.get? a = some go) (haa : s.heap.objs.size < a) (hgd : ∀ v, go.data ≠ .cell v) (hb : AllBare g6) :
    Inv (gcx X A' s H (genEnv scope (cloFrom X.env.cells scope.names []) s.heap.objs.size code builtinsNs X.env) fp [(a, go)]) [] (wipe σ (own.map (·.2))) H { s with gens := g6, heap := h6, toks := tk, drawn := d6 } := by
  have hfree := gen_free I ok.b
  generalize hce : genEnv scope (cloFrom X.env.cells scope.names []) s.heap.objs.size code builtinsNs X.env = ce at hfr ⊢
  have hL : ce.locals = s.heap.objs.size := by rw [← hce]; rfl
  have hcl : ce.cells = cloFrom X.env.cells scope.names [] := by rw [← hce]; rfl
  have hsc : ce.scope = scope := by rw [← hce]; rfl
  -- a captured name's cell is the def's
  have cm : ∀ {y : Str} {c : Addr}, ce.cells.lookup y = some c → X.env.cells.lookup y = some c := fun {y c} e => by
    rw [hcl] at e
    rcases cloFrom_mem (PySem.mem_of_lookup e) with z | ⟨z, rfl⟩
    · cases z
    · obtain ⟨c, hc⟩ := hfree _ z rfl
      rw [hc]
      rfl
  have lk : ∀ {y : Str}, scope.names.lookup y = some .free → ∃ c, ce.cells.lookup y = some c := fun {y} e => by
    rw [hcl]
    exact mem_lookup (cloFrom_has (cells := X.env.cells) (acc := []) (PySem.mem_of_lookup e))
  have young : ∀ b : Addr, s.heap.objs.size ≤ b → b ∉ frs X.stack := fun b hb z => by
    rcases List.mem_cons.mp (I.stkSub b z) with e | e
    · have := I.lt
      rw [← e] at this
      exact absurd (Nat.lt_of_lt_of_le this hb) (Nat.lt_irrefl _)
    · exact I.nofs hb e
  have okc : (gcx X A' s H ce fp [(a, go)]).Ok := by
    refine ⟨I.ok.mod, by show ce.scope.kind = _; rw [hsc]; exact ok.b.kind, by rw [← hce]; exact I.ok.glob, by rw [← hce]; rfl, by show s.heap.objs.size ≤ ce.locals; rw [hL]; exact Nat.le_refl _,
      fun y z c e1 e2 => I.ok.inj y z c (cm e1) (cm e2), fun y hy => ?_, fun y c z _ => (by cases z), fun _ => hd, hfr, .inr ⟨rfl, by rw [← hce]; rfl⟩, fun b hb => ⟨?_, fun y c e => (hfp b hb).1.2.2.2.2.1 y c (cm e)⟩, I.bs, Nat.le_trans I.ok.bsz I.sz, fun b o e hb => ?_, fun b hb z => ?_, I.stack, I.stkFree⟩
    · have hy : ce.scope.names.lookup y = some .cell ∨ ce.scope.names.lookup y = some .free := hy
      rw [hsc] at hy
      rcases hy with e | e
      · exact absurd rfl (ok.nc _ (PySem.mem_of_lookup e))
      · exact lk e
    · show b ≠ ce.locals
      rw [hL]; exact Nat.ne_of_lt (hfp b hb).2
    · rcases (hfp b hb).1.2.2.2.1 with z | z
      · exact I.ok.noex b o e z
      · exact absurd (Nat.lt_of_lt_of_le (Heap.lt_size e) (Nat.le_trans I.ok.bsz z)) (Nat.lt_irrefl _)
    · rcases List.mem_cons.mp (I.stkSub b z) with z | z
      · exact (hfp b hb).1.2.1 z
      · exact (hfp b hb).1.2.2.1 z
  refine ⟨okc, rfl, hb, Un.kept kp, ⟨_, by rw [hL]; exact ns, fun i y v e1 e2 e3 => ?_⟩, fun y c e => ?_, ?_, fun y c e => I.freeC y c (cm e), fun p hp => ?_, I.hok.kept kp, by rw [wipe_length]; exact I.len⟩
  · obtain ⟨e2, hne⟩ := wipe_some e2
    have e3 : Vis ce.scope y := e3
    rw [hsc] at e3
    have noLoc : ∀ k, scope.names.lookup y = some k → ¬ (k = .local ∨ k = .cell) := fun k e hk => by
      rcases ok.b.own _ (PySem.mem_of_lookup e) hk with z | z
      · obtain ⟨p, hp, hpy⟩ := List.mem_map.mp z
        have e4 := ok.b.ix p hp
        have : p.1 = y := hpy
        rw [this] at e4
        exact hne (List.mem_map.mpr ⟨p, hp, nodup_ix hN e4 e1⟩)
      · exact z (List.mem_of_getElem? e1)
    have hf : scope.names.lookup y = some .free := by
      rcases e3 with e3 | e3 | e3
      · exact absurd (.inl rfl) (noLoc _ e3)
      · exact absurd (.inr rfl) (noLoc _ e3)
      · exact e3
    obtain ⟨m, _, hl⟩ := I.loc
    have hv : Vis X.env.scope y := (ok.b.free _ (PySem.mem_of_lookup hf) rfl).elim (fun k => .inr (.inl k)) fun k => .inr (.inr k)
    obtain ⟨u, r, q⟩ := hl i y v e1 e2 hv
    obtain ⟨c, hc⟩ := lk hf
    refine ⟨u, r, .inr ⟨.inr (by show ce.scope.names.lookup y = _; rw [hsc]; exact hf), c, hc, ?_⟩⟩
    rcases q with ⟨k, _⟩ | ⟨_, c', e', z⟩
    · have k : X.env.scope.names.lookup y = some .local := k
      rcases ok.b.free _ (PySem.mem_of_lookup hf) rfl with k' | k' <;> rw [show X.env.scope.names.lookup y = _ from k'] at k <;> cases k
    · rw [cm hc] at e'
      cases e'
      exact z.keeps kp
  · obtain ⟨v, z⟩ := I.cell y c (cm e)
    exact ⟨v, z.keeps kp⟩
  · show H ce.locals = none
    rw [hL]; exact I.hok.fresh (Nat.le_refl _)
  · have e : p = (a, go) := by
      have hp : p ∈ [(a, go)] ++ [] := hp
      simpa using hp
    subst e
    exact ⟨ha, I.hok.fresh (Nat.le_of_lt haa), by show a ≠ ce.locals; rw [hL]; exact Nat.ne_of_gt haa, young a (Nat.le_of_lt haa), hgd⟩
/-- the generators' table may change -/
theorem inv_gens {s' : Shared} (I : Inv X pins σ H s) (hh : s'.heap = s.heap) (ho : s'.os = s.os) (hb : AllBare s'.gens) : Inv X pins σ H s' :=
  ⟨I.ok, ho.trans I.os, hb, by rw [hh]; exact I.base, by rw [hh]; exact I.loc, by rw [hh]; exact I.cell, I.free, I.freeC, by rw [hh]; exact I.pin, by rw [hh]; exact I.hok, I.len⟩
end
abbrev gLoop (elt tg iter : Expr) (scope : Scope) (pos : Pos) (it : Addr) (ce : PySem.Env) : Code := .compLoop (.GeneratorExp elt [⟨tg, iter, [], 0⟩] scope pos) 0 (.ref it) .none ce
abbrev gStart (elt tg iter : Expr) (scope : Scope) (pos : Pos) (it : Addr) (ce : PySem.Env) : Code := .compStart (.GeneratorExp elt [⟨tg, iter, [], 0⟩] scope pos) 0 (.ref it) .none ce
/-- the end of the walk; an item handed out -/
def gEnd (X : Cx) (σ : L2.St) (all : Bool) (Q : VK) : GenEnd := fun _ _ r s => r = .ok .next ∧ ∃ H', Inv X [] σ H' s ∧ Q (.bl all) H'
def gItem (X : Cx) (all : Bool) (Q : VK) : Protocol := fun _ _ v s kap =>
  ∃ b H' σ', v = .bool b ∧ Inv X [] σ' H' s ∧ ((b = !all ∧ Q (.bl (!all)) H') ∨ (b = all ∧ ∀ s'', s''.heap = s.heap → s''.os = s.os → AllBare s''.gens → kap (.send .none) s''))
section
variable {X : Cx} {σw : L2.St} {all : Bool} {Q : VK}
/-- the turns of a generator expression, each woken anew -/
theorem gen_loop {A₀ : Around} {elt tg iter : Expr} {scope : Scope} {pos : Pos} {it : Addr} {fp : List Addr} {tn : Nat → Heap → Prop} {J : L2.It} {vs : List Nat} {g : TG} {te : TE} (hX : X.A = A₀.over (gLoop elt tg iter scope pos it X.env) []) (hc : X.calm = true) (hxe : X.xe = fun _ _ => False) (hco : X.env.scope.isCoroutine = false) (hex : X.ex = fp)
    (hw : wipe σw vs = σw) (T : Turn X.prog X.w X.K tg J fp it tn) (hg : PG X tg g) (he : PE X elt te) (hpn : ∀ p ∈ X.pn, ∀ b ∈ fp, p.1 ≠ b)
    (W : Nat → Nat → Hp → Prop) (turn : ∀ i m H, W i m H → (J.stop i H ∧ Q (.bl all) H) ∨ (J.go i H ∧ ∃ Nx : Hp → Prop, (∀ H', Nx H' → ∃ m', m' < m ∧ W (i + 1) m' H') ∧ ∀ x H', J.yld i H x H' → g x σw H' fun σ2 H2 => wipe σ2 vs = σw ∧ te σ2 H2 fun y H3 => ∃ b, y = .bl b ∧ if b = all then Nx H3 else Q (.bl (!all)) H3)) :
    ∀ (m n i : Nat) (s₀ s : Shared) (H : Hp), m < n → W i m H → Inv X [] σw H s → tn i s.heap → (∀ b ∈ fp, H b = none) →
      Seg (model X.prog X.w) A₀ (gEnd X σw all Q) (gItem X all Q) n s₀ (gLoop elt tg iter scope pos it X.env) ((model X.prog X.w).den (gLoop elt tg iter scope pos it X.env)) [] s := by
  have stat : ∀ {σ' : L2.St} {H' : Hp} {s' : Shared}, Inv X [] σ' H' s' → (∀ b ∈ fp, H' b = none) → ∀ b ∈ fp, FpOk X [] H' b := fun {σ' H' s'} I' hn b hb => by
    subst hex
    exact ⟨hn b hb, (I'.ok.exf b hb).1, I'.ok.exfs b hb, .inl hb, fun x c e => (I'.ok.exf b hb).2 x c e, fun p hp => hpn p (by simpa using hp) b hb⟩
  intro m
  induction m using Nat.strongRecOn with
  | ind m ih =>
    intro n i s₀ s H hmn w I st hn
    show Seg _ A₀ _ _ n s₀ _ ((compTurn (.GeneratorExp elt [⟨tg, iter, [], 0⟩] scope pos) 0 (.ref it) .none X.env).onRaise (leaving X.env)) [] s
    rw [compTurn_gen, Sem.onRaise_eq_wrap]
    refine seg_bind_wrap (wpAny_standAt ?_)
    rcases turn i m H w with ⟨stop, qq⟩ | ⟨go, Nx, hNx, step⟩
    · refine seg_bind_wrap ?_
      rw [← hX]
      refine thnF (T.done X rfl rfl rfl hc i [] s σw H (fun _ _ => False) I (stat I hn) st stop) fun r s1 ⟨hr, I1⟩ => ?_
      subst hr
      exact seg_end (.ok .next) ⟨rfl, H, I1, qq⟩
    · refine seg_bind_wrap ?_
      rw [← hX]
      refine thnF (T.item X rfl rfl rfl hc i [] s σw H (fun _ _ => False) I (stat I hn) st go) fun r s1 ⟨u, hr, h1⟩ => ?_
      subst hr
      refine seg_bind_wrap ?_
      rw [← hX]
      refine thnF h1 fun _ s2 ⟨x, H2, I2, r2, y2, st2, n2⟩ => ?_
      have I2' := I2.pinned (stat I2 n2) (T.obj _ _ st2)
      refine seg_bind_wrap ?_
      rw [← hX]
      have pg := hg.run _ s2 σw H2 x u _ I2' r2 (step x H2 y2)
      rw [hxe] at pg
      refine thnF pg fun _ s3 ⟨σ3, H3, I3, hw3, q3⟩ => ?_
      refine seg_bind_wrap (wpAny_tests_nil ?_)
      simp only [if_true]
      have hy : ∀ v, yieldOut X.env v = yieldValue v := fun v => by simp only [yieldOut, hco, Bool.false_eq_true, if_false]
      simp only [hy]
      rw [Sem.bind_eq_wrap', Sem.bind_eq_wrap', Sem.wrap_wrap, Sem.wrap_wrap]
      refine seg_wrap ?_
      rw [← hX]
      have pe := he.run _ s3 σ3 H3 _ I3 q3
      rw [hxe] at pe
      refine thnF pe fun z s4 ⟨y, H4, I4, r4, b, eb, q4⟩ => ?_
      subst eb
      cases (show z = Value.bool b from r4)
      obtain ⟨k, rfl⟩ : ∃ k, n = k + 1 := ⟨n - 1, by omega⟩
      have I5 : Inv X [] σ3 H4 s4 := I4.unpinned (pins := [])
      refine seg_at (seg_yield rfl rfl rfl ⟨b, H4, σ3, rfl, I5, ?_⟩)
      by_cases hb : b = all
      · rw [if_pos hb] at q4
        refine .inr ⟨hb, fun s5 hh ho hbare => ?_⟩
        obtain ⟨m', hm, w'⟩ := hNx H4 q4
        have pin' : ∀ c ∈ fp, ∀ o, s2.heap.get? c = some o → s5.heap.get? c = some o ∧ H4 c = none := fun c hcm o e => by
          have z := I4.pin (c, o) (List.mem_append_right _ (List.mem_append_right _ (mem_pinsAt hcm e)))
          exact ⟨by rw [hh]; exact z.1, z.2.1⟩
        have hl : σw.length = σ3.length := by rw [← hw3, wipe_length]
        refine seg_again rfl (ih m' hm k (i + 1) s5 s5 H4 (by omega) w' ((inv_gens I5 hh ho hbare).weak hl fun j v e => ?_) (T.keep _ _ _ st2 fun c hcm o e => (pin' c hcm o e).1) fun c hcm => ?_)
        · rw [← hw3] at e
          exact (wipe_some e).1
        · obtain ⟨o, e, _⟩ := T.obj _ _ st2 c hcm
          exact (pin' c hcm o e).2
      · rw [if_neg hb] at q4
        exact .inl ⟨by cases b <;> cases all <;> first | rfl | exact absurd rfl hb, q4⟩
theorem any_loop {A : Around} {R : Result → Shared → Prop} {a : Addr} {g : Nat} {go : Obj} (hh : A.handled = none) (hd : A.depth < recursionLimit) (hpn : X.pn = [(a, go)]) (hgen : ∀ h : Heap, h.get? a = some go → h.IsGen a g)
    (hR : ∀ b s' H' σ', Inv X [] σ' H' s' → Q (.bl b) H' → R (.ok (.ret (.bool b))) s') : ∀ (n : Nat) (s : Shared), s.heap.IsGen a g → s.heap.NoLimit →
      (∃ gs, s.gens[g]? = some gs ∧ gs.Goes (model X.prog X.w) A.in1.in1 (gEnd X σw false Q) (gItem X false Q) n (.send .none) (s.setGen g .running)) → codeAny (model X.prog X.w) A (.builtin "any.loop" ⟨[.ref a], []⟩) R s := by
  have there : ∀ {σ' : L2.St} {H' : Hp} {s' : Shared}, Inv X [] σ' H' s' → s'.heap.IsGen a g := fun {σ' H' s'} I => hgen _ (I.pin (a, go) (List.mem_append_left _ (by rw [hpn]; exact List.mem_singleton.mpr rfl))).1
  intro n
  induction n with
  | zero =>
    intro s hg hl ⟨gs, hgs, hgo⟩
    refine codeAny_builtin F.entry_any_loop ?_
    rw [Around.under_plainId F.plain_any_loop _]
    show wpAny _ A.in1 (pyNext (.ref a) >>= _) _ _ s
    refine wpAny_bind (wpAny_pyNext_genexpQ (A := A.in1) (P := fun _ _ s => ∃ H', Inv X [] σw H' s ∧ Q (.bl false) H') hh hl hd hg hgs hgo (fun v s₁ gs' hbare hv => ?_) (fun s₁ hp h' hk => ?_))
    · obtain ⟨b, H', σ', rfl, I, q⟩ := hv
      refine wpAny_bind (wpAny_holding (wpAny_truthy_bool (wpAny_bind (wpAny_letGo ?_))))
      rcases q with ⟨rfl, q⟩ | ⟨_, q⟩
      · simp only [Bool.not_false, if_true]
        exact wpAny_bind (wpAny_rule (wpAny_pure (hR _ _ _ _ (inv_gens I rfl rfl (allBare_setGen I.bare hbare)) q)))
      · exact (q s₁ rfl rfl I.bare).elim
    · obtain ⟨H', I, q⟩ := hp
      exact wpAny_bind (wpAny_rule (wpAny_pure (hR _ _ _ _ ((inv_gens (s' := s₁.setGen g .finished) I rfl rfl (allBare_setGen I.bare rfl)).kept (t' := (s₁.setGen g .finished).toks) hk) q)))
  | succ m ih =>
    intro s hg hl ⟨gs, hgs, hgo⟩
    have hgl : g < s.gens.size := (Array.getElem?_eq_some_iff.mp hgs).1
    refine codeAny_builtin F.entry_any_loop ?_
    rw [Around.under_plainId F.plain_any_loop _]
    show wpAny _ A.in1 (pyNext (.ref a) >>= _) _ _ s
    refine wpAny_bind (GenW.wpAny_gsz (n := g + 1) hgl (wpAny_pyNext_genexpQ (A := A.in1) (P := fun _ _ s => ∃ H', Inv X [] σw H' s ∧ Q (.bl false) H') hh hl hd hg hgs hgo (fun v s₁ gs' hbare hv => ?_) (fun s₁ hp h' hk => ?_)))
    · intro hsz
      obtain ⟨b, H', σ', rfl, I, q⟩ := hv
      refine wpAny_bind (wpAny_holding (wpAny_truthy_bool (wpAny_bind (wpAny_letGo ?_))))
      have I' := inv_gens (s' := s₁.setGen g gs') I rfl rfl (allBare_setGen I.bare hbare)
      rcases q with ⟨rfl, q⟩ | ⟨rfl, q⟩
      · simp only [Bool.not_false, if_true]
        exact wpAny_bind (wpAny_rule (wpAny_pure (hR _ _ _ _ I' q)))
      · simp only [Bool.false_eq_true, if_false]
        have hsz1 : g < s₁.gens.size := by
          have e : (s₁.setGen g gs').gens.size = s₁.gens.size := GenW.setGen_size _ _ _
          have hsz' : g + 1 ≤ (s₁.setGen g gs').gens.size := hsz
          omega
        exact wpAny_pure ⟨plainId_quiet F.plain_any_loop _, ih _ (there I') I'.nolimit ⟨gs', setGen_at hsz1, q _ rfl rfl (allBare_setGen (s := s₁.setGen g gs') (allBare_setGen I.bare hbare) rfl)⟩⟩
    · intro hsz
      obtain ⟨H', I, q⟩ := hp
      exact wpAny_bind (wpAny_rule (wpAny_pure (hR _ _ _ _ ((inv_gens (s' := s₁.setGen g .finished) I rfl rfl (allBare_setGen I.bare rfl)).kept (t' := (s₁.setGen g .finished).toks) hk) q)))
theorem all_loop {A : Around} {R : Result → Shared → Prop} {a : Addr} {g : Nat} {go : Obj} (hh : A.handled = none) (hd : A.depth < recursionLimit) (hpn : X.pn = [(a, go)]) (hgen : ∀ h : Heap, h.get? a = some go → h.IsGen a g)
    (hR : ∀ b s' H' σ', Inv X [] σ' H' s' → Q (.bl b) H' → R (.ok (.ret (.bool b))) s') : ∀ (n : Nat) (s : Shared), s.heap.IsGen a g → s.heap.NoLimit →
      (∃ gs, s.gens[g]? = some gs ∧ gs.Goes (model X.prog X.w) A.in1.in1 (gEnd X σw true Q) (gItem X true Q) n (.send .none) (s.setGen g .running)) → codeAny (model X.prog X.w) A (.builtin "all.loop" ⟨[.ref a], []⟩) R s := by
  have there : ∀ {σ' : L2.St} {H' : Hp} {s' : Shared}, Inv X [] σ' H' s' → s'.heap.IsGen a g := fun {σ' H' s'} I => hgen _ (I.pin (a, go) (List.mem_append_left _ (by rw [hpn]; exact List.mem_singleton.mpr rfl))).1
  intro n
  induction n with
  | zero =>
    intro s hg hl ⟨gs, hgs, hgo⟩
    refine codeAny_builtin F.entry_all_loop ?_
    rw [Around.under_plainId F.plain_all_loop _]
    show wpAny _ A.in1 (pyNext (.ref a) >>= _) _ _ s
    refine wpAny_bind (wpAny_pyNext_genexpQ (A := A.in1) (P := fun _ _ s => ∃ H', Inv X [] σw H' s ∧ Q (.bl true) H') hh hl hd hg hgs hgo (fun v s₁ gs' hbare hv => ?_) (fun s₁ hp h' hk => ?_))
    · obtain ⟨b, H', σ', rfl, I, q⟩ := hv
      refine wpAny_bind (wpAny_holding (wpAny_truthy_bool (wpAny_bind (wpAny_letGo ?_))))
      rcases q with ⟨rfl, q⟩ | ⟨_, q⟩
      · simp only [Bool.not_true, Bool.false_eq_true, if_false]
        exact wpAny_bind (wpAny_rule (wpAny_pure (hR _ _ _ _ (inv_gens I rfl rfl (allBare_setGen I.bare hbare)) q)))
      · exact (q s₁ rfl rfl I.bare).elim
    · obtain ⟨H', I, q⟩ := hp
      exact wpAny_bind (wpAny_rule (wpAny_pure (hR _ _ _ _ ((inv_gens (s' := s₁.setGen g .finished) I rfl rfl (allBare_setGen I.bare rfl)).kept (t' := (s₁.setGen g .finished).toks) hk) q)))
  | succ m ih =>
    intro s hg hl ⟨gs, hgs, hgo⟩
    have hgl : g < s.gens.size := (Array.getElem?_eq_some_iff.mp hgs).1
    refine codeAny_builtin F.entry_all_loop ?_
    rw [Around.under_plainId F.plain_all_loop _]
    show wpAny _ A.in1 (pyNext (.ref a) >>= _) _ _ s
    refine wpAny_bind (GenW.wpAny_gsz (n := g + 1) hgl (wpAny_pyNext_genexpQ (A := A.in1) (P := fun _ _ s => ∃ H', Inv X [] σw H' s ∧ Q (.bl true) H') hh hl hd hg hgs hgo (fun v s₁ gs' hbare hv => ?_) (fun s₁ hp h' hk => ?_)))
    · intro hsz
      obtain ⟨b, H', σ', rfl, I, q⟩ := hv
      refine wpAny_bind (wpAny_holding (wpAny_truthy_bool (wpAny_bind (wpAny_letGo ?_))))
      have I' := inv_gens (s' := s₁.setGen g gs') I rfl rfl (allBare_setGen I.bare hbare)
      rcases q with ⟨rfl, q⟩ | ⟨rfl, q⟩
      · simp only [Bool.not_true, Bool.false_eq_true, if_false]
        exact wpAny_bind (wpAny_rule (wpAny_pure (hR _ _ _ _ I' q)))
      · simp only [if_true]
        have hsz1 : g < s₁.gens.size := by
          have e : (s₁.setGen g gs').gens.size = s₁.gens.size := GenW.setGen_size _ _ _
          have hsz' : g + 1 ≤ (s₁.setGen g gs').gens.size := hsz
          omega
        exact wpAny_pure ⟨plainId_quiet F.plain_all_loop _, ih _ (there I') I'.nolimit ⟨gs', setGen_at hsz1, q _ rfl rfl (allBare_setGen (s := s₁.setGen g gs') (allBare_setGen I.bare hbare) rfl)⟩⟩
    · intro hsz
      obtain ⟨H', I, q⟩ := hp
      exact wpAny_bind (wpAny_rule (wpAny_pure (hR _ _ _ _ ((inv_gens (s' := s₁.setGen g .finished) I rfl rfl (allBare_setGen I.bare rfl)).kept (t' := (s₁.setGen g .finished).toks) hk) q)))
/-- a generator expression that has not begun -/
theorem gen_goes {A₀ : Around} {elt tg iter : Expr} {scope : Scope} {pos : Pos} {it : Addr} {fp : List Addr} {tn : Nat → Heap → Prop} {J : L2.It} {n : Nat} {s : Shared} {P : Program} {w : World} {K : PySem.W.Frag} {ce : PySem.Env} {R : GenEnd} {Y : Protocol} (T : Turn P w K tg J fp it tn) (st : tn 0 s.heap)
    (loop : Seg (model P w) A₀ R Y n s (gLoop elt tg iter scope pos it ce) ((model P w).den (gLoop elt tg iter scope pos it ce)) [] s) :
    (GenState.fresh (gStart elt tg iter scope pos it ce)).Goes (model P w) A₀ R Y n (.send .none) s := by
  refine ⟨rfl, ?_⟩
  show Seg _ A₀ _ _ n s _ ((compStart (.GeneratorExp elt [⟨tg, iter, [], 0⟩] scope pos) 0 (.ref it) .none ce).onRaise (leaving ce)) [] s
  unfold compStart
  rw [Sem.onRaise_eq_wrap]
  show Seg _ A₀ _ _ n s _ ((ask >>= _).wrap _ _ _ _) [] s
  refine seg_bind_wrap (wpAny_askSetting ?_)
  split
  · exact seg_again rfl loop
  · first
      | exact seg_bind_wrap (wpAny_rule (seg_bind_wrap (wpAny_standAt (seg_bind_wrap (T.self _ _ _ _ _ st (seg_again rfl loop))))))
      | (refine seg_bind_wrap (wpAny_rule ?_); show Seg _ A₀ _ _ n s _ ((standAt iter.pos >>= _).wrap _ _ _ _) [] s; exact seg_bind_wrap (wpAny_standAt (seg_bind_wrap (T.self _ _ _ _ _ st (seg_again rfl loop)))))
end
end PV

set_option Elab.async false
set_option linter.all false
set_option maxRecDepth 100000
set_option maxHeartbeats 8000000
/-! PV, part Gb: any, all of a generator expression: the rule. -/
namespace PV
open PySem PySem.Spec PyProof.Rows L2
section
variable {A : Around} {elt tg iter : Expr} {scope : Scope} {pos : Pos} {it : Addr} {ce : PySem.Env}
theorem over_handled' : (A.over (gLoop elt tg iter scope pos it ce) []).handled = A.handled := rfl
theorem over_depth : (A.over (gLoop elt tg iter scope pos it ce) []).depth = A.depth + 1 := by
  simp [Around.over, frameCount, Code.weight, Code.frames, Code.isFrame, Code.isCreation, Code.isGuard, Code.isCaller]
theorem over_units : (A.over (gLoop elt tg iter scope pos it ce) []).units = A.units + 3 := by
  simp [Around.over, unitsOf, Code.cUnits, Code.frames, Code.isFrame]
theorem over_frames {st : List PySem.Env} (h : A.frames = some st) : (A.over (gLoop elt tg iter scope pos it ce) []).frames = some (ce :: st) := by
  simp [Around.over, Code.envs, Code.isFrame, Code.env?, envsOf, pushEnvs, h]
theorem over_room {k : Nat} (r : Room (k + 1) A) : Room k ((A.in1.in1).over (gLoop elt tg iter scope pos it ce) []) := by
  refine ⟨r.hd, ?_, ?_⟩
  · rw [over_depth]
    have := r.dp
    show A.depth + 1 + 3 * k + 5 < _
    omega
  · rw [over_units]
    have := r.un
    show A.units + 1 + 1 + 3 + 16 * k + 200 < _
    omega
end
/-- any, all of (elt for tg in iter); P: the def's table, which may grow by the expression's code -/
def tGen (all : Bool) (P : Addr) (wi : TI) (g : TG) (te : TE) (vs : List Nat) : TE := fun σ H Q => wi σ H fun J H1 => GxR.TabG H1 P ∧ ∀ H2, GxR.Tabbed P H1 H2 → ∃ W : Nat → Nat → Hp → Prop, (∃ m, W 0 m H2) ∧ ∀ i m H, W i m H →
  (J.stop i H ∧ Q (.bl all) H) ∨ (J.go i H ∧ ∃ Nx : Hp → Prop, (∀ H', Nx H' → ∃ m', m' < m ∧ W (i + 1) m' H') ∧ ∀ x H', J.yld i H x H' → g x (wipe σ vs) H' fun σ2 H2 => wipe σ2 vs = wipe σ vs ∧ te σ2 H2 fun y H3 => ∃ b, y = .bl b ∧ if b = all then Nx H3 else Q (.bl (!all)) H3)
/-- the generator a, ready to be walked -/
def GReady (X : Cx) (pins : List (Addr × Obj)) (σ : L2.St) (all : Bool) (Q : VK) (a : Addr) (s6 : Shared) : Prop :=
  ∃ (X' : Cx) (σw : L2.St) (go : Obj) (g n : Nat), X'.prog = X.prog ∧ X'.w = X.w ∧ X'.pn = [(a, go)] ∧ (∀ h : Heap, h.get? a = some go → h.IsGen a g) ∧ s6.heap.IsGen a g ∧ s6.heap.NoLimit ∧
    (∃ gs, s6.gens[g]? = some gs ∧ gs.Goes (model X.prog X.w) X.A.in1.in1 (gEnd X' σw all Q) (gItem X' all Q) n (.send .none) (s6.setGen g .running)) ∧ ∀ s' H' σ', Inv X' [] σ' H' s' → Inv X pins σ H' s'
theorem wipe2 (σ : L2.St) (vs : List Nat) : wipe (wipe σ vs) vs = wipe σ vs := by
  have get : ∀ (σ : L2.St) (i : Nat) (vs : List Nat), (wipe σ vs)[i]? = if i ∈ vs then (σ[i]?).map (fun _ => none) else σ[i]? := fun σ i vs => by
    induction vs with
    | nil => simp [wipe]
    | cons v vs ih =>
      unfold wipe
      by_cases h : v = i
      · subst h
        by_cases hv : v < (wipe σ vs).length
        · rw [List.getElem?_set_self hv]
          have hv' : v < σ.length := by rw [wipe_length] at hv; exact hv
          simp [List.getElem?_eq_getElem hv']
        · have hv' : σ.length ≤ v := by rw [wipe_length] at hv; omega
          rw [List.getElem?_eq_none (by rw [List.length_set]; omega)]
          simp [List.getElem?_eq_none hv']
      · rw [List.getElem?_set_ne h, ih]
        have : (i ∈ v :: vs) = (i ∈ vs) := by simp [Ne.symm h]
        simp only [this]
  apply List.ext_getElem?
  intro i
  rw [get, get]
  split <;> simp [Function.comp_def]
section
variable {X : Cx} {pins : List (Addr × Obj)} {σ : L2.St} {H : Hp} {s : Shared}
theorem gen_make {c P : Addr} {all : Bool} {elt tg iter : Expr} {scope : Scope} {own : List (Str × Nat)} {gpos : Pos} {wi : TI} {g : TG} {te : TE} {k : Nat} {Q : VK} {Q' : Value → Shared → Prop}
    (hr : Room (k + 1) X.A) (hc : X.calm = true) (hN : X.N.Nodup) (TB : GxR.TabB X.base X.mg c P) (hcode : X.env.code = .ref c) (S : GenOk X.N X.env.scope scope own) (hi : PI X tg iter wi) (hs : ∀ v, genFold iter X.env v = pure v)
    (hg : ∀ (A' : Around) (s : Shared) (H : Hp) (code : Value) (fp : List Addr) (pn : List (Addr × Obj)), Room k A' → PG (gcx X A' s H (genEnv scope (cloFrom X.env.cells scope.names []) s.heap.objs.size code builtinsNs X.env) fp pn) tg g)
    (he : ∀ (A' : Around) (s : Shared) (H : Hp) (code : Value) (fp : List Addr) (pn : List (Addr × Obj)), Room k A' → PE (gcx X A' s H (genEnv scope (cloFrom X.env.cells scope.names []) s.heap.objs.size code builtinsNs X.env) fp pn) elt te)
    (I : Inv X pins σ H s) (h : tGen all P wi g te (own.map (·.2)) σ H Q) (hQ : ∀ a s6, GReady X pins σ all Q a s6 → Q' (.ref a) s6) :
    wpAny (model X.prog X.w) X.A (eval (.GeneratorExp elt [⟨tg, iter, [], 0⟩] scope gpos) X.env) Q' X.xe s := by
  have hdep : X.A.depth < recursionLimit := by have := hr.dp; omega
  refine wpAny_GeneratorExp_make S.co (closure_ok (gen_free I S.b)) S.nc S.dot S.b.kind hdep ?_ hs
  refine thn (hi.run pins s σ H _ I h) fun xv s1 hx => thn hx fun itv s2 h2 => ?_
  obtain ⟨it, fp, tn, J, H2, e, I2, T, st2, f2, ⟨ps, hP, ht⟩, q2⟩ := h2
  subst e
  refine ⟨I2.nolimit, ?_⟩
  have hPs : s2.heap.get? P = some { cls := .none, data := .fields ps } := I2.hok P _ hP
  have cd : PySem.W.CodeHd s2.heap c P := TB.code.keeps fun b u e => I2.bk b u e
  have cont : ∀ (code : Value) (h3 : Heap) (tk : Nat) (ps' : Array Value), Heap.ExtBut P s2.heap h3 → s2.heap.objs.size ≤ h3.objs.size → h3.get? P = some { cls := .none, data := .fields ps' } → (∃ more, ps' = ps ++ more) → TriplesOk ps'.toList →
      wpAny (model X.prog X.w) X.A (builtinsFor X.env.globals X.env.builtins) (fun bi s₄ => ∀ h', h'.Ns s₄.heap.objs.size (fun y => if y = ".0" then some (.ref it) else none) → Heap.SameBut s₄.heap.objs.size (s₄.heap.push { cls := .type "frame", data := .dict #[] }) h' →
          Q' (.ref h'.objs.size) { s₄ with
            gens := s₄.gens.push (.fresh (.compStart (.GeneratorExp elt [⟨tg, iter, [], 0⟩] scope gpos) 0 (.ref it) .none (genEnv scope (cloFrom X.env.cells scope.names []) s₄.heap.objs.size code bi X.env))),
            toks := s₄.toks + 1 + 1 + 1,
            heap := h'.push { cls := .type "generator", data := .fields #[.int s₄.gens.size 0, .str "<genexpr>" (s₄.toks + 1), .str (X.env.qual ++ "<genexpr>") (s₄.toks + 1 + 1)] } }) X.xe { s2 with heap := h3, toks := tk } := by
    intro code h3 tk ps' hx hsz hP3 hmore ht3
    obtain ⟨bm, ob, e1, e2, e3, e4, e5, e6, e7, e8⟩ := TB.bm
    have keep3 : ∀ b u, b ≠ P → s2.heap.get? b = some u → h3.get? b = some u := fun b u hb e => hx b u hb e
    refine wpAny_builtinsFor (m := X.mg) (by rw [I2.ok.glob]; exact (I2.mod.glob.keeps I2.bk).extBut hx TB.gP) e1 e2 (keep3 _ _ e4 (I2.bk _ _ e5)) e6 e7 e8 ?_
    obtain ⟨more, em⟩ := hmore
    have I3 : Inv X pins σ (upd H2 P (.tbl (ps ++ more))) { s2 with heap := h3, toks := tk } := GxR.inv_tab (d' := s2.drawn) (g' := s2.gens) I2 hP keep3 (by rw [← em]; exact hP3) I2.bare
    have tbd : GxR.Tabbed P H2 (upd H2 P (.tbl (ps ++ more))) := ⟨⟨ps ++ more, upd_same, by rw [← em]; exact ht3⟩, fun b hb => upd_ne hb⟩
    obtain ⟨W, ⟨m0, w0⟩, turn⟩ := q2 _ tbd
    generalize hH3 : upd H2 P (.tbl (ps ++ more)) = H3 at I3 w0 tbd
    intro h' hn' hs'
    have hsz' : h'.objs.size = h3.objs.size + 1 := by rw [hs'.1, Heap.size_push]
    have keep' : ∀ b o, h3.get? b = some o → h'.get? b = some o := fun b o e => hs'.extBut b o (Nat.ne_of_lt (Heap.lt_size e)) (Heap.get?_push_of_some _ e)
    have notP : ∀ b ∈ fp, b ≠ P := fun b hb z => by
      have := (f2 b hb).1
      rw [z, hP] at this
      cases this
    have f3 : ∀ b ∈ fp, FpOk X pins H3 b ∧ b < h3.objs.size := fun b hb => by
      obtain ⟨o, e, _⟩ := T.obj _ _ st2 b hb
      refine ⟨⟨?_, (f2 b hb).2⟩, Heap.lt_size (keep3 b o (notP b hb) e)⟩
      rw [tbd.2 b (notP b hb)]
      exact (f2 b hb).1
    have st3 : tn 0 h3 := T.keep _ _ _ st2 fun b hb o e => keep3 b o (notP b hb) e
    generalize hgo : ({ cls := .type "generator", data := .fields #[.int s2.gens.size 0, .str "<genexpr>" (tk + 1), .str (X.env.qual ++ "<genexpr>") (tk + 1 + 1)] } : Obj) = go
    have kp6 : ∀ b o, h3.get? b = some o → (h'.push go).get? b = some o := fun b o e => Heap.get?_push_of_some _ (keep' b o e)
    have genOf : ∀ h : Heap, h.get? h'.objs.size = some go → h.IsGen h'.objs.size s2.gens.size := fun h e => ⟨go, _, _, e, by rw [← hgo], by rw [← hgo], by rw [← hgo]⟩
    have bare6 : AllBare (s2.gens.push (.fresh (.compStart (.GeneratorExp elt [⟨tg, iter, [], 0⟩] scope gpos) 0 (.ref it) .none (genEnv scope (cloFrom X.env.cells scope.names []) h3.objs.size code builtinsNs X.env)))) := I2.bare.push rfl
    have frm : X.A.in1.in1.frames = some X.stack := I2.ok.frames
    have I6 := gen_start (A' := (X.A.in1.in1).over (gLoop elt tg iter scope gpos it (genEnv scope (cloFrom X.env.cells scope.names []) h3.objs.size code builtinsNs X.env)) []) (code := code) (d6 := s2.drawn) (tk := tk + 1 + 1 + 1) (a := h'.objs.size) (go := go) I3 S hN f3 (hr.hd) (over_frames frm)
      kp6 (hn'.push _) (Heap.get?_push_size _ (by rw [← hgo]; rfl)) (by show h3.objs.size < _; omega) (fun v q => by rw [← hgo] at q; cases q) bare6
    have rm := over_room (elt := elt) (tg := tg) (iter := iter) (scope := scope) (pos := gpos) (it := it) (ce := genEnv scope (cloFrom X.env.cells scope.names []) h3.objs.size code builtinsNs X.env) hr
    have pg := hg _ { s2 with heap := h3, toks := tk } H3 code fp [(h'.objs.size, go)] rm
    have pe := he _ { s2 with heap := h3, toks := tk } H3 code fp [(h'.objs.size, go)] rm
    have n3 : ∀ b ∈ fp, H3 b = none := fun b hb => (f3 b hb).1.1
    have st6 : tn 0 (h'.push go) := T.keep _ _ _ st3 fun b _ o e => kp6 b o e
    have hw : wipe (wipe σ (own.map (·.2))) (own.map (·.2)) = wipe σ (own.map (·.2)) := wipe2 _ _
    have hpnf : ∀ p ∈ [(h'.objs.size, go)], ∀ b ∈ fp, p.1 ≠ b := fun p hp b hb => by
      rw [List.mem_singleton.mp hp]
      intro z
      have lt : b < h3.objs.size := (f3 b hb).2
      have z : h'.objs.size = b := z
      rw [← z, hsz'] at lt
      exact absurd lt (Nat.not_lt.mpr (Nat.le_succ _))
    have seg := gen_loop (X := gcx X ((X.A.in1.in1).over (gLoop elt tg iter scope gpos it (genEnv scope (cloFrom X.env.cells scope.names []) h3.objs.size code builtinsNs X.env)) []) { s2 with heap := h3, toks := tk } H3 (genEnv scope (cloFrom X.env.cells scope.names []) h3.objs.size code builtinsNs X.env) fp [(h'.objs.size, go)])
      (σw := wipe σ (own.map (·.2))) (all := all) (Q := Q) (A₀ := X.A.in1.in1) rfl hc rfl S.co rfl hw T pg pe hpnf W turn
    refine hQ _ _ ⟨gcx X ((X.A.in1.in1).over (gLoop elt tg iter scope gpos it (genEnv scope (cloFrom X.env.cells scope.names []) h3.objs.size code builtinsNs X.env)) []) { s2 with heap := h3, toks := tk } H3 (genEnv scope (cloFrom X.env.cells scope.names []) h3.objs.size code builtinsNs X.env) fp [(h'.objs.size, go)], wipe σ (own.map (·.2)), go, s2.gens.size, m0 + 1, rfl, rfl, rfl, genOf, genOf _ (Heap.get?_push_size _ (by rw [← hgo]; rfl)), I6.nolimit, ⟨_, Array.getElem?_push_size .., gen_goes T st6 ?_⟩, fun s' H' σ' J => ?_⟩
    · exact seg m0 (m0 + 1) 0 _ _ H3 (Nat.lt_succ_self _) w0 (inv_gens I6 rfl rfl (allBare_setGen bare6 rfl)) st6 n3
    · exact I3.call' (ch := fp) J.os J.base J.hok J.bare fun b hb => ⟨(f3 b hb).1.2.2.2.1, (f3 b hb).1.2.1, (f3 b hb).1.2.2.2.2.1, (f3 b hb).1.2.2.2.2.2⟩
  cases hf : codeAmong gpos ps.toList with
  | none =>
    refine wpAny_genexprCodeX hcode (cd.code hPs ht) (cd.tab hPs) hf fun c' h' tk hx hge hlt hco' _ htab' _ => ?_
    obtain ⟨o1, vs, f1, tf, fl, tg, inF, tx, tt, op, _, _, _, _, _, _, _, _, _, htr, _⟩ := hco'
    exact cont _ h' tk _ hx (Nat.le_trans hge (Nat.le_of_lt hlt)) htab'.2 ⟨_, rfl⟩ htr
  | some cv =>
    refine wpAny_genexprCode_hit hcode (cd.code hPs ht) hf ?_
    exact cont cv s2.heap s2.toks ps (Heap.ExtBut.refl _ _) (Nat.le_refl _) hPs ⟨#[], by simp⟩ ht
theorem pe_anyG {c P : Addr} {elt tg iter : Expr} {scope : Scope} {own : List (Str × Nat)} {gpos p pos : Pos} {wi : TI} {g : TG} {te : TE} {k : Nat} (gl : Gl X "any") (hm : X.mg "any" = none)
    (hr : Room (k + 1) X.A) (hc : X.calm = true) (hN : X.N.Nodup) (TB : GxR.TabB X.base X.mg c P) (hcode : X.env.code = .ref c) (S : GenOk X.N X.env.scope scope own) (hi : PI X tg iter wi) (hs : ∀ v, genFold iter X.env v = pure v)
    (hg : ∀ (A' : Around) (s : Shared) (H : Hp) (code : Value) (fp : List Addr) (pn : List (Addr × Obj)), Room k A' → PG (gcx X A' s H (genEnv scope (cloFrom X.env.cells scope.names []) s.heap.objs.size code builtinsNs X.env) fp pn) tg g)
    (he : ∀ (A' : Around) (s : Shared) (H : Hp) (code : Value) (fp : List Addr) (pn : List (Addr × Obj)), Room k A' → PE (gcx X A' s H (genEnv scope (cloFrom X.env.cells scope.names []) s.heap.objs.size code builtinsNs X.env) fp pn) elt te) :
    PE X (.Call (.Name "any" p) [.GeneratorExp elt [⟨tg, iter, [], 0⟩] scope gpos] [] pos) (tGen false P wi g te (own.map (·.2))) := by
  refine ⟨fun pins s σ H Q I h => ?_⟩
  have hst : starEach [.GeneratorExp elt [⟨tg, iter, [], 0⟩] scope gpos] X.env = (false, eval (.GeneratorExp elt [⟨tg, iter, [], 0⟩] scope gpos) X.env) :: starEach [] X.env := by rfl
  refine wpAny_Call_Name_kw (ld_blt I gl hm boot_any ?_)
  refine PyProof.Rows.callWith_builtin1 ?_ hst (by rfl)
  rw [hst]
  show wpAny _ _ (spliced ((false, eval (.GeneratorExp elt [⟨tg, iter, [], 0⟩] scope gpos) X.env) :: backTo pos (starEach [] X.env))) _ _ s
  refine Calls.spliced_cons (gen_make (Q := Q) hr hc hN TB hcode S hi hs hg he I h fun a s6 rd => Calls.spliced_nil ?_)
  obtain ⟨X', σw, go, gn, n, hp, hw, hpn, hgen, ig, nl, ⟨gs, hgs, hgo⟩, back⟩ := rd
  refine call_function_tree F.kind_any F.plain_any F.entry_any (F.args_any1 _) ?_
  unfold Builtin.«any»
  refine wpAny_bind (m := oneArg "any" _) (wpAny_pure ?_)
  refine wpAny_bind (wpAny_pyIter_gen ig ?_)
  rw [← hp, ← hw] at hgo ⊢
  have hdep : X.A.depth < recursionLimit := by have := hr.dp; omega
  exact wpAny_pure ⟨plainId_quiet F.plain_any_loop _, any_loop (X := X') (σw := σw) (Q := Q) hr.hd hdep hpn hgen (fun b s' H' σ' J q => ⟨.bl b, H', back _ _ _ J, rfl, q⟩) n s6 ig nl ⟨gs, hgs, hgo⟩⟩
theorem pe_allG {c P : Addr} {elt tg iter : Expr} {scope : Scope} {own : List (Str × Nat)} {gpos p pos : Pos} {wi : TI} {g : TG} {te : TE} {k : Nat} (gl : Gl X "all") (hm : X.mg "all" = none)
    (hr : Room (k + 1) X.A) (hc : X.calm = true) (hN : X.N.Nodup) (TB : GxR.TabB X.base X.mg c P) (hcode : X.env.code = .ref c) (S : GenOk X.N X.env.scope scope own) (hi : PI X tg iter wi) (hs : ∀ v, genFold iter X.env v = pure v)
    (hg : ∀ (A' : Around) (s : Shared) (H : Hp) (code : Value) (fp : List Addr) (pn : List (Addr × Obj)), Room k A' → PG (gcx X A' s H (genEnv scope (cloFrom X.env.cells scope.names []) s.heap.objs.size code builtinsNs X.env) fp pn) tg g)
    (he : ∀ (A' : Around) (s : Shared) (H : Hp) (code : Value) (fp : List Addr) (pn : List (Addr × Obj)), Room k A' → PE (gcx X A' s H (genEnv scope (cloFrom X.env.cells scope.names []) s.heap.objs.size code builtinsNs X.env) fp pn) elt te) :
    PE X (.Call (.Name "all" p) [.GeneratorExp elt [⟨tg, iter, [], 0⟩] scope gpos] [] pos) (tGen true P wi g te (own.map (·.2))) := by
  refine ⟨fun pins s σ H Q I h => ?_⟩
  have hst : starEach [.GeneratorExp elt [⟨tg, iter, [], 0⟩] scope gpos] X.env = (false, eval (.GeneratorExp elt [⟨tg, iter, [], 0⟩] scope gpos) X.env) :: starEach [] X.env := by rfl
  have hb : bootBuiltins ("all" : Str) = some (.builtin "all") := by decide +kernel
  refine wpAny_Call_Name_kw (ld_blt I gl hm hb ?_)
  refine PyProof.Rows.callWith_builtin1 ?_ hst (by rfl)
  rw [hst]
  show wpAny _ _ (spliced ((false, eval (.GeneratorExp elt [⟨tg, iter, [], 0⟩] scope gpos) X.env) :: backTo pos (starEach [] X.env))) _ _ s
  refine Calls.spliced_cons (gen_make (Q := Q) hr hc hN TB hcode S hi hs hg he I h fun a s6 rd => Calls.spliced_nil ?_)
  obtain ⟨X', σw, go, gn, n, hp, hw, hpn, hgen, ig, nl, ⟨gs, hgs, hgo⟩, back⟩ := rd
  refine call_function_tree F.kind_all F.plain_all F.entry_all (F.args_all1 _) ?_
  unfold Builtin.«all»
  refine wpAny_bind (m := oneArg "all" _) (wpAny_pure ?_)
  refine wpAny_bind (wpAny_pyIter_gen ig ?_)
  rw [← hp, ← hw] at hgo ⊢
  have hdep : X.A.depth < recursionLimit := by have := hr.dp; omega
  exact wpAny_pure ⟨plainId_quiet F.plain_all_loop _, all_loop (X := X') (σw := σw) (Q := Q) hr.hd hdep hpn hgen (fun b s' H' σ' J q => ⟨.bl b, H', back _ _ _ J, rfl, q⟩) n s6 ig nl ⟨gs, hgs, hgo⟩⟩
end
end PV

set_option Elab.async false
set_option linter.all false
set_option maxRecDepth 100000
set_option maxHeartbeats 4000000
/-! PV, part D: the operators' rules and what they give. -/
namespace PV
open PySem PySem.Spec PyProof.Rows L2
def BO.op : BO → Operator
  | .add => .Add | .sub => .Sub | .mul => .Mult | .fdiv => .FloorDiv | .mod => .Mod | .pow => .Pow
def rAddS : R2 := fun x y H Q => ∃ i j, x = .str i ∧ y = .str j ∧ i.length + j.length ≤ sizeLine ∧ Q (.str (i ++ j)) H
theorem foldl_one (c : Nat) : ∀ (n : Nat) (a : Array Nat), (List.replicate n (#[c] : Array Nat)).foldl (· ++ ·) a = a ++ (List.replicate n c).toArray
  | 0, a => by simp
  | n + 1, a => by
    rw [List.replicate_succ, List.foldl_cons, foldl_one c n, List.replicate_succ]
    apply Array.ext'
    simp
theorem mul_sOf (c : Nat) (n : Int) : Txt.mul (sOf [c]) n = sOf (List.replicate n.toNat c) := by
  unfold Txt.mul
  by_cases h : n < 1
  · rw [if_pos h, show n.toNat = 0 by omega]; rfl
  · rw [if_neg h]
    by_cases h2 : n = 1
    · subst h2; rfl
    · rw [if_neg]
      · show Str.mk _ = Str.mk _
        congr 1
        have := foldl_one c n.toNat #[]
        rw [Array.empty_append] at this
        exact this
      · rw [sOf_len]
        simp [h2]
theorem mulOk {c : Nat} {n : Int} (h1 : -1000000 ≤ n) (h2 : n ≤ 1000000) : MulOk (sOf [c]) n := by
  refine ⟨by rw [Bool.or_eq_false_iff, decide_eq_false_iff_not, decide_eq_false_iff_not]; omega, fun q _ => ?_, fun q _ => ?_⟩
  · rw [sOf_len]
    have : (1 : Int) ≤ (2 ^ 63 - 1) / n := (Int.le_ediv_iff_mul_le (by omega)).mpr (by omega)
    simp only [List.length_cons, List.length_nil]
    omega
  · rw [sOf_len]
    unfold PySem.Builtin.Str.tooLong
    rw [decide_eq_false_iff_not, ← line_eq]
    unfold line
    simp only [List.length_cons, List.length_nil]
    omega
def rMulS : R2 := fun x y H Q => ∃ (c : Nat) (n : Int), x = .str (sOf [c]) ∧ y = .int n ∧ -1000000 ≤ n ∧ n ≤ 1000000 ∧ Q (.str (sOf (List.replicate n.toNat c))) H
theorem op_mulS {X : Cx} : OpR X (binaryOp .Mult) rMulS := by
  intro pins s σ H x y v u Q I rx ry h
  obtain ⟨c, n, rfl, rfl, h1, h2, q⟩ := h
  obtain ⟨t, rfl⟩ := rx
  obtain ⟨t', rfl⟩ := ry
  exact PySem.SB.mul (mulOk h1 h2) fun t2 k => ⟨.str _, H, I.tok k, ⟨t2, by rw [mul_sOf]⟩, q⟩
def rBO (K : PySem.W.Frag) : BO → R2
  | .add => fun x y H Q => (((rI0 fun i j => .int (i + j)) x y H Q ∨ rAddS x y H Q) ∨ rCat x y H Q) ∨ rCatA K x y H Q
  | .sub => rI0 fun i j => .int (i - j)
  | .mul => fun x y H Q => (rI CMul fun i j => .int (i * j)) x y H Q ∨ rMulS x y H Q
  | .fdiv => rI CDiv fun i j => .int (i / j)
  | .mod => rI (fun _ j => 0 < j) fun i j => .int (i % j)
  | .pow => rI CPow fun i j => .int (i ^ j.toNat)
theorem op_BO {X : Cx} : ∀ o : BO, OpR X (binaryOp o.op) (rBO X.K o)
  | .add => ((op_add.or op_add_str).or op_cat).or op_catA
  | .sub => op_sub
  | .mul => op_mul.or op_mulS
  | .fdiv => op_fdiv
  | .mod => op_mod
  | .pow => op_pow
section
variable {K : PySem.W.Frag} {F L : AP} {H : Hp} {x y d : D} {v w : V} {fv fw : List Addr} {Q : VK}
theorem Rep.int_ {i : Int} (h : Rep K F L H (.int i) v fv) : v = .int i := by simp only [Rep] at h; exact h.1
theorem Rep.bl_ {b : Bool} (h : Rep K F L H (.bl b) v fv) : v = .bl b := by simp only [Rep] at h; exact h.1
theorem Rep.non_ (h : Rep K F L H .non v fv) : v = .non := by simp only [Rep] at h; exact h.1
theorem Rep.str_ {s : List Nat} (h : Rep K F L H (.str s) v fv) : v = .str (sOf s) := by simp only [Rep] at h; exact h.1
theorem Rep.tup_ {l : List D} (h : Rep K F L H (.tup l) v fv) : ∃ a xs, v = .ref a ∧ TupAt K F H a xs ∧ RepL K F L H l xs [] ∧ D.isFrzL l = true ∧ fv = [] := by simp only [Rep] at h; exact h
theorem Rep.frzL_ {f : Fl} {l : List D} (z : D.isFrzL l = true) (h : Rep K F L H (.lst f l) v fv) : ∃ a xs, v = .ref a ∧ H a = some (.lst xs) ∧ RepL K F L H l xs [] := by
  obtain ⟨a, xs, fp', e, ha, hl, _⟩ := h.sqL
  have := fpL_of l z hl
  subst this
  exact ⟨a, xs, e, ha, hl⟩
theorem Rep.okS {s : List Nat} (h : Rep K F L H (.str s) v fv) : okS s := by simp only [Rep] at h; exact h.2.2
theorem okS.app {a b : List Nat} (h : okS a) (h' : okS b) (n : a.length + b.length ≤ line) : okS (a ++ b) := ⟨by rw [List.length_append]; exact n, fun c hc => (List.mem_append.mp hc).elim (h.2 c) (h'.2 c)⟩
theorem okS.sub {a b : List Nat} (h : okS a) (s : b.Sublist a) : okS b := ⟨Nat.le_trans s.length_le h.1, fun c hc => h.2 c (s.subset hc)⟩
theorem okS.rep {c : Nat} (h : okS [c]) {n : Nat} (hn : n ≤ 1000000) : okS (List.replicate n c) := ⟨by rw [List.length_replicate]; unfold line; omega, fun x hx => by rw [(List.mem_replicate.mp hx).2]; exact h.2 c List.mem_cons_self⟩
theorem okS.mem {s : List Nat} (h : okS s) {c : Nat} (hc : c ∈ s) : okS [c] := h.sub (List.singleton_sublist.mpr hc)
theorem sOf_app (a b : List Nat) : sOf a ++ sOf b = sOf (a ++ b) := by
  show Str.mk _ = Str.mk _
  simp [sOf]
theorem small_ok {i : Int} (h : small i = true) : -(2 ^ 64) < i ∧ i < 2 ^ 64 := by
  unfold small at h
  simpa using h
theorem binop_ok {o : BO} (h : binop o x y = some d) (rx : Rep K F L H x v fv) (ry : Rep K F L H y w fw) (hF : ∀ a, F a → H a ≠ none) (k : After K F L H d Q) : rBO K o v w H Q := by
  cases o with
  | add =>
    cases x with
    | int i =>
      cases y with
      | int j =>
        simp only [binop, Option.some.injEq] at h
        subst h
        exact .inl (.inl (.inl ⟨i, j, rx.int_, ry.int_, k.int hF⟩))
      | _ => simp [binop] at h
    | str s =>
      cases y with
      | str u =>
        simp only [binop] at h
        split at h
        · rename_i hl
          simp only [Option.some.injEq] at h
          subst h
          refine .inl (.inl (.inr ⟨_, _, rx.str_, ry.str_, ?_, ?_⟩))
          · rw [sOf_len, sOf_len, ← line_eq]; exact hl
          · rw [sOf_app]; exact k.str (rx.okS.app ry.okS hl) hF
        · cases h
      | _ => simp [binop] at h
    | lst f l =>
      cases y with
      | lst g m =>
        simp only [binop] at h
        split at h
        · rename_i hl
          simp only [Option.some.injEq] at h
          subst h
          obtain ⟨a, xs, rfl, ha, hx⟩ := rx.frzL_ hl.2.1
          obtain ⟨b, ys, rfl, hb, hy⟩ := ry.frzL_ hl.2.2
          refine .inl (.inr ⟨a, b, xs, ys, rfl, rfl, ha, hb, ?_, fun p hp => k.lst hF (by simpa using hx.app hy) hp⟩)
          rw [hx.length, hy.length, ← line_eq]; exact hl.1
        · cases h
      | _ => simp [binop] at h
    | tup l =>
      cases y with
      | tup m =>
        simp only [binop] at h
        split at h
        · rename_i hl
          simp only [Option.some.injEq] at h
          subst h
          obtain ⟨a, xs, rfl, ta, hx, zx, _⟩ := rx.tup_
          obtain ⟨b, ys, rfl, tb, hy, zy, _⟩ := ry.tup_
          have lx := hx.length
          have ly := hy.length
          refine .inr ⟨a, b, xs, ys, rfl, rfl, ta.sq, tb.sq, ?_, fun e => ?_, fun _ e => ?_, fun _ _ p hp => k.tup hF (by simpa using hx.app hy) (isFrzL_app zx zy) hp⟩
          · rw [lx, ly, ← line_eq]; exact hl
          · have : l = [] := by rw [e] at lx; exact List.length_eq_zero_iff.mp lx.symm
            subst this
            refine k _ _ F [] (Grow.refl hF) (.plain ?_)
            simp only [Rep, List.nil_append]
            exact ⟨b, ys, rfl, tb, hy, zy, by trivial⟩
          · have : m = [] := by rw [e] at ly; exact List.length_eq_zero_iff.mp ly.symm
            subst this
            refine k _ _ F [] (Grow.refl hF) (.plain ?_)
            simp only [Rep, List.append_nil]
            exact ⟨a, xs, rfl, ta, hx, zx, by trivial⟩
        · cases h
      | _ => simp [binop] at h
    | _ => simp [binop] at h
  | sub =>
    cases x <;> cases y <;> simp [binop] at h
    subst h
    exact ⟨_, _, rx.int_, ry.int_, k.int hF⟩
  | mul =>
    cases x with
    | int i =>
      cases y with
      | int j =>
        simp [binop] at h
        obtain ⟨hs, h⟩ := h
        subst h
        exact .inl ⟨_, _, rx.int_, ry.int_, hs.elim (fun z => .inl (small_ok z)) (fun z => .inr (small_ok z)), k.int hF⟩
      | _ => simp [binop] at h
    | str s =>
      cases y with
      | int n =>
        match s, h with
        | [], h => simp [binop] at h
        | _ :: _ :: _, h => simp [binop] at h
        | [c], h =>
          simp only [binop] at h
          split at h
          · rename_i hs
            simp only [Option.some.injEq] at h; subst h
            exact .inr ⟨_, _, rx.str_, ry.int_, hs.1, hs.2, k.str (rx.okS.rep (by omega)) hF⟩
          · cases h
      | _ => simp [binop] at h
    | _ => simp [binop] at h
  | fdiv =>
    cases x <;> cases y <;> simp [binop] at h
    obtain ⟨hs, h⟩ := h
    subst h
    exact ⟨_, _, rx.int_, ry.int_, hs, k.int hF⟩
  | mod =>
    cases x <;> cases y <;> simp [binop] at h
    obtain ⟨hs, h⟩ := h
    subst h
    exact ⟨_, _, rx.int_, ry.int_, hs, k.int hF⟩
  | pow =>
    cases x <;> cases y <;> simp [binop] at h
    obtain ⟨hs, h⟩ := h
    subst h
    refine ⟨_, _, rx.int_, ry.int_, ⟨hs.1, hs.2.1, ?_⟩, k.int hF⟩
    have := small_ok hs.2.2
    omega
end
/-! ### comparisons -/
def CO.op : CO → CmpOp
  | .eq => .Eq | .ne => .NotEq | .lt => .Lt | .le => .LtE | .gt => .Gt | .ge => .GtE | .inn => .In | .nin => .NotIn
def rInS (n : Bool) : R2 := fun x y H Q => ∃ (c : Nat) (z : Str), x = .str ⟨#[c]⟩ ∧ y = .str z ∧ Q (.bl (if n then !decide (c ∈ z.cps.toList) else decide (c ∈ z.cps.toList))) H
theorem op_inS {X : Cx} : OpR X (compareOp .In) (rInS false) := op_in_sign
theorem op_ninS {X : Cx} : OpR X (compareOp .NotIn) (rInS true) := op_notIn_sign
def rCO (K : PySem.W.Frag) : CO → R2
  | .eq => fun x y H Q => rEq x y H Q ∨ rEqD K x y H Q
  | .ne => fun x y H Q => rNe x y H Q ∨ rNeD K x y H Q
  | .lt => rI0 fun i j => .bl (decide (i < j))
  | .le => rI0 fun i j => .bl (decide (i ≤ j))
  | .gt => rI0 fun i j => .bl (decide (j < i))
  | .ge => rI0 fun i j => .bl (decide (j ≤ i))
  | .inn => fun x y H Q => (rInD K x y H Q ∨ rIn K false x y H Q) ∨ rInS false x y H Q
  | .nin => fun x y H Q => (rNotInD K x y H Q ∨ rIn K true x y H Q) ∨ rInS true x y H Q
theorem op_CO {X : Cx} (hu : X.A.units + 65 < cLine) : ∀ o : CO, OpR X (compareOp o.op) (rCO X.K o)
  | .eq => op_eq.or (op_eqD (by omega))
  | .ne => op_ne.or (op_neD (by omega))
  | .lt => op_lt
  | .le => op_le
  | .gt => op_gt
  | .ge => op_ge
  | .inn => ((op_inD hu).or op_in_seq).or op_inS
  | .nin => ((op_notInD hu).or op_notIn_seq).or op_ninS
section
variable {K : PySem.W.Frag} {F L : AP} {H : Hp} {x y d : D} {v w : V} {fv fw : List Addr} {Q : VK}
theorem eqable_ok (h : eqable x y = true) : x.plain = true ∧ y.plain = true ∧ x.depth ≤ 60 ∧ y.depth ≤ 60 ∧ ((x.noBl = true ∧ y.noBl = true) ∨ (x.noInt = true ∧ y.noInt = true)) := by
  unfold eqable at h
  simp only [Bool.and_eq_true, decide_eq_true_eq, Bool.or_eq_true] at h
  exact ⟨h.1.1.1.1, h.1.1.1.2, h.1.1.2, h.1.2, h.2⟩
theorem eqop_cases {b : Bool} (h : eqop x y = some b) : (∃ s u, x = .str s ∧ y = .str u ∧ b = (s == u)) ∨ (eqable x y = true ∧ b = x.beq y) := by
  unfold eqop at h
  split at h
  · exact .inl ⟨_, _, rfl, rfl, (Option.some.inj h).symm⟩
  · split at h
    · exact .inr ⟨by assumption, (Option.some.inj h).symm⟩
    · cases h
theorem flat_of : ∀ {d : D} {v : V} {fp : List Addr}, d.depth = 0 → d.plain = true → Rep K F L H d v fp → flatV v = true
  | .non, _, _, _, _, h => by rw [h.non_]; rfl
  | .bl _, _, _, _, _, h => by rw [h.bl_]; rfl
  | .int _, _, _, _, _, h => by rw [h.int_]; rfl
  | .str _, _, _, _, _, h => by rw [h.str_]; rfl
  | .scr _, _, _, _, p, _ => by simp [D.plain] at p
  | .tup _, _, _, z, _, _ => by simp [D.depth] at z
  | .lst _ _, _, _, z, _, _ => by simp [D.depth] at z
theorem flat_all : ∀ {ds : List D} {vs : List V} {fp : List Addr}, D.depthL ds = 0 → D.plainL ds = true → RepL K F L H ds vs fp → vs.all flatV = true
  | [], _, _, _, _, h => by simp only [RepL] at h; rw [h.1]; rfl
  | d :: ds, _, _, z, p, h => by
    simp only [D.depthL] at z
    simp only [D.plainL, Bool.and_eq_true] at p
    simp only [RepL] at h
    obtain ⟨v, vr, f1, f2, e, h1, h2, _⟩ := h
    rw [e, List.all_cons, flat_of (by omega) p.1 h1, flat_all (by omega) p.2 h2]
    rfl
theorem eqV_of {a b : D} {u v : V} {fu fv : List Addr} (za : a.depth = 0) (zb : b.depth = 0) (pa : a.plain = true) (pb : b.plain = true) (n : (a.noBl = true ∧ b.noBl = true) ∨ (a.noInt = true ∧ b.noInt = true)) (ra : Rep K F L H a u fu) (rb : Rep K F L H b v fv) : eqV u v = a.beq b := by
  cases a with
  | scr _ => simp [D.plain] at pa
  | tup _ => simp [D.depth] at za
  | lst _ _ => simp [D.depth] at za
  | non =>
    rw [ra.non_]
    cases b with
    | scr _ => simp [D.plain] at pb
    | tup _ => simp [D.depth] at zb
    | lst _ _ => simp [D.depth] at zb
    | non => rw [rb.non_]; rfl
    | bl _ => rw [rb.bl_]; rfl
    | int _ => rw [rb.int_]; rfl
    | str _ => rw [rb.str_]; rfl
  | bl x =>
    rw [ra.bl_]
    cases b with
    | scr _ => simp [D.plain] at pb
    | tup _ => simp [D.depth] at zb
    | lst _ _ => simp [D.depth] at zb
    | non => rw [rb.non_]; rfl
    | bl _ => rw [rb.bl_]; rfl
    | int _ => simp [D.noBl, D.noInt] at n
    | str _ => rw [rb.str_]; rfl
  | int x =>
    rw [ra.int_]
    cases b with
    | scr _ => simp [D.plain] at pb
    | tup _ => simp [D.depth] at zb
    | lst _ _ => simp [D.depth] at zb
    | non => rw [rb.non_]; rfl
    | bl _ => simp [D.noBl, D.noInt] at n
    | int _ => rw [rb.int_]; rfl
    | str _ => rw [rb.str_]; rfl
  | str x =>
    rw [ra.str_]
    cases b with
    | scr _ => simp [D.plain] at pb
    | tup _ => simp [D.depth] at zb
    | lst _ _ => simp [D.depth] at zb
    | non => rw [rb.non_]; rfl
    | bl _ => rw [rb.bl_]; rfl
    | int _ => rw [rb.int_]; rfl
    | str y =>
      rw [rb.str_]
      show (sOf x == sOf y) = (x == y)
      exact sOf_beq x y
theorem any_py {z : D} : ∀ {l : List D}, z.plain = true → D.plainL l = true → ((z.noBl = true ∧ D.noBlL l = true) ∨ (z.noInt = true ∧ D.noIntL l = true)) → (D.pyL l).any (fun q => PyData.eqv q z.py) = l.any fun q => q.beq z
  | [], _, _, _ => rfl
  | d :: ds, pz, p, n => by
    simp only [D.plainL, Bool.and_eq_true] at p
    simp only [D.noBlL, D.noIntL, Bool.and_eq_true] at n
    simp only [D.pyL, List.any_cons]
    rw [py_eqv d z p.1 pz (n.elim (fun q => .inl ⟨q.2.1, q.1⟩) fun q => .inr ⟨q.2.1, q.1⟩), any_py pz p.2 (n.elim (fun q => .inl ⟨q.1, q.2.2⟩) fun q => .inr ⟨q.1, q.2.2⟩)]
theorem inV_of {z : D} {v : V} {fz : List Addr} (zz : z.depth = 0) (pz : z.plain = true) (rz : Rep K F L H z v fz) : ∀ {l : List D} {vs : List V} {fp : List Addr}, D.depthL l = 0 → D.plainL l = true → ((z.noBl = true ∧ D.noBlL l = true) ∨ (z.noInt = true ∧ D.noIntL l = true)) → RepL K F L H l vs fp → inV v vs = l.any fun q => q.beq z
  | [], _, _, _, _, _, h => by simp only [RepL] at h; rw [h.1]; rfl
  | d :: ds, _, _, zl, p, n, h => by
    simp only [D.depthL] at zl
    simp only [D.plainL, Bool.and_eq_true] at p
    simp only [D.noBlL, D.noIntL, Bool.and_eq_true] at n
    simp only [RepL] at h
    obtain ⟨u, vr, f1, f2, e, h1, h2, _⟩ := h
    have ih := inV_of zz pz rz (l := ds) (by omega) p.2 (n.elim (fun q => .inl ⟨q.1, q.2.2⟩) fun q => .inr ⟨q.1, q.2.2⟩) h2
    unfold inV at ih ⊢
    rw [e, List.any_cons, List.any_cons, eqV_of (by omega) zz p.1 pz (n.elim (fun q => .inl ⟨q.2.1, q.1⟩) fun q => .inr ⟨q.2.1, q.1⟩) h1 rz, ih]
theorem inop_ok {b n : Bool} (h : inop x y = some b) (rx : Rep K F L H x v fv) (ry : Rep K F L H y w fw) (k : Q (.bl (if n then !b else b)) H) :
    ((if n then rNotInD K v w H Q else rInD K v w H Q) ∨ rIn K n v w H Q) ∨ rInS n v w H Q := by
  cases y with
  | lst f l =>
    simp only [inop] at h
    split at h
    · rename_i he
      simp only [Option.some.injEq] at h
      obtain ⟨px, py, dx, dy, nb⟩ := eqable_ok he
      have py' : D.plainL l = true := by simpa only [D.plain] using py
      have nb' : (x.noBl = true ∧ D.noBlL l = true) ∨ (x.noInt = true ∧ D.noIntL l = true) := by simpa only [D.noBl, D.noInt] using nb
      have e := any_py px py' nb'
      have sh := py_shaped ry py dy
      refine .inl (.inl ?_)
      have D1 := rx.dp x px
      have D2 := ry.dp _ py
      simp only [D.py] at D2 sh
      cases n with
      | true => exact ⟨_, _, D1, D2, py_shaped rx px dx, sh, by rw [e, h]; exact k⟩
      | false => exact ⟨_, _, D1, D2, py_shaped rx px dx, sh, by rw [e, h]; exact k⟩
    · cases h
  | tup l =>
    simp only [inop] at h
    split at h
    · rename_i he
      simp only [Option.some.injEq] at h
      obtain ⟨zx, zl, he⟩ := he
      obtain ⟨px, py, dx, dy, nb⟩ := eqable_ok he
      have py' : D.plainL l = true := by simpa only [D.plain] using py
      have nb' : (x.noBl = true ∧ D.noBlL l = true) ∨ (x.noInt = true ∧ D.noIntL l = true) := by simpa only [D.noBl, D.noInt] using nb
      obtain ⟨a, xs, rfl, ta, hl, _, _⟩ := ry.tup_
      exact .inl (.inr ⟨a, xs, rfl, .inr ta.sq, flat_of zx px rx, flat_all zl py' hl, by rw [inV_of zx px rx zl py' nb' hl, h]; exact k⟩)
    · cases h
  | str s =>
    simp only [inop] at h
    split at h
    · rename_i c
      simp only [Option.some.injEq] at h
      exact .inr ⟨c, sOf s, rx.str_, ry.str_, by subst h; exact k⟩
    · cases h
  | _ => simp [inop] at h
theorem sOf_dec (a b : List Nat) : decide (V.str (sOf a) = V.str (sOf b)) = (a == b) := by rw [dec_str, sOf_beq]
theorem cmpop_ok {o : CO} {b : Bool} (h : cmpop o x y = some b) (rx : Rep K F L H x v fv) (ry : Rep K F L H y w fw) (k : Q (.bl b) H) : rCO K o v w H Q := by
  cases o with
  | eq =>
    simp only [cmpop] at h
    rcases eqop_cases h with ⟨s, u, rfl, rfl, rfl⟩ | ⟨he, rfl⟩
    · refine .inl ?_
      rw [rx.str_, ry.str_]
      exact ⟨rfl, by rw [sOf_dec]; exact k⟩
    · obtain ⟨px, py, dx, dy, nb⟩ := eqable_ok he
      exact .inr ⟨_, _, rx.dp x px, ry.dp y py, py_shaped rx px dx, py_shaped ry py dy, by rw [py_eqv x y px py nb]; exact k⟩
  | ne =>
    simp only [cmpop, Option.map_eq_some_iff] at h
    obtain ⟨c, h, rfl⟩ := h
    rcases eqop_cases h with ⟨s, u, rfl, rfl, rfl⟩ | ⟨he, rfl⟩
    · refine .inl ?_
      rw [rx.str_, ry.str_]
      exact ⟨rfl, by rw [sOf_dec]; exact k⟩
    · obtain ⟨px, py, dx, dy, nb⟩ := eqable_ok he
      exact .inr ⟨_, _, rx.dp x px, ry.dp y py, py_shaped rx px dx, py_shaped ry py dy, by rw [py_eqv x y px py nb]; exact k⟩
  | lt =>
    cases x <;> cases y <;> simp [cmpop] at h
    subst h
    exact ⟨_, _, rx.int_, ry.int_, k⟩
  | le =>
    cases x <;> cases y <;> simp [cmpop] at h
    subst h
    exact ⟨_, _, rx.int_, ry.int_, k⟩
  | gt =>
    cases x <;> cases y <;> simp [cmpop] at h
    subst h
    exact ⟨_, _, rx.int_, ry.int_, k⟩
  | ge =>
    cases x <;> cases y <;> simp [cmpop] at h
    subst h
    exact ⟨_, _, rx.int_, ry.int_, k⟩
  | inn =>
    simp only [cmpop] at h
    exact inop_ok (n := false) h rx ry k
  | nin =>
    simp only [cmpop, Option.map_eq_some_iff] at h
    obtain ⟨c, h, rfl⟩ := h
    exact inop_ok (n := true) h rx ry k
end
end PV
namespace PV
open PySem PySem.Spec PyProof.Rows L2
/-! ### subscripts, slices -/
section
variable {K : PySem.W.Frag} {F L : AP} {H : Hp} {x y d : D} {v w : V} {fv fw : List Addr} {Q : VK}
theorem atI_map {α β : Type} (f : α → β) (l : List α) (i : Int) : atI (l.map f) i = (atI l i).map f := by
  unfold atI
  rw [List.length_map]
  cases ixN l.length i with
  | none => rfl
  | some j => simp
theorem atI_mem {α : Type} {l : List α} {i : Int} {c : α} (h : atI l i = some c) : c ∈ l := by
  unfold atI at h
  cases q : ixN l.length i with
  | none => rw [q] at h; cases h
  | some j => rw [q] at h; exact List.mem_of_getElem? h
theorem idxop_ok (h : idxop x y = some d) (rx : Rep K F L H x v fv) (ry : Rep K F L H y w fw)
    (k : ∀ u fu, Rep K F L H d u fu → fu.Sublist fv → Q u H) : rIx K v w H Q := by
  cases x with
  | tup l =>
    cases y with
    | int i =>
      simp only [idxop] at h
      obtain ⟨a, xs, rfl, ta, hl, _, rfl⟩ := rx.tup_
      obtain ⟨u, fu, hu, ru, sub⟩ := hl.getI h
      exact .inr (.inl ⟨a, xs, i, u, rfl, ry.int_, ta.sq, hu, k u fu ru sub⟩)
    | _ => simp [idxop] at h
  | lst f l =>
    cases y with
    | int i =>
      simp only [idxop] at h
      obtain ⟨a, xs, fp', rfl, ha, hl, s1⟩ := rx.sqL
      obtain ⟨u, fu, hu, ru, sub⟩ := hl.getI h
      exact .inl ⟨a, xs, i, u, rfl, ry.int_, SqL.of ha, hu, k u fu ru (sub.trans s1)⟩
    | _ => simp [idxop] at h
  | str s =>
    cases y with
    | int i =>
      simp only [idxop, Option.map_eq_some_iff] at h
      obtain ⟨c, hc, rfl⟩ := h
      refine .inr (.inr ⟨sOf s, i, c, rx.str_, ry.int_, by rw [sOf_len, ← line_eq]; exact rx.okS.1, hc, k _ [] ?_ (List.nil_sublist _)⟩)
      simp only [Rep]
      exact ⟨rfl, by trivial, rx.okS.mem (atI_mem hc)⟩
    | _ => simp [idxop] at h
  | scr l =>
    cases y with
    | int i =>
      simp only [idxop, Option.map_eq_some_iff] at h
      obtain ⟨n, hn, rfl⟩ := h
      simp only [Rep] at rx
      obtain ⟨a, rfl, sa, _⟩ := rx
      refine .inl ⟨a, _, i, .int n, rfl, ry.int_, sa.sq, ?_, k _ [] ?_ (List.nil_sublist _)⟩
      · rw [atI_map]
        show (atI l i).map V.int = _
        rw [show atI l i = some n from hn]
        rfl
      · simp only [Rep]
        exact ⟨by trivial, by trivial⟩
    | _ => simp [idxop] at h
  | _ => simp [idxop] at h
def rSl (K : PySem.W.Frag) : V → Option Int → Option Int → Hp → VK → Prop := fun x lo hi H Q => (rSlA K x lo hi H Q ∨ rSlL K x lo hi H Q) ∨ rSlS x lo hi H Q
theorem sl_any {X : Cx} : SlR X (rSl X.K) := (sl_tupA.or sl_list).or sl_str
theorem cut_whole {α : Type} {xs : List α} {lo hi : Option Int} (h : HT.sIx xs.length 0 lo = 0 ∧ HT.sIx xs.length xs.length hi = xs.length) : cut xs lo hi = xs := by
  unfold cut
  rw [h.1, h.2]
  simp
theorem isFrzL_cut {l : List D} (h : D.isFrzL l = true) (lo hi : Option Int) : D.isFrzL (cut l lo hi) = true := by
  rw [isFrzL_iff] at h ⊢
  intro d hd
  exact h d (List.mem_of_mem_drop (List.mem_of_mem_take hd))
theorem cut_rep {l : List D} {xs : List V} (h : RepL K F L H l xs []) (lo hi : Option Int) : RepL K F L H (cut l lo hi) (cutV xs lo hi) [] := by
  unfold cut cutV
  rw [h.length]
  exact (h.drop _).take _
theorem slcop_ok {lo hi : Option Int} (h : slcop x lo hi = some d) (rx : Rep K F L H x v fv) (hF : ∀ a, F a → H a ≠ none) (k : After K F L H d Q) : rSl K v lo hi H Q := by
  cases x with
  | tup l =>
    simp only [slcop, Option.some.injEq] at h
    subst h
    obtain ⟨a, xs, rfl, ta, hl, z, rfl⟩ := rx.tup_
    refine .inl (.inl ⟨a, xs, rfl, ta.sq, fun e => ?_, fun _ p hp => k.tup hF (cut_rep hl lo hi) (isFrzL_cut z lo hi) hp⟩)
    rw [hl.length] at e
    refine k _ _ F [] (Grow.refl hF) (.plain ?_)
    rw [cut_whole e]
    simp only [Rep]
    exact ⟨a, xs, rfl, ta, hl, z, by trivial⟩
  | lst f l =>
    simp only [slcop] at h
    split at h
    · rename_i z
      simp only [Option.some.injEq] at h
      subst h
      obtain ⟨a, xs, rfl, ha, hl⟩ := rx.frzL_ z
      exact .inl (.inr ⟨a, xs, rfl, SqL.of ha, fun p hp => k.lst hF (cut_rep hl lo hi) hp⟩)
    · cases h
  | str s =>
    simp only [slcop, Option.some.injEq] at h
    subst h
    refine .inr ⟨sOf s, rx.str_, by rw [sOf_len, ← line_eq]; exact rx.okS.1, ?_⟩
    have e : cutS (sOf s) lo hi = sOf (cut s lo hi) := by
      unfold cutS cut
      rw [sOf_len]
      rfl
    rw [e]
    exact k.str (rx.okS.sub ((List.take_sublist _ _).trans (List.drop_sublist _ _))) hF
  | _ => simp [slcop] at h
end
end PV
namespace PV
open PySem PySem.Spec PyProof.Rows L2
/-! ### built-in functions -/
theorem insI_perm (x : Int) : ∀ l : List Int, (insI x l).Perm (x :: l)
  | [] => .refl _
  | y :: r => by
    unfold insI
    split
    · exact .refl _
    · exact (List.Perm.cons y (insI_perm x r)).trans (List.Perm.swap x y r)
theorem sortI_perm : ∀ l : List Int, (sortI l).Perm l
  | [] => .refl _
  | x :: r => (insI_perm x _).trans (List.Perm.cons x (sortI_perm r))
theorem insI_sorted (x : Int) : ∀ {l : List Int}, l.Pairwise (· ≤ ·) → (insI x l).Pairwise (· ≤ ·)
  | [], _ => by simp [insI]
  | y :: r, h => by
    have h' := List.pairwise_cons.mp h
    unfold insI
    split
    · rename_i hxy
      refine List.pairwise_cons.mpr ⟨fun z hz => ?_, h⟩
      rcases List.mem_cons.mp hz with e | hz
      · rw [e]; exact hxy
      · exact Int.le_trans hxy (h'.1 z hz)
    · rename_i hxy
      refine List.pairwise_cons.mpr ⟨fun z hz => ?_, insI_sorted x h'.2⟩
      rcases List.mem_cons.mp ((insI_perm x r).mem_iff.mp hz) with e | hz
      · rw [e]; omega
      · exact h'.1 z hz
theorem sortI_sorted : ∀ l : List Int, (sortI l).Pairwise (· ≤ ·)
  | [] => List.Pairwise.nil
  | x :: r => insI_sorted x (sortI_sorted r)
theorem sortI_unique {a l : List Int} (p : a.Perm l) (s : a.Pairwise (· ≤ ·)) : a = sortI l :=
  List.Perm.eq_of_pairwise (fun x y _ _ h1 h2 => Int.le_antisymm h1 h2) s (sortI_sorted l) (p.trans (sortI_perm l).symm)
theorem maxI_mem : ∀ {l : List Int}, l ≠ [] → maxI l ∈ l ∧ ∀ y ∈ l, y ≤ maxI l
  | [x], _ => by simp [maxI]
  | x :: y :: r, _ => by
    obtain ⟨h1, h2⟩ := maxI_mem (l := y :: r) (by simp)
    simp only [maxI]
    constructor
    · rcases Int.le_total x (maxI (y :: r)) with h | h
      · rw [Int.max_eq_right h]; exact List.mem_cons_of_mem _ h1
      · rw [Int.max_eq_left h]; exact List.mem_cons_self
    · intro z hz
      rcases List.mem_cons.mp hz with e | hz
      · rw [e]; omega
      · have := h2 z hz; omega
theorem minI_mem : ∀ {l : List Int}, l ≠ [] → minI l ∈ l ∧ ∀ y ∈ l, minI l ≤ y
  | [x], _ => by simp [minI]
  | x :: y :: r, _ => by
    obtain ⟨h1, h2⟩ := minI_mem (l := y :: r) (by simp)
    simp only [minI]
    constructor
    · rcases Int.le_total x (minI (y :: r)) with h | h
      · rw [Int.min_eq_left h]; exact List.mem_cons_self
      · rw [Int.min_eq_right h]; exact List.mem_cons_of_mem _ h1
    · intro z hz
      rcases List.mem_cons.mp hz with e | hz
      · rw [e]; omega
      · have := h2 z hz; omega
theorem asInts_ok : ∀ {l : List D} {ns : List Int}, asInts l = some ns → l = ns.map D.int
  | [], ns, h => by simp [asInts] at h; rw [h]; rfl
  | .int i :: r, ns, h => by
    simp only [asInts, Option.map_eq_some_iff] at h
    obtain ⟨m, h, rfl⟩ := h
    rw [asInts_ok h]; rfl
  | .non :: _, _, h => by simp [asInts] at h
  | .bl _ :: _, _, h => by simp [asInts] at h
  | .str _ :: _, _, h => by simp [asInts] at h
  | .tup _ :: _, _, h => by simp [asInts] at h
  | .lst _ _ :: _, _, h => by simp [asInts] at h
  | .scr _ :: _, _, h => by simp [asInts] at h
section
variable {K : PySem.W.Frag} {F L : AP} {H : Hp}
theorem RepL.ints : ∀ {ns : List Int} {vs : List V} {fp : List Addr}, RepL K F L H (ns.map D.int) vs fp → vs = ns.map V.int
  | [], _, _, h => by simp only [List.map_nil, RepL] at h; exact h.1
  | n :: ns, _, _, h => by
    simp only [List.map_cons, RepL] at h
    obtain ⟨v, vr, f1, f2, e, h1, h2, _⟩ := h
    rw [e, h1.int_, RepL.ints h2]; rfl
theorem RepL.of_ints : ∀ (ns : List Int), RepL K F L H (ns.map D.int) (ns.map V.int) []
  | [] => by simp [RepL]
  | n :: ns => by
    simp only [List.map_cons, RepL]
    exact ⟨_, _, [], [], rfl, by simp [Rep], RepL.of_ints ns, rfl⟩
end
theorem asStrs_ok : ∀ {l : List D} {ys : List (List Nat)}, asStrs l = some ys → l = ys.map D.str
  | [], ns, h => by simp [asStrs] at h; rw [h]; rfl
  | .str i :: r, ns, h => by
    simp only [asStrs, Option.map_eq_some_iff] at h
    obtain ⟨m, h, rfl⟩ := h
    rw [asStrs_ok h]; rfl
  | .non :: _, _, h => by simp [asStrs] at h
  | .bl _ :: _, _, h => by simp [asStrs] at h
  | .int _ :: _, _, h => by simp [asStrs] at h
  | .tup _ :: _, _, h => by simp [asStrs] at h
  | .lst _ _ :: _, _, h => by simp [asStrs] at h
  | .scr _ :: _, _, h => by simp [asStrs] at h
section
variable {K : PySem.W.Frag} {F L : AP} {H : Hp}
theorem RepL.strs : ∀ {ns : List (List Nat)} {vs : List V} {fp : List Addr}, RepL K F L H (ns.map D.str) vs fp → vs = (ns.map sOf).map V.str
  | [], _, _, h => by simp only [List.map_nil, RepL] at h; exact h.1
  | n :: ns, _, _, h => by
    simp only [List.map_cons, RepL] at h
    obtain ⟨v, vr, f1, f2, e, h1, h2, _⟩ := h
    rw [e, h1.str_, RepL.strs h2]; rfl
theorem RepL.okAll : ∀ {ns : List (List Nat)} {vs : List V} {fp : List Addr}, RepL K F L H (ns.map D.str) vs fp → ∀ s ∈ ns, okS s
  | [], _, _, _, s, hs => by cases hs
  | n :: ns, _, _, h, s, hs => by
    simp only [List.map_cons, RepL] at h
    obtain ⟨v, vr, f1, f2, e, h1, h2, _⟩ := h
    rcases List.mem_cons.mp hs with z | z
    · rw [z]; exact h1.okS
    · exact RepL.okAll h2 s z
theorem joinL_mem {a : List Nat} {c : Nat} : ∀ {ys : List (List Nat)}, c ∈ TL.joinL a ys → c ∈ a ∨ ∃ y ∈ ys, c ∈ y
  | [], h => by simp [TL.joinL] at h
  | [p], h => .inr ⟨p, by simp, by simpa [TL.joinL] using h⟩
  | p :: q :: r, h => by
    simp only [TL.joinL, List.mem_append] at h
    rcases h with h | h | h
    · exact .inr ⟨p, by simp, h⟩
    · exact .inl h
    · exact (joinL_mem h).imp id fun ⟨y, hy, z⟩ => ⟨y, List.mem_cons_of_mem _ hy, z⟩
theorem joinL_len {a : List Nat} : ∀ ys : List (List Nat), (TL.joinL a ys).length ≤ (ys.map List.length).sum + ys.length * a.length
  | [] => by simp [TL.joinL]
  | [p] => by simp [TL.joinL]
  | p :: q :: r => by
    have := joinL_len (a := a) (q :: r)
    simp only [TL.joinL, List.length_append, List.map_cons, List.sum_cons, List.length_cons, Nat.succ_mul] at this ⊢
    omega
theorem join_okS {a : List Nat} {ys : List (List Nat)} (ha : okS a) (hy : ∀ s ∈ ys, okS s) (n : (ys.map List.length).sum + ys.length * a.length ≤ line) : okS (TL.joinL a ys) := ⟨Nat.le_trans (joinL_len ys) n, fun c hc => (joinL_mem hc).elim (ha.2 c) fun ⟨y, h1, h2⟩ => (hy y h1).2 c h2⟩
theorem join_sOf (a : List Nat) (ys : List (List Nat)) : Txt.join (sOf a) (ys.map sOf) = sOf (TL.joinL a ys) := SX.join_S a ys
def rJoin (K : PySem.W.Frag) (x : V) (xs : List V) (H : Hp) (Q : VK) : Prop := ∃ a p, ∃ ys : List Str, x = .str a ∧ xs = [.ref p] ∧ (SqL K H p (ys.map V.str) ∨ SqT K H p (ys.map V.str)) ∧
      (ys.map (·.length)).sum + ys.length * a.length ≤ 16777216 ∧ Q (.str (Txt.join a ys)) H
theorem joinO_ok {a : List Nat} {l : List D} {d : D} {p : Addr} {vs : List V} {fp : List Addr} {Q : VK} (h : joinO a l = some d) (r : RepL K F L H l vs fp) (ha : okS a) (sq : SqL K H p vs ∨ SqT K H p vs) (hF : ∀ a, F a → H a ≠ none) (k : After K F L H d Q) : rJoin K (.str (sOf a)) [.ref p] H Q := by
  unfold joinO at h
  simp only [Option.bind_eq_some_iff] at h
  obtain ⟨ys, hy, h⟩ := h
  split at h
  · rename_i hz
    simp only [Option.some.injEq] at h; subst h
    have := asStrs_ok hy; subst this
    have := r.strs; subst this
    refine ⟨_, p, ys.map sOf, rfl, rfl, sq, ?_, ?_⟩
    · rw [List.map_map, show ((fun s : Str => s.length) ∘ sOf) = List.length from funext sOf_len, List.length_map, sOf_len]
      exact hz
    · rw [join_sOf]; exact k.str (join_okS ha r.okAll hz) hF
  · cases h
theorem mtop_ok {a : List Nat} (oa : okS a) {y d : D} {w : V} {fw : List Addr} {Q : VK} (h : mtop .join (.str a) [y] = some d) (r : Rep K F L H y w fw) (hF : ∀ a, F a → H a ≠ none) (k : After K F L H d Q) : rJoin K (.str (sOf a)) [w] H Q := by
  cases y with
  | lst f l =>
    obtain ⟨p, xs, fp', rfl, ha, hl, _⟩ := r.sqL
    exact joinO_ok h hl oa (.inl (SqL.of ha)) hF k
  | tup l =>
    obtain ⟨p, xs, rfl, ha, hl, _, _⟩ := r.tup_
    exact joinO_ok h hl oa (.inr ha.sq) hF k
  | _ => simp [mtop] at h
theorem cnt_eq (c : Nat) : ∀ a : List Nat, PyProof.Rows.cnt c a = (a.count c : Nat)
  | [] => rfl
  | x :: a => by
    rw [PyProof.Rows.cnt_cons, cnt_eq c a, List.count_cons]
    by_cases h : x = c
    · subst h; simp; omega
    · simp [h]
theorem count_sOf (a : List Nat) (c : Nat) : Txt.count (sOf a) (sOf [c]) = (a.count c : Nat) := by
  have e := PyProof.Rows.count_is (sOf a) c
  rw [← cnt_eq c a]
  exact e
def rCount (x : V) (xs : List V) (H : Hp) (Q : VK) : Prop := ∃ a b, x = .str a ∧ xs = [.str b] ∧ Q (.int (Txt.count a b)) H
theorem mcount_ok {a : List Nat} {y d : D} {w : V} {fw : List Addr} {Q : VK} (h : mtop .count (.str a) [y] = some d) (r : Rep K F L H y w fw) (hF : ∀ a, F a → H a ≠ none) (k : After K F L H d Q) : rCount (.str (sOf a)) [w] H Q := by
  unfold mtop at h
  split at h <;> first | (rename_i e _ _; cases e; done) | skip
  · rename_i c _ e1 e2
    cases e1
    cases e2
    simp only [Option.some.injEq] at h; subst h
    refine ⟨_, _, rfl, by rw [r.str_], ?_⟩
    rw [count_sOf]; exact k.int hF
  · cases h
end
/-! sorted: data that are alike -/
def rSortedD (K : PySem.W.Frag) : List V → Hp → VK → Prop := fun vs H Q => ∃ (a : Addr) (bs : List (V × D)), vs = [V.ref a] ∧ SqL K H a (bs.map (·.1)) ∧ (∀ b ∈ bs, Dp K H b.1 b.2.py) ∧ PySem.W.AllAlike (bs.map fun b => b.2.py) ∧ PySem.W.Sortable (bs.map fun b => b.2.py) ∧ (∀ b ∈ bs, b.2.py.depth ≤ 60) ∧
  ∀ p, H p = none → Q (.ref p) (upd H p (.lst ((bs.mergeSort (PySem.W.dataLe false fun b => b.2.py)).map (·.1))))
theorem each_of {α β : Type} {R : α → β → Prop} : ∀ {us : List α} {bs : List β}, us.length = bs.length → (∀ (i : Nat) (u : α) (b : β), us[i]? = some u → bs[i]? = some b → R u b) → PySem.W.EachIs R us bs
  | [], [], _, _ => .nil
  | [], _ :: _, h, _ => by simp at h
  | _ :: _, [], h, _ => by simp at h
  | u :: us, b :: bs, h, hr => .cons (hr 0 u b rfl rfl) (each_of (by simpa using h) fun i u b h1 h2 => hr (i + 1) u b (by simpa using h1) (by simpa using h2))
theorem vals_each : ∀ {us : List Value} {bs : List (V × D)}, PySem.W.EachIs (fun u (b : V × D) => RelV b.1 u) us bs → Vals (bs.map (·.1)) us
  | _, _, .nil => .nil
  | _, _, .cons h t => .cons h (vals_each t)
theorem cr_sortedD {X : Cx} (hu : X.A.units + 65 < cLine) : CallR X (.builtin "sorted") (rSortedD X.K) := by
  intro pins s σ H vs us Q I r h
  obtain ⟨a, bs, rfl, hs, hd, hal, hso, hdp, q⟩ := h
  obtain ⟨its, rv, hl, hz⟩ := I.list hs
  rw [Vals.ref1 r]
  have hlen : its.length = bs.length := by rw [← rv.length, List.length_map]
  have e1 : PySem.W.EachIs (fun u (b : V × D) => RelV b.1 u) its bs := each_of hlen fun i u b h1 h2 => by
    obtain ⟨u', h3, h4⟩ := rv.get (i := i) (x := b.1) (by rw [List.getElem?_map, h2]; rfl)
    rw [h1] at h3; cases h3
    exact h4
  have e2 : PySem.W.EachIs (fun u (b : V × D) => ∃ as, Reads s.heap u b.2.py as) its bs := each_of hlen fun i u b h1 h2 => by
    obtain ⟨u', h3, h4⟩ := rv.get (i := i) (x := b.1) (by rw [List.getElem?_map, h2]; rfl)
    rw [h1] at h3; cases h3
    exact Dp.reads I _ _ _ (hd b (List.mem_of_getElem? h2)) h4
  have hz' : bs.length ≤ sizeLine := by rw [List.length_map] at hz; exact hz
  refine PySem.W.sorted_data (enc := fun b : V × D => b.2.py) hl.isList e1 e2 hal hso hz' (fun b hb => by have := hdp b hb; omega) fun out ho hout => ?_
  obtain ⟨ep, he'⟩ := PyProof.Rows.sortedAll_at s.heap its out.toArray
  have hln : ((bs.mergeSort (PySem.W.dataLe false fun b => b.2.py)).map (·.1)).length ≤ sizeLine := by
    rw [List.length_map, List.length_mergeSort]
    exact hz'
  exact ⟨.ref _, upd H (s.heap.objs.size + 1) (.lst ((bs.mergeSort (PySem.W.dataLe false fun b => b.2.py)).map (·.1))), I.laid (t' := s.toks) (fun _ _ => PyProof.Rows.sortedAll_old) (Nat.le_succ _) ⟨hln, out, ep, vals_each hout, he'⟩, rfl, q _ (I.hok.fresh (Nat.le_succ _))⟩
section
variable {K : PySem.W.Frag} {F L : AP} {H : Hp}
theorem RepL.pairs : ∀ {ds : List D} {vs : List V}, RepL K F L H ds vs [] → ∃ bs : List (V × D), bs.map (·.1) = vs ∧ bs.map (·.2) = ds ∧ ∀ b ∈ bs, Rep K F L H b.2 b.1 []
  | [], _, h => by simp only [RepL] at h; exact ⟨[], by rw [h.1]; rfl, rfl, fun b hb => by cases hb⟩
  | d :: ds, _, h => by
    simp only [RepL] at h
    obtain ⟨v, vr, f1, f2, rfl, h1, h2, e⟩ := h
    obtain ⟨e1, e2⟩ := List.append_eq_nil_iff.mp e.symm
    subst e1 e2
    obtain ⟨bs, b1, b2, b3⟩ := RepL.pairs h2
    exact ⟨(v, d) :: bs, by simp [b1], by simp [b2], fun b hb => (List.mem_cons.mp hb).elim (fun z => by rw [z]; exact h1) (b3 b)⟩
theorem RepL.ofPairs : ∀ {bs : List (V × D)}, (∀ b ∈ bs, Rep K F L H b.2 b.1 []) → RepL K F L H (bs.map (·.2)) (bs.map (·.1)) []
  | [], _ => by simp [RepL]
  | b :: bs, h => by
    simp only [List.map_cons, RepL]
    exact ⟨_, _, [], [], rfl, h b List.mem_cons_self, RepL.ofPairs fun c hc => h c (List.mem_cons_of_mem _ hc), rfl⟩
theorem plainL_mem : ∀ {l : List D}, D.plainL l = true → ∀ d ∈ l, d.plain = true
  | [], _, d, h => by cases h
  | c :: l, p, d, h => by
    simp only [D.plainL, Bool.and_eq_true] at p
    rcases List.mem_cons.mp h with z | z
    · rw [z]; exact p.1
    · exact plainL_mem p.2 d z
theorem depthL_mem : ∀ {l : List D} {k : Nat}, D.depthL l ≤ k → ∀ d ∈ l, d.depth ≤ k
  | [], _, _, d, h => by cases h
  | c :: l, k, p, d, h => by
    simp only [D.depthL] at p
    rcases List.mem_cons.mp h with z | z
    · rw [z]; omega
    · exact depthL_mem (by omega) d z
theorem sorted_ok {a : Addr} {l : List D} {xs : List V} {Q : VK} (hl : RepL K F L H l xs []) (hs : SqL K H a xs) (ok : sortable l = true) (k : ∀ p ys, H p = none → RepL K F L H (l.mergeSort leD) ys [] → Q (.ref p) (upd H p (.lst ys))) : rSortedD K [.ref a] H Q := by
  unfold sortable at ok
  simp only [Bool.and_eq_true, decide_eq_true_eq, Bool.or_eq_true] at ok
  obtain ⟨⟨⟨p1, p2⟩, p3⟩, p4⟩ := ok
  obtain ⟨bs, rfl, rfl, hb⟩ := hl.pairs
  have mem : ∀ b ∈ bs, b.2 ∈ bs.map (·.2) := fun b hb => List.mem_map.mpr ⟨b, hb, rfl⟩
  refine ⟨a, bs, rfl, hs, fun b h => Rep.dp b.2 (plainL_mem p1 _ (mem b h)) (hb b h), fun x hx y hy => ?_, ?_, fun b h => ?_, fun p hp => k p _ hp ?_⟩
  · obtain ⟨b, h1, rfl⟩ := List.mem_map.mp hx
    obtain ⟨c, h2, rfl⟩ := List.mem_map.mp hy
    exact List.all_eq_true.mp (List.all_eq_true.mp p2 _ (mem b h1)) _ (mem c h2)
  · rcases p4 with p4 | p4
    · refine .inl fun d hd => ?_
      obtain ⟨b, h1, rfl⟩ := List.mem_map.mp hd
      have := List.all_eq_true.mp p4 _ (mem b h1)
      split at this
      · rename_i x r e
        rw [e]
        exact ⟨_, _, rfl⟩
      · cases this
    · refine .inr fun d hd => ?_
      obtain ⟨b, h1, rfl⟩ := List.mem_map.mp hd
      have := List.all_eq_true.mp p4 _ (mem b h1)
      split at this
      · rename_i e; rw [e]; exact ⟨fun z => (by cases z), fun _ z => by cases z⟩
      · rename_i e; rw [e]; exact ⟨fun z => (by cases z), fun _ z => by cases z⟩
      · cases this
  · rw [py_depth _ (plainL_mem p1 _ (mem b h))]
    exact depthL_mem p3 _ (mem b h)
  · have e : (bs.map (·.2)).mergeSort leD = (bs.mergeSort (PySem.W.dataLe false fun b : V × D => b.2.py)).map (·.2) := (List.map_mergeSort (f := fun b : V × D => b.2) fun a _ b _ => rfl).symm
    rw [e]
    exact RepL.ofPairs fun b h => hb b ((List.mergeSort_perm bs _).mem_iff.mp h)
end
inductive BK where
  | fn (n : String) | ty (n : String)
def BI.nm : BI → String
  | .len => "len" | .int => "int" | .str => "str" | .list => "list" | .tuple => "tuple" | .sorted => "sorted" | .max => "max" | .min => "min" | .sum => "sum" | .range => "range"
def BI.isTy : BI → Bool
  | .int => true | .str => true | .list => true | .tuple => true | .range => true | _ => false
def BI.val (b : BI) : Value := if b.isTy then .type b.nm else .builtin b.nm
theorem BI.boot : ∀ b : BI, bootBuiltins (Str.ofString b.nm) = some b.val := by
  intro b
  cases b <;> decide +kernel
abbrev RB := List V → Hp → VK → Prop
def rBI (K : PySem.W.Frag) : BI → RB
  | .len => fun xs H Q => ∃ x n, xs = [x] ∧ LenV K x H n ∧ Q (.int n) H
  | .int => fun xs H Q => (∃ i, xs = [V.int i] ∧ Q (V.int i) H) ∨ ∃ k, xs = [V.bl k] ∧ Q (V.int (if k = true then 1 else 0)) H
  | .list => fun xs H Q => ∃ p ys, xs = [.ref p] ∧ (SqL K H p ys ∨ SqT K H p ys) ∧ ∀ l, H l = none → Q (.ref l) (upd H l (.lst ys))
  | .tuple => fun xs H Q => ∃ p ys, xs = [.ref p] ∧ ((SqL K H p ys ∧ ∀ l, H l = none → Q (.ref l) (upd H l (.tup ys))) ∨ (SqT K H p ys ∧ Q (.ref p) H))
  | .sorted => fun xs H Q => rSortedI K xs H Q ∨ rSortedD K xs H Q
  | .max => fun xs H Q => (∃ i j, xs = [.int i, .int j] ∧ Q (.int (if j > i then j else i)) H) ∨ rMax K xs H Q
  | .min => fun xs H Q => (∃ i j, xs = [.int i, .int j] ∧ Q (.int (if j < i then j else i)) H) ∨ rMin K xs H Q
  | .sum => rSum K
  | .str => fun xs H Q => ∃ i, xs = [.int i] ∧ i.natAbs.log2 < 1920 ∧ Q (.str (toString i)) H
  | .range => fun _ _ _ => False
theorem call_BI {X : Cx} (hc : X.calm = true) (hu : X.A.units + 65 < cLine) : ∀ b : BI, CallR X b.val (rBI X.K b)
  | .len => call_len
  | .int => call_int1
  | .list => call_list_of
  | .tuple => call_tuple_of
  | .sorted => cr_sortedI.or (cr_sortedD hu)
  | .max => (call_max2 hc).or (cr_max hc)
  | .min => (call_min2 hc).or (cr_min hc)
  | .sum => cr_sum hc
  | .str => call_str_int
  | .range => fun _ _ _ _ _ _ _ _ _ h => h.elim
section
variable {K : PySem.W.Frag} {F L : AP} {H : Hp} {d : D} {Q : VK}
theorem RepL.one_ {x : D} {vs : List V} {fp : List Addr} (h : RepL K F L H [x] vs fp) : ∃ v, vs = [v] ∧ Rep K F L H x v fp := by
  simp only [RepL] at h
  obtain ⟨v, vr, f1, f2, e, h1, ⟨e2, e3⟩, e4⟩ := h
  subst e2 e3
  exact ⟨v, e, by rw [e4, List.append_nil]; exact h1⟩
theorem RepL.two_ {x y : D} {vs : List V} {fp : List Addr} (h : RepL K F L H [x, y] vs fp) : ∃ v w f1 f2, vs = [v, w] ∧ Rep K F L H x v f1 ∧ Rep K F L H y w f2 ∧ fp = f1 ++ f2 := by
  simp only [RepL] at h
  obtain ⟨v, vr, f1, f2, e, h1, ⟨w, wr, g1, g2, e2, h2, ⟨e3, e4⟩, e5⟩, e6⟩ := h
  subst e3 e4
  exact ⟨v, w, f1, f2, by rw [e, e2], h1, by rw [e5, List.append_nil] at *; exact h2, by rw [e6]⟩
theorem biop_ok {b : BI} {ds : List D} {vs : List V} {fs : List Addr} (h : biop b ds = some d) (r : RepL K F L H ds vs fs) (hF : ∀ a, F a → H a ≠ none) (k : After K F L H d Q) : rBI K b vs H Q := by
  unfold biop at h
  split at h <;> try (cases h; done)
  · -- len tup
    simp only [Option.some.injEq] at h; subst h
    obtain ⟨v, rfl, q⟩ := r.one_
    obtain ⟨a, xs, rfl, ta, hl, _, _⟩ := q.tup_
    exact ⟨_, _, rfl, .inr ⟨xs, ta.sq, hl.length.symm⟩, k.int hF⟩
  · simp only [Option.some.injEq] at h; subst h
    obtain ⟨v, rfl, q⟩ := r.one_
    obtain ⟨a, xs, fp', rfl, ha, hl, _⟩ := q.sqL
    exact ⟨_, _, rfl, .inl ⟨xs, SqL.of ha, hl.length.symm⟩, k.int hF⟩
  · simp only [Option.some.injEq] at h; subst h
    obtain ⟨v, rfl, q⟩ := r.one_
    have ok := q.okS
    rw [q.str_]
    exact ⟨_, _, rfl, ⟨by rw [sOf_len, ← line_eq]; exact ok.1, (sOf_len _).symm⟩, k.int hF⟩
  · simp only [Option.some.injEq] at h; subst h
    obtain ⟨v, rfl, q⟩ := r.one_
    simp only [Rep] at q
    obtain ⟨a, rfl, sa, _⟩ := q
    exact ⟨_, _, rfl, .inl ⟨_, sa.sq, by rw [List.length_map]⟩, k.int hF⟩
  · simp only [Option.some.injEq] at h; subst h
    obtain ⟨v, rfl, q⟩ := r.one_
    rw [q.int_]
    exact .inl ⟨_, rfl, k.int hF⟩
  · simp only [Option.some.injEq] at h; subst h
    obtain ⟨v, rfl, q⟩ := r.one_
    rw [q.bl_]
    exact .inr ⟨_, rfl, k.int hF⟩
  · split at h
    · rename_i hz
      simp only [Option.some.injEq] at h; subst h
      obtain ⟨v, rfl, q⟩ := r.one_
      obtain ⟨a, xs, rfl, ha, hl⟩ := q.frzL_ hz
      exact ⟨a, xs, rfl, .inl (SqL.of ha), fun p hp => k.lst hF hl hp⟩
    · cases h
  · simp only [Option.some.injEq] at h; subst h
    obtain ⟨v, rfl, q⟩ := r.one_
    obtain ⟨a, xs, rfl, ta, hl, _, _⟩ := q.tup_
    exact ⟨a, xs, rfl, .inr ta.sq, fun p hp => k.lst hF hl hp⟩
  · split at h
    · rename_i hz
      simp only [Option.some.injEq] at h; subst h
      obtain ⟨v, rfl, q⟩ := r.one_
      obtain ⟨a, xs, rfl, ha, hl⟩ := q.frzL_ hz
      exact ⟨a, xs, rfl, .inl ⟨SqL.of ha, fun p hp => k.tup hF hl hz hp⟩⟩
    · cases h
  · simp only [Option.some.injEq] at h; subst h
    obtain ⟨v, rfl, q⟩ := r.one_
    have r0 := q
    obtain ⟨a, xs, rfl, ta, hl, z, rfl⟩ := q.tup_
    exact ⟨a, xs, rfl, .inr ⟨ta.sq, k _ _ F [] (Grow.refl hF) (.plain r0)⟩⟩
  · split at h
    · rename_i ns hn
      simp only [Option.some.injEq] at h; subst h
      have := asInts_ok hn; subst this
      obtain ⟨v, rfl, q⟩ := r.one_
      obtain ⟨a, xs, fp', rfl, ha, hl, _⟩ := q.sqL
      have := hl.ints; subst this
      refine .inl ⟨a, ns, rfl, SqL.of ha, fun ns' p hp hs hq => ?_⟩
      rw [sortI_unique hp hs]
      exact k.lst hF (RepL.of_ints _) hq
    · split at h
      · rename_i hz
        simp only [Option.some.injEq] at h; subst h
        rw [Bool.and_eq_true] at hz
        obtain ⟨v, rfl, q⟩ := r.one_
        obtain ⟨a, xs, rfl, ha, hl⟩ := q.frzL_ hz.1
        exact .inr (sorted_ok hl (SqL.of ha) hz.2 fun p ys hp hy => k.lst hF hy hp)
      · cases h
  · simp only [Option.some.injEq] at h; subst h
    obtain ⟨v, w, f1, f2, rfl, r1, r2, _⟩ := r.two_
    rw [r1.int_, r2.int_]
    exact .inl ⟨_, _, rfl, k.int hF⟩
  · simp only [Option.some.injEq] at h; subst h
    obtain ⟨v, w, f1, f2, rfl, r1, r2, _⟩ := r.two_
    rw [r1.int_, r2.int_]
    exact .inl ⟨_, _, rfl, k.int hF⟩
  · simp only [Option.bind_eq_some_iff] at h
    obtain ⟨ns, hn, h⟩ := h
    split at h
    · cases h
    · rename_i hne
      simp only [Option.some.injEq] at h; subst h
      have := asInts_ok hn; subst this
      obtain ⟨v, rfl, q⟩ := r.one_
      obtain ⟨a, xs, fp', rfl, ha, hl, _⟩ := q.sqL
      have := hl.ints; subst this
      obtain ⟨m1, m2⟩ := maxI_mem hne
      refine .inr ⟨a, ns, rfl, SqL.of ha, List.length_pos_iff.mpr hne, fun m hm hle => ?_⟩
      have : m = maxI ns := Int.le_antisymm (m2 m hm) (hle _ m1)
      rw [this]; exact k.int hF
  · simp only [Option.bind_eq_some_iff] at h
    obtain ⟨ns, hn, h⟩ := h
    split at h
    · cases h
    · rename_i hne
      simp only [Option.some.injEq] at h; subst h
      have := asInts_ok hn; subst this
      obtain ⟨v, rfl, q⟩ := r.one_
      obtain ⟨a, xs, fp', rfl, ha, hl, _⟩ := q.sqL
      have := hl.ints; subst this
      obtain ⟨m1, m2⟩ := minI_mem hne
      refine .inr ⟨a, ns, rfl, SqL.of ha, List.length_pos_iff.mpr hne, fun m hm hle => ?_⟩
      have : m = minI ns := Int.le_antisymm (hle _ m1) (m2 m hm)
      rw [this]; exact k.int hF
  · simp only [Option.map_eq_some_iff] at h
    obtain ⟨ns, hn, rfl⟩ := h
    have := asInts_ok hn; subst this
    obtain ⟨v, rfl, q⟩ := r.one_
    obtain ⟨a, xs, fp', rfl, ha, hl, _⟩ := q.sqL
    have := hl.ints; subst this
    exact ⟨a, ns, rfl, SqL.of ha, k.int hF⟩
end
end PV

set_option Elab.async false
set_option linter.all false
set_option maxRecDepth 100000
set_option maxHeartbeats 4000000
/-! PV, part E: the check of expressions against the text, and their soundness. -/
namespace PV
open PySem PySem.Spec PyProof.Rows L2
structure Tab where
  fn : List Str
  con : List Str
  gen : Bool := false
def vis (sc : Scope) (x : Str) : Bool := match sc.names.lookup x with
  | some .local => true | some .cell => true | some .free => true | _ => false
def glb (sc : Scope) (x : Str) : Bool := match sc.names.lookup x with
  | some .globalImplicit => true | _ => false
def lcl (sc : Scope) (x : Str) : Bool := match sc.names.lookup x with
  | some .local => true | _ => false
/-- no star, no set display, no slice -/
def plainX : Expr → Bool
  | .Starred .. => false | .Set .. => false | .Slice .. => false | _ => true
def isBO : Expr → Bool
  | .BoolOp .. => true | _ => false
def isIf : Expr → Bool
  | .IfExp .. => true | _ => false
def MT.nm : MT → String
  | .count => "count" | .index => "index" | .join => "join" | .split => "split"
def isCall : Expr → Bool
  | .Call _ _ _ _ => true
  | _ => false
def okName (x : Str) : Bool := !(x == ("__debug__" : Str)) && !(x == ("__classdict__" : Str)) && !(x == ("__name__" : Str))
def chkNs (N : List Str) (sc : Scope) : List Nat → List Expr → Bool
  | [], [] => true
  | i :: is, .Name x _ :: es => N[i]? == some x && lcl sc x && chkNs N sc is es
  | _, _ => false
def chkTg (N : List Str) (sc : Scope) : Tg → Expr → Bool
  | .name i, .Name x _ => N[i]? == some x && lcl sc x
  | .tup is, .Tuple es _ _ => chkNs N sc is es
  | _, _ => false
def Tg.slots : Tg → List Nat
  | .name i => [i]
  | .tup is => is
def ownOf (N : List Str) (is : List Nat) : List (Str × Nat) := is.map fun i => (N.getD i Str.empty, i)
def BT.nm : BT → String
  | .int => "int" | .bool => "bool" | .str => "str" | .list => "list" | .tuple => "tuple"
def noList : Expr → Bool
  | .List .. => false | _ => true
def genC (N : List Str) (sc scope : Scope) (own : List (Str × Nat)) : Bool := blkC N sc scope own && !scope.isCoroutine && scope.names.all (fun y => !decide (y.2 = .cell)) && decide (scope.names.lookup (".0" : Str) = some NameKind.local) && !decide ((".0" : Str) ∈ N)
mutual
def chkE (T : Tab) (N : List Str) (sc : Scope) : E → Expr → Bool
  | .var i, .Name x _ => N[i]? == some x && vis sc x && okName x
  | .non, .Constant .none _ _ => true
  | .bl b, .Constant (.bool c) _ _ => b == c
  | .int i, .Constant (.int j) _ _ => i == j
  | .str s, .Constant (.str z) _ _ => s == z.cps.toList && okSb s
  | .glb k, .Name x _ => T.con[k]? == some x && glb sc x && okName x
  | .bin o a b, .BinOp l op r _ => op == o.op && (plainX l && chkE T N sc a l) && (plainX r && chkE T N sc b r)
  | .neg a, .UnaryOp .USub x _ => plainX x && chkE T N sc a x
  | .cmp o a b, .Compare l [op] [r] _ => op == o.op && (plainX l && chkE T N sc a l) && (plainX r && chkE T N sc b r)
  | .isN n a, .Compare l [op] [.Constant .none _ _] _ => op == (if n then .IsNot else .Is) && (plainX l && chkE T N sc a l)
  | .isB n b a, .Compare l [op] [.Constant (.bool c) _ _] _ => op == (if n then .IsNot else .Is) && b == c && (plainX l && chkE T N sc a l)
  | .and a b, .BoolOp .And [p, q] _ => (plainX p && !isIf p && chkE T N sc a p) && (plainX q && !isIf q && chkE T N sc b q)
  | .and a b, .BoolOp .And (p :: q :: r :: rest) pos => (plainX p && !isIf p && chkE T N sc a p) && chkE T N sc b (.BoolOp .And (q :: r :: rest) pos)
  | .or a b, .BoolOp .Or [p, q] _ => (plainX p && !isIf p && chkE T N sc a p) && (plainX q && !isIf q && chkE T N sc b q)
  | .or a b, .BoolOp .Or (p :: q :: r :: rest) pos => (plainX p && !isIf p && chkE T N sc a p) && chkE T N sc b (.BoolOp .Or (q :: r :: rest) pos)
  | .not a, .UnaryOp .Not x _ => plainX x && !isIf x && chkE T N sc a x
  | .ite c a b, .IfExp x y z _ => (plainX x && !isIf x && chkE T N sc c x) && (plainX y && chkE T N sc a y) && (plainX z && chkE T N sc b z)
  | .idx a b, .Subscript v s _ => (plainX v && chkE T N sc a v) && (plainX s && chkE T N sc b s)
  | .slc a lo hi, .Subscript v (.Slice l h none _) _ => (plainX v && chkE T N sc a v) && (match l with
      | none => lo.isNop
      | some y => !lo.isNop && (plainX y && chkE T N sc lo y)) && (match h with
      | none => hi.isNop
      | some y => !hi.isNop && (plainX y && chkE T N sc hi y))
  | .tup es, .Tuple xs _ _ => chkEs T N sc es xs
  | .lst es, .List xs _ => chkEs T N sc es xs
  | .call f es, .Call (.Name x _) xs [] _ => T.fn[f]? == some x && glb sc x && okName x && !xs.isEmpty && chkEs T N sc es xs
  | .bi b es, .Call (.Name x _) xs [] _ => x == Str.ofString b.nm && glb sc x && okName x && !xs.isEmpty && chkEs T N sc es xs
  | .inst t a, .Call (.Name x _) [v, .Name y _] [] _ => x == ("isinstance" : Str) && glb sc x && y == Str.ofString t.nm && glb sc y && (plainX v && chkE T N sc a v)
  | .lc elt tg it cond, .ListComp x [⟨tgt, iter, ifs, 0⟩] scope _ => chkTg N (relS scope sc) tg tgt && blkC N sc scope (ownOf N tg.slots) && chkI T N sc it iter tgt &&
      (match ifs with
        | [] => cond.isNop
        | [y] => !cond.isNop && (plainX y && !isIf y && chkE T N (relS scope sc) cond y)
        | _ => false) && (plainX x && chkE T N (relS scope sc) elt x)
  | .gen all elt tg it, .Call (.Name x _) [.GeneratorExp y [⟨tgt, iter, [], 0⟩] scope _] [] _ => T.gen && x == (if all then ("all" : Str) else "any") && glb sc x && genC N sc scope (ownOf N tg.slots) && chkTg N scope tg tgt && noList iter && chkI T N sc it iter tgt && (plainX y && chkE { T with gen := false } N scope elt y)
  | .rev a, .Subscript v (.Slice none none (some (.UnaryOp .USub (.Constant (.int 1) _ _) _)) _) _ => plainX v && chkE T N sc a v
  | .mth m a (.cons b .nil), .Call (.Attribute x y p) [z] [] pos => y == Str.ofString m.nm && (p.endLine == pos.line) && !isCall x && (plainX x && chkE T N sc a x) && (plainX z && chkE T N sc b z)
  | _, _ => false
def chkEs (T : Tab) (N : List Str) (sc : Scope) : Es → List Expr → Bool
  | .nil, [] => true
  | .cons e es, x :: xs => (plainX x && chkE T N sc e x) && chkEs T N sc es xs
  | _, _ => false
def chkI (T : Tab) (N : List Str) (sc : Scope) : It → Expr → Expr → Bool
  | .seq e, x, _ => plainX x && chkE T N sc e x
  | .rng1 a, .Call (.Name x _) [p] [] _, _ => x == ("range" : Str) && glb sc x && (plainX p && chkE T N sc a p)
  | .rng2 a b, .Call (.Name x _) [p, q] [] _, _ => x == ("range" : Str) && glb sc x && (plainX p && chkE T N sc a p) && (plainX q && chkE T N sc b q)
  | .zip a b, .Call (.Name x _) [p, q] [] _, .Tuple _ _ _ => x == ("zip" : Str) && glb sc x && (plainX p && chkE T N sc a p) && (plainX q && chkE T N sc b q)
  | _, _, _ => false
end
/-! ### the state at an expression: all that is owned counts as locked -/
structure SX (K : PySem.W.Frag) (B F L : AP) (H : Hp) (σ : L2.St) (env : Env) : Prop where
  len : σ.length = env.length
  rep : ∀ (i : Nat) (d : D), env[i]? = some (some d) → ∃ v, σ[i]? = some (some v) ∧ Rep K F L H d.lock v []
  FH : ∀ a, F a → H a ≠ none
  LH : ∀ a, L a → H a ≠ none
  tb : ∀ P, B P → GxR.TabG H P
theorem SX.grow {K : PySem.W.Frag} {F F' L : AP} {H H' : Hp} {σ : L2.St} {env : Env} (s : SX K B F L H σ env) (g : Grow F F' H H') : SX K B F' L H' σ env :=
  ⟨s.len, fun i d e => let ⟨v, h1, h2⟩ := s.rep i d e; ⟨v, h1, h2.grow g⟩, g.st, g.lk s.LH, fun P b => g.tb P (s.tb P b)⟩
section
variable (K : PySem.W.Frag) (B : AP) (G : Glob) (cf : Nat → List D → Option D)
def tE (e : E) : TE := fun σ H Q => ∃ F L env d, SX K B F L H σ env ∧ ev G cf e env = some d ∧ After K F L H d Q
def tT (e : E) : TT := fun σ H Q => ∃ F L env b, SX K B F L H σ env ∧ asBl (ev G cf e env) = some b ∧ ∀ F' H', Grow F F' H H' → Q b H'
def tEs (es : Es) : TA := fun σ H Q => ∃ F L env ds, SX K B F L H σ env ∧ evs G cf es env = some ds ∧ ∀ vs H' F' fp, Grow F F' H H' → NewVs K F' L H H' ds vs fp → Q vs H'
def tP (e : E) : TO := fun σ H Q => ∃ F L env o, SX K B F L H σ env ∧ asP e (ev G cf e env) = some o ∧ ∀ F' H', Grow F F' H H' → Q o H'
end
/-- what a def promises, by the evaluator's answer -/
def spF (K : PySem.W.Frag) (B : AP) (cf : Nat → List D → Option D) (f n : Nat) : Sp := fun vs H Q _ => vs.length = n ∧ ∃ F L ds fs d, RepL K F L H ds vs fs ∧ fs.Nodup ∧ (∀ a ∈ fs, ¬ F a ∧ ¬ L a) ∧ (∀ a, F a → H a ≠ none) ∧ (∀ a, L a → H a ≠ none) ∧ (∀ P, B P → GxR.TabG H P) ∧ cf f ds = some d ∧
  ∀ v H' F' fv, (∀ a o, H a = some o → datO o = true → a ∉ fs → H' a = some o) → (∀ a, H a ≠ none → H' a ≠ none) → (∀ P, GxR.TabG H P → GxR.TabG H' P) → (∀ a, F a → F' a) → (∀ a, F' a → F a ∨ a ∈ fs ∨ H a = none) → (∀ a, F' a → H' a ≠ none) → Rep K F' L H' d v fv → fv.Nodup → (∀ a ∈ fv, (a ∈ fs ∨ H a = none) ∧ ¬ F' a) → Q v H'
def bnames : List Str := ["len", "int", "str", "list", "tuple", "sorted", "max", "min", "sum", "range", "zip", "isinstance", "bool", "any", "all"]
structure PF (T : Tab) (B : AP) (G : Glob) (cf : Nat → List D → Option D) (k : Nat) (P : Program) (w : World) (K : PySem.W.Frag) (mg : Str → Option Value) (base : Heap) : Prop where
  fn : ∀ (f : Nat) (x : Str), T.fn[f]? = some x → ∃ a fd ps, mg x = some (.ref a) ∧ FnOk P w K mg base CX0 k a fd ps (spF K B cf f ps.length) ∧ Binds K fd ps [] ∧ PySem.W.keepIn K (.ref a) = true ∧ ∀ ds d, cf f ds = some d → ds.length = ps.length
  free : ∀ x, x ∈ bnames → mg x = none
  con : ∀ (k : Nat) (x : Str), T.con[k]? = some x → ∃ d v u, G.consts[k]? = some d ∧ d.isFrz = true ∧ mg x = some u ∧ RelV v u ∧ ∀ F L H, Rep K F L H d v []
structure OkX (T : Tab) (B : AP) (G : Glob) (cf : Nat → List D → Option D) (k : Nat) (N : List Str) (sc : Scope) (X : Cx) : Prop where
  hN : X.N = N
  nd : N.Nodup
  hsc : X.env.scope = sc
  calm : X.calm = true
  room : Room k X.A
  pf : PF T B G cf k X.prog X.w X.K X.mg X.base
  gen : T.gen = true → ∃ c P, Room (k + 1) X.A ∧ GxR.TabB X.base X.mg c P ∧ X.env.code = .ref c ∧ B P
theorem _root_.L2.PE.imp {X : Cx} {e : Expr} {t t' : TE} (h : PE X e t) (k : ∀ σ H Q, t' σ H Q → t σ H Q) : PE X e t' := ⟨fun pins s σ H Q I hq => h.run pins s σ H Q I (k _ _ _ hq)⟩
theorem _root_.L2.PT.imp {X : Cx} {e : Expr} {t t' : TT} (h : PT X e t) (k : ∀ σ H Q, t' σ H Q → t σ H Q) : PT X e t' := ⟨fun pins s σ H Q I hq => h.run pins s σ H Q I (k _ _ _ hq)⟩
theorem _root_.L2.PW.imp {X : Cx} {e : Expr} {t t' : TT} (h : PW X e t) (k : ∀ σ H Q, t' σ H Q → t σ H Q) : PW X e t' := ⟨fun wh pins s σ H Q I hq => h.run wh pins s σ H Q I (k _ _ _ hq)⟩
theorem _root_.L2.PA.imp {X : Cx} {e : List Expr} {t t' : TA} (h : PA X e t) (k : ∀ σ H Q, t' σ H Q → t σ H Q) : PA X e t' := ⟨fun p pins s σ H Q I hq => h.run p pins s σ H Q I (k _ _ _ hq)⟩
theorem _root_.L2.PO.imp {X : Cx} {e : Option Expr} {t t' : TO} (h : PO X e t) (k : ∀ σ H Q, t' σ H Q → t σ H Q) : PO X e t' := ⟨fun pins s σ H Q I hq => h.run pins s σ H Q I (k _ _ _ hq)⟩
theorem _root_.L2.PS.imp {X : Cx} {e : Stmt} {t t' : TS} (h : PS X e t) (k : ∀ D σ H, t' D σ H → t D σ H) : PS X e t' := ⟨fun pins s σ H D I hq => h.run pins s σ H D I (k _ _ _ hq)⟩
theorem _root_.L2.PSs.imp {X : Cx} {e : List Stmt} {t t' : TS} (h : PSs X e t) (k : ∀ D σ H, t' D σ H → t D σ H) : PSs X e t' := ⟨fun pins s σ H D I hq => h.run pins s σ H D I (k _ _ _ hq)⟩
theorem okName_ok {x : Str} (h : okName x = true) : (x == ("__debug__" : Str)) = false ∧ (x == ("__classdict__" : Str)) = false ∧ x ≠ "__name__" := by
  unfold okName at h
  simp only [Bool.and_eq_true, Bool.not_eq_true'] at h
  exact ⟨h.1.1, h.1.2, fun e => by rw [e] at h; simp at h⟩
theorem vis_ok {sc : Scope} {x : Str} (h : vis sc x = true) : Vis sc x := by
  unfold vis at h
  split at h <;> first | exact .inl (by assumption) | exact .inr (.inl (by assumption)) | exact .inr (.inr (by assumption)) | cases h
theorem glb_ok {sc : Scope} {x : Str} (h : glb sc x = true) : sc.names.lookup x = some .globalImplicit := by
  unfold glb at h
  split at h <;> first | assumption | cases h
theorem lcl_ok {sc : Scope} {x : Str} (h : lcl sc x = true) : sc.names.lookup x = some .local := by
  unfold lcl at h
  split at h <;> first | assumption | cases h
theorem star_of {x : Expr} (h : plainX x = true) (xs : List Expr) (env : PySem.Env) : starEach (x :: xs) env = (false, eval x env) :: starEach xs env := by
  cases x <;> first | rfl | simp [plainX] at h
theorem plainIx_of {x : Expr} (h : plainX x = true) : PlainIx x := by
  intro o i
  cases x <;> first | rfl | simp [plainX] at h
theorem mark_of {x : Expr} (h : plainX x = true) (op : CmpOp) : behindInMarks op x = false := by
  cases x <;> first | rfl | simp [plainX] at h
theorem fold_of {x : Expr} (h : plainX x = true) (env : PySem.Env) (v : Value) : foldedSetIterable x env v = pure v := by
  cases x <;> first | rfl | simp [plainX] at h
theorem asBl_some {o : Option D} {b : Bool} (h : asBl o = some b) : o = some (.bl b) := by
  unfold asBl at h
  split at h
  · simp only [Option.some.injEq] at h; subst h; rfl
  · cases h
section
variable {K : PySem.W.Frag} {B : AP} {G : Glob} {cf : Nat → List D → Option D}
theorem tT_tE {e : E} {σ : L2.St} {H : Hp} {Q : Bool → Hp → Prop} (h : tT K B G cf e σ H Q) : tE K B G cf e σ H fun x H' => ∃ k, x = .bl k ∧ Q k H' := by
  obtain ⟨F, L, env, b, s, h, k⟩ := h
  exact ⟨F, L, env, _, s, asBl_some h, fun v H' F' fp g n => ⟨b, n.rep.bl_, k F' H' g⟩⟩
/-- two expressions, one after the other -/
theorem two {a b : E} {σ : L2.St} {H : Hp} {F L : AP} {env : Env} {x y : D} {R : V → V → Hp → Prop} (s : SX K B F L H σ env) (ha : ev G cf a env = some x) (hb : ev G cf b env = some y)
    (k : ∀ v w H' F' fv fw, Grow F F' H H' → NewV K F' L H H' x v fv → NewV K F' L H H' y w fw → (∀ c, c ∈ fv → c ∈ fw → False) → R v w H') :
    tE K B G cf a σ H fun v H1 => tE K B G cf b σ H1 fun w H2 => R v w H2 := by
  refine ⟨F, L, env, x, s, ha, fun v H1 F1 fv g1 n1 => ⟨F1, L, env, y, s.grow g1, hb, fun w H2 F2 fw g2 n2 => ?_⟩⟩
  exact k v w H2 F2 fv fw (g1.trans g2) (n1.grow g2) (n2.back g1) fun c hc hd => by
    obtain ⟨o, e⟩ := n1.rep.stand x c hc
    rw [(n2.fresh c hd).1] at e; cases e
end
end PV

set_option Elab.async false
set_option linter.all false
set_option maxRecDepth 100000
set_option maxHeartbeats 4000000
/-! PV, part F: what is walked. -/
namespace PV
open PySem PySem.Spec PyProof.Rows L2
/-- what is frozen or locked still stands -/
structure Stab (F1 L : AP) (H1 : Hp) (F : AP) (H : Hp) : Prop where
  keep : ∀ a o, (F1 a ∨ L a) → H1 a = some o → datO o = true → H a = some o
  mono : ∀ a, F1 a → F a
  st : ∀ a, F a → H a ≠ none
/-- J walks the items xs -/
def WalkOk (K : PySem.W.Frag) (L F1 : AP) (H1 : Hp) (xs : List D) (J : L2.It) : Prop :=
  ∀ (i : Nat) (H : Hp) (F : AP), Stab F1 L H1 F H → (∀ d, xs[i]? = some d → J.go i H ∧ ∀ v H', J.yld i H v H' → ∃ F', Grow F F' H H' ∧ Rep K F' L H' d v []) ∧ (xs.length ≤ i → J.stop i H)
theorem _root_.L2.PI.imp {X : Cx} {tg e : Expr} {t t' : TI} (h : PI X tg e t) (k : ∀ σ H Q, t' σ H Q → t σ H Q) : PI X tg e t' := ⟨fun pins s σ H Q I hq => h.run pins s σ H Q I (k _ _ _ hq)⟩
theorem _root_.L2.PI.or {X : Cx} {tg e : Expr} {t t' : TI} (h : PI X tg e t) (h' : PI X tg e t') : PI X tg e (fun σ H R => t σ H R ∨ t' σ H R) := ⟨fun pins s σ H R I hq => hq.elim (h.run pins s σ H R I) (h'.run pins s σ H R I)⟩
section
variable {K : PySem.W.Frag} {F F1 L : AP} {H H1 : Hp}
theorem Rep.stab {d : D} {v : V} (s : Stab F1 L H1 F H) (h : Rep K F1 L H1 d v []) : Rep K F L H d v [] :=
  Rep.mono s.mono (fun _ e => e) d (fun a o e dd q => s.keep a o (q.elim .inl fun q => q.elim .inr fun q => by cases q) e dd) h
theorem RepL.stab {ds : List D} {vs : List V} (s : Stab F1 L H1 F H) (h : RepL K F1 L H1 ds vs []) : RepL K F L H ds vs [] :=
  RepL.mono s.mono (fun _ e => e) ds (fun a o e dd q => s.keep a o (q.elim .inl fun q => q.elim .inr fun q => by cases q) e dd) h
theorem TupAt.stab {a : Addr} {xs : List V} (s : Stab F1 L H1 F H) (h : TupAt K F1 H1 a xs) : TupAt K F H a xs := by
  rcases h with ⟨f, e⟩ | h
  · exact .inl ⟨s.mono a f, s.keep a _ (.inl f) e rfl⟩
  · exact .inr h
theorem TupAt.uniq {a : Addr} {xs : List V} {X : Cx} {pins : List (Addr × Obj)} {σ : L2.St} {s : Shared} (I : Inv X pins σ H s) (h : TupAt X.K F H a xs) {ys : List V} (h' : SqT X.K H a ys) : ys = xs := I.tuple_inj h' h.sq
theorem walk_tup {a : Addr} {xs : List V} {l : List D} (ta : TupAt K F1 H1 a xs) (hl : RepL K F1 L H1 l xs []) : WalkOk K L F1 H1 l (Itt K a) := by
  intro i H F s
  have ta' := ta.stab s
  have hl' := hl.stab s
  refine ⟨fun d hd => ?_, fun hi => ⟨xs, ta'.sq, by rw [hl.length]; exact hi⟩⟩
  obtain ⟨v, f, hv, rv, sub⟩ := hl'.get hd
  have e : f = [] := List.sublist_nil.mp sub
  subst e
  refine ⟨⟨xs, v, ta'.sq, hv⟩, fun u H' y => ?_⟩
  obtain ⟨rfl, y⟩ := y
  have := y xs ta'.sq
  rw [hv] at this
  cases this
  exact ⟨F, Grow.refl s.st, rv⟩
theorem walk_lst {a : Addr} {xs : List V} {l : List D} (ha : H1 a = some (.lst xs)) (fa : F1 a ∨ L a) (hl : RepL K F1 L H1 l xs []) : WalkOk K L F1 H1 l (Itl K a) := by
  intro i H F s
  have ha' := s.keep a _ fa ha rfl
  have hl' := hl.stab s
  refine ⟨fun d hd => ?_, fun hi => ⟨xs, SqL.of ha', by rw [hl.length]; exact hi⟩⟩
  obtain ⟨v, f, hv, rv, sub⟩ := hl'.get hd
  have e : f = [] := List.sublist_nil.mp sub
  subst e
  refine ⟨⟨xs, v, SqL.of ha', hv⟩, fun u H' y => ?_⟩
  obtain ⟨rfl, y⟩ := y
  have := y xs (SqL.of ha')
  rw [hv] at this
  cases this
  exact ⟨F, Grow.refl s.st, rv⟩
theorem walk_str {s : List Nat} (ok : okS s) : WalkOk K L F1 H1 (s.map fun c => D.str [c]) (Its (sOf s)) := by
  intro i H F st
  refine ⟨fun d hd => ?_, fun hi => by simpa [Its, sOf] using hi⟩
  rw [List.getElem?_map, Option.map_eq_some_iff] at hd
  obtain ⟨c, hc, rfl⟩ := hd
  have hi : i < s.length := (List.getElem?_eq_some_iff.mp hc).1
  refine ⟨by simpa [Its, sOf] using hi, fun u H' y => ?_⟩
  obtain ⟨rfl, c', hc', rfl⟩ := y
  have e : c' = c := by
    have hc2 : s[i]? = some c' := by simpa [sOf] using hc'
    rw [hc] at hc2
    exact (Option.some.inj hc2).symm
  subst e
  exact ⟨F, Grow.refl st.st, by simpa [Rep, sOf] using ok.mem (List.mem_of_getElem? hc)⟩
theorem rng_get {a b : Int} {i : Nat} {d : D} (h : (rng a b)[i]? = some d) : i < (b - a).toNat ∧ d = .int (a + i) := by
  unfold rng at h
  rw [List.getElem?_map, Option.map_eq_some_iff] at h
  obtain ⟨c, hc, rfl⟩ := h
  obtain ⟨h1, h2⟩ := List.getElem?_eq_some_iff.mp hc
  rw [List.getElem_range] at h2
  rw [List.length_range] at h1
  subst h2
  exact ⟨h1, rfl⟩
theorem walk_rng {a b : Int} : WalkOk K L F1 H1 (rng a b) (Itr a (b - a).toNat) := by
  intro i H F st
  refine ⟨fun d hd => ?_, fun hi => by simpa [Itr, rng] using hi⟩
  obtain ⟨hi, rfl⟩ := rng_get hd
  refine ⟨hi, fun u H' y => ?_⟩
  obtain ⟨rfl, rfl⟩ := y
  exact ⟨F, Grow.refl st.st, by simp [Rep]⟩
end
end PV
namespace PV
open PySem PySem.Spec PyProof.Rows L2
/-! ### zip of two texts -/
def ItzS (x y : Str) : L2.It := ⟨fun i _ => i < min x.cps.size y.cps.size, fun i H v H' => ∃ T c e, v = .ref T ∧ H T = none ∧ H' = upd H T (.tup [.str ⟨#[c]⟩, .str ⟨#[e]⟩]) ∧ x.cps[i]? = some c ∧ y.cps[i]? = some e, fun i _ => min x.cps.size y.cps.size ≤ i⟩
def tnZ (z TI TO i1 i2 : Addr) (x y : Str) (t u : Tok) (i : Nat) (h : Heap) : Prop :=
  i ≤ min x.cps.size y.cps.size ∧ IsZip h z TI TO .none ∧ IsTupOf2 h TI (.ref i1) (.ref i2) ∧ (∃ a1 a2, IsTupOf2 h TO a1 a2) ∧ h.IsStrIter i1 (strIterType x) x t i ∧ h.IsStrIter i2 (strIterType y) y u i
theorem turn_zipS {P : Program} {w : World} {K : PySem.W.Frag} {elts : List Expr} {kk : Nat} {tpos : Pos} {z TI TO i1 i2 : Addr} (x y : Str) (t u : Tok) (S : ZipSep2 z TI TO i1 i2 [i1] [i2]) :
    Turn P w K (.Tuple elts kk tpos) (ItzS x y) (z :: TI :: TO :: ([i1] ++ [i2])) z (tnZ z TI TO i1 i2 x y t u) where
  mem := by simp
  obj := fun i h st c hc => by
    obtain ⟨_, hz, hTI, ⟨x0, y0, hTO⟩, ⟨o1, e1, _, d1⟩, ⟨o2, e2, _, d2⟩⟩ := st
    have e' : c = z ∨ c = TI ∨ c = TO ∨ c = i1 ∨ c = i2 := by simpa using hc
    rcases e' with q | q | q | q | q
    · rw [q]; exact ⟨_, hz, fun v q => nomatch q⟩
    · rw [q]; exact ⟨_, hTI, fun v q => nomatch q⟩
    · rw [q]; exact ⟨_, hTO, fun v q => nomatch q⟩
    · rw [q]; exact ⟨o1, e1, fun v q => by rw [d1] at q; cases q⟩
    · rw [q]; exact ⟨o2, e2, fun v q => by rw [d2] at q; cases q⟩
  keep := fun i h h' st k => by
    obtain ⟨hi, hz, hTI, ⟨x0, y0, hTO⟩, h1, h2⟩ := st
    exact ⟨hi, k z (by simp) _ hz, k TI (by simp) _ hTI, ⟨x0, y0, k TO (by simp) _ hTO⟩, (let ⟨o, e, c, d⟩ := h1; ⟨o, k i1 (by simp) o e, c, d⟩), (let ⟨o, e, c, d⟩ := h2; ⟨o, k i2 (by simp) o e, c, d⟩)⟩
  item := by
    intro X hP hw hK hc i pins s σ H E I hf st hg
    subst hP hw hK
    have hd := I.ok.hd hc
    have W := GoesN.zip2 (prog := X.prog) (w := X.w) (A := X.A) (elts := elts) (x1 := kk) (pos := tpos) S (Draws.text (A := X.A.in1) hd i1 x t) (Draws.text (A := X.A.in1) hd i2 y u)
    have hg' : i < min x.cps.size y.cps.size := hg
    refine W.goes i s _ E hg' st.2 fun v h' tk hY st' hk htk => ?_
    obtain ⟨T, a, b, rfl, hT, ⟨c, t1, hc1, rfl⟩, ⟨e, t2, he1, rfl⟩, hTup⟩ := hY
    have new : ObjOk X.prog X.w (upd H T (.tup [.str ⟨#[c]⟩, .str ⟨#[e]⟩])) h' T (.tup [.str ⟨#[c]⟩, .str ⟨#[e]⟩]) :=
      ⟨by show 2 ≤ sizeLine; decide, [.str ⟨#[c]⟩ t1, .str ⟨#[e]⟩ t2], .cons ⟨_, rfl⟩ (.cons ⟨_, rfl⟩ .nil), hTup⟩
    have I1 : Inv X pins σ (upd H T (.tup [.str ⟨#[c]⟩, .str ⟨#[e]⟩])) { s with heap := h', toks := tk } :=
      I.turnedNew (ch := z :: TI :: TO :: ([i1] ++ [i2])) (fun b o hb q => hk b o (fun q' => hb (W.sub b q')) q) hf hT new
    refine ⟨.ref T, _, I1, rfl, ⟨T, c, e, rfl, I.hok.fresh hT, rfl, hc1, he1⟩, ⟨hg', st'⟩, fun b hb => ?_⟩
    have hb0 := (hf b hb).1
    have nT : b ≠ T := by
      intro q
      obtain ⟨_, hz, hTI, ⟨x0, y0, hTO⟩, ⟨o1, e1, _⟩, ⟨o2, e2, _⟩⟩ := st
      have lt : b < s.heap.objs.size := by
        have e' : b = z ∨ b = TI ∨ b = TO ∨ b = i1 ∨ b = i2 := by simpa using hb
        rcases e' with q | q | q | q | q
        · rw [q]; exact Heap.lt_size hz
        · rw [q]; exact Heap.lt_size hTI
        · rw [q]; exact Heap.lt_size hTO
        · rw [q]; exact Heap.lt_size e1
        · rw [q]; exact Heap.lt_size e2
      rw [q] at lt
      exact absurd (Nat.lt_of_lt_of_le lt hT) (Nat.lt_irrefl _)
    rw [upd_ne nT]
    exact hb0
  done := by
    intro X hP hw hK hc i pins s σ H E I hf st hg
    subst hP hw hK
    have hd := I.ok.hd hc
    have W := GoesN.zip2 (prog := X.prog) (w := X.w) (A := X.A) (elts := elts) (x1 := kk) (pos := tpos) S (Draws.text (A := X.A.in1) hd i1 x t) (Draws.text (A := X.A.in1) hd i2 y u)
    have e : i = min x.cps.size y.cps.size := Nat.le_antisymm st.1 hg
    subst e
    exact W.stops s _ E st.2 fun h' tk hk htk => I.turnedL (ch := z :: TI :: TO :: ([i1] ++ [i2])) (fun b o hb q => hk b o (fun q' => hb (W.sub b q')) q) hf
  self := fun A i s Q E st h => wpAny_pyIter_zip st.2.1 h
def iZipS (ta : TA) : TI := fun σ H R => ta σ H fun vs H1 => ∃ x y, vs = [.str x, .str y] ∧ R (ItzS x y) H1
theorem pi_zipS {X : Cx} {e e2 : Expr} {ta : TA} {p pos tpos : Pos} {elts : List Expr} {kk : Nat} (hg : Gl X "zip") (hm : X.mg "zip" = none) (ha : PA X [e, e2] ta)
    (hs : starEach [e, e2] X.env = (false, eval e X.env) :: starEach [e2] X.env) (hpl : (backTo pos (starEach [e2] X.env)).any (·.1) = false) :
    PI X (.Tuple elts kk tpos) (.Call (.Name "zip" p) [e, e2] [] pos) (iZipS ta) := by
  refine ⟨fun pins s σ H R I h => ?_⟩
  refine Call_ (ld_blt I hg hm PyProof.Rows.boot_zip (PyProof.Rows.callWith_type1 (thn (ha.run pos pins s σ H _ I h) fun us s1 ⟨vs, H1, I1, r1, q1⟩ => ?_) hs hpl))
  obtain ⟨x, y, ex, q1⟩ := q1
  subst ex
  cases r1 with
  | cons r rr =>
    cases rr with
    | cons r' rr =>
      cases rr
      obtain ⟨t, rfl⟩ := r
      obtain ⟨u, rfl⟩ := r'
      have S : ZipSep2 (s1.heap.objs.size + 4) (s1.heap.objs.size + 2) (s1.heap.objs.size + 3) s1.heap.objs.size (s1.heap.objs.size + 1) [s1.heap.objs.size] [s1.heap.objs.size + 1] :=
        zip_sep2 (fp1 := []) (fp2 := []) (fun b hb => by cases hb) (fun b hb => by cases hb)
      refine zip_begins2 (begins_text x t) (begins_text y u) trivial trivial fun h' hz hTI hTO h1 h2 hsz hk => wpAny_pyIter_zip hz ?_
      have I2 : Inv X pins σ H1 { s1 with heap := h' } := I1.kept (t' := s1.toks) hk
      refine ⟨s1.heap.objs.size + 4, _, _, ItzS x y, H1, rfl, I2, turn_zipS x y t u S, ⟨Nat.zero_le _, hz, hTI, ⟨_, _, hTO⟩, ⟨_, h1, rfl, rfl⟩, ⟨_, h2, rfl, rfl⟩⟩, fun c hcm => ?_, q1⟩
      have e' : c = s1.heap.objs.size + 4 ∨ c = s1.heap.objs.size + 2 ∨ c = s1.heap.objs.size + 3 ∨ c = s1.heap.objs.size ∨ c = s1.heap.objs.size + 1 := by simpa using hcm
      have hle : s1.heap.objs.size ≤ c := by
        rcases e' with z | z | z | z | z
        · rw [z]; exact Nat.le_add_right _ _
        · rw [z]; exact Nat.le_add_right _ _
        · rw [z]; exact Nat.le_add_right _ _
        · rw [z]; exact Nat.le_refl _
        · rw [z]; exact Nat.le_add_right _ _
      exact I1.fpOk hle (I1.hok.fresh hle)
theorem zipD_get : ∀ {xs ys : List D} {i : Nat} {d : D}, (zipD xs ys)[i]? = some d → ∃ x y, xs[i]? = some x ∧ ys[i]? = some y ∧ d = .tup [x, y]
  | [], _, _, _, h => by simp [zipD] at h
  | _ :: _, [], _, _, h => by simp [zipD] at h
  | x :: xs, y :: ys, 0, d, h => by
    simp only [zipD, List.getElem?_cons_zero, Option.some.injEq] at h
    exact ⟨x, y, by simp, by simp, h.symm⟩
  | x :: xs, y :: ys, i + 1, d, h => by
    simp only [zipD, List.getElem?_cons_succ] at h
    obtain ⟨a, b, h1, h2, h3⟩ := zipD_get h
    exact ⟨a, b, by simpa using h1, by simpa using h2, h3⟩
theorem zipD_len : ∀ xs ys : List D, (zipD xs ys).length = min xs.length ys.length
  | [], _ => by simp [zipD]
  | _ :: _, [] => by simp [zipD]
  | x :: xs, y :: ys => by simp only [zipD, List.length_cons, zipD_len xs ys]; omega
section
variable {K : PySem.W.Frag} {F F1 L : AP} {H H1 : Hp}
theorem upd_grow {p : Addr} {xs : List V} (hF : ∀ a, F a → H a ≠ none) (hp : H p = none) : Grow F (fun a => F a ∨ a = p) H (upd H p (.tup xs)) :=
  ⟨fun a u e _ => upd_free hp a u e, fun _ e => .inl e, fun a e => e.elim .inl fun z => .inr (by rw [z]; exact hp), (fun a e z => by
    by_cases q : a = p
    · subst q; rw [upd_same] at z; cases z
    · rw [upd_ne q] at z; exact e.elim (fun e => hF a e z) q), upd_ne0, upd_tb hp⟩
theorem walk_zipS {s t : List Nat} (ok : okS s) (ok' : okS t) : WalkOk K L F1 H1 (zipD (s.map fun c => D.str [c]) (t.map fun c => D.str [c])) (ItzS (sOf s) (sOf t)) := by
  intro i H F st
  have em : min (sOf s).cps.size (sOf t).cps.size = min s.length t.length := by simp [sOf]
  refine ⟨fun d hd => ?_, fun hi => ?_⟩
  · obtain ⟨x, y, hx, hy, rfl⟩ := zipD_get hd
    rw [List.getElem?_map, Option.map_eq_some_iff] at hx hy
    obtain ⟨c, hc, rfl⟩ := hx
    obtain ⟨e, he, rfl⟩ := hy
    have h1 : i < s.length := (List.getElem?_eq_some_iff.mp hc).1
    have h2 : i < t.length := (List.getElem?_eq_some_iff.mp he).1
    refine ⟨by show i < min _ _; rw [em]; omega, fun u H' yl => ?_⟩
    obtain ⟨T, c', e', rfl, hT, rfl, hc', he'⟩ := yl
    have ec : c' = c := by
      have hc2 : s[i]? = some c' := by simpa [sOf] using hc'
      rw [hc] at hc2
      exact (Option.some.inj hc2).symm
    have ee : e' = e := by
      have hc2 : t[i]? = some e' := by simpa [sOf] using he'
      rw [he] at hc2
      exact (Option.some.inj hc2).symm
    subst ec ee
    refine ⟨_, upd_grow st.st hT, ?_⟩
    simp only [Rep]
    refine ⟨T, _, rfl, .inl ⟨.inr rfl, upd_same⟩, ?_, by simp [D.isFrzL, D.isFrz], by trivial⟩
    have o1 := ok.mem (List.mem_of_getElem? hc)
    have o2 := ok'.mem (List.mem_of_getElem? he)
    simp only [RepL, Rep]
    exact ⟨_, _, [], [], rfl, ⟨rfl, rfl, o1⟩, ⟨_, _, [], [], rfl, ⟨rfl, rfl, o2⟩, ⟨rfl, rfl⟩, rfl⟩, rfl⟩
  · show min _ _ ≤ i
    rw [em]
    simpa [zipD_len] using hi
end
end PV

set_option Elab.async false
set_option linter.all false
set_option maxRecDepth 100000
set_option maxHeartbeats 8000000
/-! PV, part G: expressions are sound. -/
namespace PV
open PySem PySem.Spec PyProof.Rows L2
theorem back_any (pos : Pos) : ∀ {xs : List Expr} {env : PySem.Env}, (∀ x ∈ xs, plainX x = true) → (backTo pos (starEach xs env)).any (·.1) = false
  | [], _, _ => rfl
  | x :: xs, env, h => by
    rw [star_of (h x List.mem_cons_self)]
    show ((false : Bool) || (backTo pos (starEach xs env)).any (·.1)) = false
    rw [back_any pos fun y hy => h y (List.mem_cons_of_mem _ hy)]
    rfl
theorem star_all : ∀ {xs : List Expr} {env : PySem.Env}, (∀ x ∈ xs, plainX x = true) → starEach xs env = xs.map fun x => (false, eval x env)
  | [], _, _ => rfl
  | x :: xs, env, h => by
    rw [star_of (h x List.mem_cons_self), star_all fun y hy => h y (List.mem_cons_of_mem _ hy)]; rfl
section
variable {T : Tab} {B : AP} {G : Glob} {cf : Nat → List D → Option D} {k : Nat}
/-- an expression's soundness -/
structure Snd (K : PySem.W.Frag) (B : AP) (G : Glob) (cf : Nat → List D → Option D) (X : Cx) (e : E) (x : Expr) : Prop where
  pe : PE X x (tE K B G cf e)
  pt : isIf x = false → PT X x (tT K B G cf e)
  pw : isBO x = true → PW X x (tT K B G cf e)
/-- by a rule for values, the test by truth -/
theorem Snd.val {K : PySem.W.Frag} {X : Cx} {e : E} {x : Expr} (h : PE X x (tE K B G cf e)) (hb : isBO x = false) (he : ∀ whole, isTrue x X.env whole = (do let v ← whole; standAt x.pos; holding [v] (truthy v))) : Snd K B G cf X e x :=
  ⟨h, fun _ => (pt_val h he).imp fun σ H Q q => tT_tE q, fun q => by rw [hb] at q; cases q⟩
theorem gl_of {N : List Str} {sc : Scope} {X : Cx} (o : OkX T B G cf k N sc X) {x : Str} (h : glb sc x = true) : Gl X x := by
  unfold Gl PySem.Env.kindOf
  rw [o.hsc]
  exact glb_ok h
theorem units_of {N : List Str} {sc : Scope} {X : Cx} (o : OkX T B G cf k N sc X) : X.A.units + 65 < cLine := by
  have := o.room.un
  omega
variable {N : List Str} {sc : Scope} {X : Cx}
theorem snd_bin {b : BO} {a c : E} {l r : Expr} {op : Operator} {pos : Pos} (o : OkX T B G cf k N sc X) (ho : op = b.op) (ha : Snd X.K B G cf X a l) (hc : Snd X.K B G cf X c r) : Snd X.K B G cf X (.bin b a c) (.BinOp l op r pos) := by
  subst ho
  refine .val ((pe_op (op_BO b) ha.pe hc.pe).imp fun σ H Q q => ?_) rfl fun _ => rfl
  obtain ⟨F, L, env, d, s, h, kk⟩ := q
  simp only [ev, Option.bind_eq_some_iff] at h
  obtain ⟨x, hx, y, hy, h⟩ := h
  exact two s hx hy fun v w H' F' fv fw g n1 n2 _ => binop_ok h n1.rep n2.rep g.st (kk.grow g)
theorem snd_cmp {b : CO} {a c : E} {l r : Expr} {op : CmpOp} {pos : Pos} (o : OkX T B G cf k N sc X) (ho : op = b.op) (hr : plainX r = true) (ha : Snd X.K B G cf X a l) (hc : Snd X.K B G cf X c r) : Snd X.K B G cf X (.cmp b a c) (.Compare l [op] [r] pos) := by
  subst ho
  have red : ∀ σ H Q, tE X.K B G cf (.cmp b a c) σ H Q → tOp (rCO X.K b) (tE X.K B G cf a) (tE X.K B G cf c) σ H Q := fun σ H Q q => by
    obtain ⟨F, L, env, d, s, h, kk⟩ := q
    simp only [ev, Option.bind_eq_some_iff, Option.map_eq_some_iff] at h
    obtain ⟨x, hx, y, hy, z, h, rfl⟩ := h
    exact two s hx hy fun v w H' F' fv fw g n1 n2 _ => cmpop_ok h n1.rep n2.rep ((kk.grow g).bl g.st)
  exact ⟨(pe_cmpR (op_CO (units_of o) b) ha.pe hc.pe (mark_of hr _)).imp red, fun _ => (pt_cmpR (op_CO (units_of o) b) ha.pe hc.pe (mark_of hr _)).imp fun σ H Q q => red σ H _ (tT_tE q), fun q => by cases q⟩
theorem snd_isN {n : Bool} {a : E} {l : Expr} {op : CmpOp} {pos p2 : Pos} {j : Nat} (o : OkX T B G cf k N sc X) (ho : op = if n then .IsNot else .Is) (ha : Snd X.K B G cf X a l) : Snd X.K B G cf X (.isN n a) (.Compare l [op] [.Constant .none j p2] pos) := by
  have dec : ∀ {x : D} {v : V} {F L : AP} {H : Hp} {fp : List Addr}, Rep X.K F L H x v fp → decide (v = V.non) = x.isNon := fun {x v F L H fp} r => by
    cases x with
    | non => rw [r.non_]; rfl
    | bl _ => rw [r.bl_]; rfl
    | int _ => rw [r.int_]; rfl
    | str _ => rw [r.str_]; rfl
    | tup _ => obtain ⟨a, _, rfl, _⟩ := r.tup_; rfl
    | lst _ _ => obtain ⟨a, _, _, rfl, _⟩ := r.sqL; rfl
    | scr _ => simp only [Rep] at r; obtain ⟨a, rfl, _⟩ := r; rfl
  have red : ∀ σ H Q, tE X.K B G cf (.isN n a) σ H Q → tE X.K B G cf a σ H fun x H1 => Q (.bl (if n then !decide (x = V.non) else decide (x = V.non))) H1 := fun σ H Q q => by
    obtain ⟨F, L, env, d, s, h, kk⟩ := q
    simp only [ev, Option.map_eq_some_iff] at h
    obtain ⟨x, hx, rfl⟩ := h
    refine ⟨F, L, env, x, s, hx, fun v H' F' fv g nv => ?_⟩
    show Q (V.bl (if n = true then !decide (v = V.non) else decide (v = V.non))) H'
    rw [dec nv.rep]
    exact (kk.grow g).bl g.st
  cases n with
  | false =>
    have ho : op = .Is := ho
    subst ho
    exact ⟨(pe_cmp (pc_isN ha.pe) rfl).imp red, fun _ => (pt_cmp (pc_isN ha.pe) rfl).imp fun σ H Q q => red σ H _ (tT_tE q), fun q => by cases q⟩
  | true =>
    have ho : op = .IsNot := ho
    subst ho
    exact ⟨(pe_cmp (pc_notN ha.pe) rfl).imp red, fun _ => (pt_cmp (pc_notN ha.pe) rfl).imp fun σ H Q q => red σ H _ (tT_tE q), fun q => by cases q⟩
theorem snd_isB {n b : Bool} {a : E} {l : Expr} {op : CmpOp} {pos p2 : Pos} {j : Nat} (o : OkX T B G cf k N sc X) (ho : op = if n then .IsNot else .Is) (ha : Snd X.K B G cf X a l) : Snd X.K B G cf X (.isB n b a) (.Compare l [op] [.Constant (.bool b) j p2] pos) := by
  have red : ∀ σ H Q, tE X.K B G cf (.isB n b a) σ H Q → tOp (if n then rNotB else rIsB) (tE X.K B G cf a) (tC (.bl b)) σ H Q := fun σ H Q q => by
    obtain ⟨F, L, env, d, s, h, kk⟩ := q
    simp only [ev, Option.bind_eq_some_iff] at h
    obtain ⟨x, hx, h⟩ := h
    refine ⟨F, L, env, x, s, hx, fun v H' F' fv g nv => ?_⟩
    have kk' := kk.grow g
    cases x with
    | bl c =>
      simp only [Option.some.injEq] at h
      subst h
      show (if n then rNotB else rIsB) v (.bl b) H' Q
      rw [nv.rep.bl_]
      cases n with
      | true => exact ⟨c, b, rfl, rfl, kk'.bl g.st⟩
      | false => exact ⟨c, b, rfl, rfl, kk'.bl g.st⟩
    | _ => cases h
  cases n with
  | false =>
    have ho : op = .Is := ho
    subst ho
    exact ⟨(pe_cmpR op_isBl ha.pe pe_bl rfl).imp red, fun _ => (pt_cmpR op_isBl ha.pe pe_bl rfl).imp fun σ H Q q => red σ H _ (tT_tE q), fun q => by cases q⟩
  | true =>
    have ho : op = .IsNot := ho
    subst ho
    exact ⟨(pe_cmpR op_notBl ha.pe pe_bl rfl).imp red, fun _ => (pt_cmpR op_notBl ha.pe pe_bl rfl).imp fun σ H Q q => red σ H _ (tT_tE q), fun q => by cases q⟩
theorem and_T {a b : E} {σ : L2.St} {H : Hp} {Q : Bool → Hp → Prop} (K : PySem.W.Frag) (h : tT K B G cf (.and a b) σ H Q) : tAnd (tT K B G cf a) (tT K B G cf b) σ H Q := by
  obtain ⟨F, L, env, c, s, h, kk⟩ := h
  have h := asBl_some h
  simp only [ev, Option.bind_eq_some_iff] at h
  obtain ⟨x, hx, h⟩ := h
  refine ⟨F, L, env, x, s, hx, fun F' H' g => ?_⟩
  cases x with
  | true =>
    rw [if_pos rfl] at h ⊢
    exact ⟨F', L, env, c, s.grow g, by rw [h]; rfl, fun F2 H2 g2 => kk F2 H2 (g.trans g2)⟩
  | false =>
    rw [if_neg Bool.false_ne_true] at h ⊢
    cases h
    exact kk F' H' g
theorem or_T {a b : E} {σ : L2.St} {H : Hp} {Q : Bool → Hp → Prop} (K : PySem.W.Frag) (h : tT K B G cf (.or a b) σ H Q) : tOr (tT K B G cf a) (tT K B G cf b) σ H Q := by
  obtain ⟨F, L, env, c, s, h, kk⟩ := h
  have h := asBl_some h
  simp only [ev, Option.bind_eq_some_iff] at h
  obtain ⟨x, hx, h⟩ := h
  refine ⟨F, L, env, x, s, hx, fun F' H' g => ?_⟩
  cases x with
  | false =>
    rw [if_neg Bool.false_ne_true] at h ⊢
    exact ⟨F', L, env, c, s.grow g, by rw [h]; rfl, fun F2 H2 g2 => kk F2 H2 (g.trans g2)⟩
  | true =>
    rw [if_pos rfl] at h ⊢
    cases h
    exact kk F' H' g
theorem and_E {a b : E} {σ : L2.St} {H : Hp} {Q : VK} (K : PySem.W.Frag) (h : tE K B G cf (.and a b) σ H Q) : tAndV (tE K B G cf a) (tE K B G cf b) σ H Q := by
  obtain ⟨F, L, env, d, s, h, kk⟩ := h
  simp only [ev, Option.bind_eq_some_iff] at h
  obtain ⟨x, hx, h⟩ := h
  refine ⟨F, L, env, .bl x, s, asBl_some hx, fun v H' F' fv g nv => ⟨x, nv.rep.bl_, ?_⟩⟩
  cases x with
  | true =>
    rw [if_pos rfl] at h ⊢
    exact ⟨F', L, env, d, s.grow g, h, kk.grow g⟩
  | false =>
    rw [if_neg Bool.false_ne_true] at h ⊢
    cases h
    exact (kk.grow g).bl g.st
theorem or_E {a b : E} {σ : L2.St} {H : Hp} {Q : VK} (K : PySem.W.Frag) (h : tE K B G cf (.or a b) σ H Q) : tOrV (tE K B G cf a) (tE K B G cf b) σ H Q := by
  obtain ⟨F, L, env, d, s, h, kk⟩ := h
  simp only [ev, Option.bind_eq_some_iff] at h
  obtain ⟨x, hx, h⟩ := h
  refine ⟨F, L, env, .bl x, s, asBl_some hx, fun v H' F' fv g nv => ⟨x, nv.rep.bl_, ?_⟩⟩
  cases x with
  | false =>
    rw [if_neg Bool.false_ne_true] at h ⊢
    exact ⟨F', L, env, d, s.grow g, h, kk.grow g⟩
  | true =>
    rw [if_pos rfl] at h ⊢
    cases h
    exact (kk.grow g).bl g.st
theorem not_red {a : E} {σ : L2.St} {H : Hp} {Q : VK} (K : PySem.W.Frag) (h : tE K B G cf (.not a) σ H Q) : tNotV (tE K B G cf a) σ H Q := by
  obtain ⟨F, L, env, d, s, h, kk⟩ := h
  simp only [ev, Option.map_eq_some_iff] at h
  obtain ⟨x, hx, rfl⟩ := h
  exact ⟨F, L, env, .bl x, s, asBl_some hx, fun v H' F' fv g nv => ⟨x, nv.rep.bl_, (kk.grow g).bl g.st⟩⟩
theorem not_T {a : E} {σ : L2.St} {H : Hp} {Q : Bool → Hp → Prop} (K : PySem.W.Frag) (h : tT K B G cf (.not a) σ H Q) : tNot (tT K B G cf a) σ H Q := by
  obtain ⟨F, L, env, d, s, h, kk⟩ := h
  have h := asBl_some h
  simp only [ev, Option.map_eq_some_iff] at h
  obtain ⟨x, hx, e⟩ := h
  have e : d = !x := by injection e with e; exact e.symm
  subst e
  exact ⟨F, L, env, x, s, hx, fun F' H' g => kk F' H' g⟩
theorem snd_neg {a : E} {x : Expr} {pos : Pos} (ha : Snd X.K B G cf X a x) : Snd X.K B G cf X (.neg a) (.UnaryOp .USub x pos) := by
  refine .val ((pe_un un_neg ha.pe).imp fun σ H Q q => ?_) rfl fun _ => rfl
  obtain ⟨F, L, env, d, s, h, kk⟩ := q
  simp only [ev, Option.bind_eq_some_iff] at h
  obtain ⟨x, hx, h⟩ := h
  refine ⟨F, L, env, x, s, hx, fun v H' F' fv g nv => ?_⟩
  cases x with
  | int i =>
    simp only [Option.some.injEq] at h
    subst h
    exact ⟨i, nv.rep.int_, (kk.grow g).int g.st⟩
  | _ => cases h
theorem snd_idx {a b : E} {x y : Expr} {pos : Pos} (hy : plainX y = true) (ha : Snd X.K B G cf X a x) (hb : Snd X.K B G cf X b y) : Snd X.K B G cf X (.idx a b) (.Subscript x y pos) := by
  refine .val ((pe_ix ix_seq ha.pe hb.pe (plainIx_of hy)).imp fun σ H Q q => ?_) rfl fun _ => rfl
  obtain ⟨F, L, env, d, s, h, kk⟩ := q
  simp only [ev, Option.bind_eq_some_iff] at h
  obtain ⟨x, hx, y, hy, h⟩ := h
  exact two s hx hy fun v w H' F' fv fw g n1 n2 _ => idxop_ok h n1.rep n2.rep fun u fu ru sub => kk u H' F' fu g ⟨ru, n1.nd.sublist sub, fun c hc => n1.fresh c (sub.subset hc)⟩
theorem snd_slc {a lo hi : E} {x : Expr} {l h' : Option Expr} {p2 pos : Pos} (ha : Snd X.K B G cf X a x) (hl : PO X l (tP X.K B G cf lo)) (hh : PO X h' (tP X.K B G cf hi)) : Snd X.K B G cf X (.slc a lo hi) (.Subscript x (.Slice l h' none p2) pos) := by
  refine .val ((pe_slice sl_any ha.pe hl hh).imp fun σ H Q q => ?_) rfl fun _ => rfl
  obtain ⟨F, L, env, d, s, h, kk⟩ := q
  simp only [ev, Option.bind_eq_some_iff] at h
  obtain ⟨x, hx, l, hl, u, hu, h⟩ := h
  refine ⟨F, L, env, x, s, hx, fun v H1 F1 fv g1 n1 => ⟨F1, L, env, l, s.grow g1, hl, fun F2 H2 g2 => ⟨F2, L, env, u, (s.grow g1).grow g2, hu, fun F3 H3 g3 => ?_⟩⟩⟩
  have g := (g1.trans g2).trans g3
  exact slcop_ok h ((n1.grow g2).grow g3).rep g.st (kk.grow g)
theorem After.of {K : PySem.W.Frag} {F F' L : AP} {H H' : Hp} {d : D} {Q : VK} {v : V} {fp : List Addr} (h : After K F L H d Q) (g : Grow F F' H H') (n : NewV K F' L H H' d v fp) : Q v H' := h v H' F' fp g n
/-- the items of a display are frozen -/
theorem freeze_vs {K : PySem.W.Frag} {F F1 L : AP} {H H1 : Hp} {ds : List D} {vs : List V} {fs : List Addr} (g : Grow F F1 H H1) (n : NewVs K F1 L H H1 ds vs fs) (nl : D.noLckL ds = true) :
    Grow F (fun a => F1 a ∨ a ∈ fs) H H1 ∧ RepL K (fun a => F1 a ∨ a ∈ fs) L H1 (D.frzL ds) vs [] :=
  ⟨⟨g.keep, fun a e => .inl (g.mono a e), fun a e => e.elim (g.new a) fun z => .inr (n.fresh a z).1, (fun a e => e.elim (g.st a) fun z q => by
    obtain ⟨o, e⟩ := n.rep.stand ds a z
    rw [e] at q; cases q), g.ne, g.tb⟩, RepL.freeze ds nl n.rep⟩
theorem freeze_v {K : PySem.W.Frag} {F F1 L : AP} {H H1 : Hp} {d : D} {v : V} {fs : List Addr} (g : Grow F F1 H H1) (n : NewV K F1 L H H1 d v fs) (nl : d.noLck = true) :
    Grow F (fun a => F1 a ∨ a ∈ fs) H H1 ∧ Rep K (fun a => F1 a ∨ a ∈ fs) L H1 d.frz v [] :=
  ⟨⟨g.keep, fun a e => .inl (g.mono a e), fun a e => e.elim (g.new a) fun z => .inr (n.fresh a z).1, (fun a e => e.elim (g.st a) fun z q => by
    obtain ⟨o, e⟩ := n.rep.stand d a z
    rw [e] at q; cases q), g.ne, g.tb⟩, Rep.freeze d nl n.rep⟩
theorem snd_tup {es : Es} {xs : List Expr} {kk : Nat} {pos : Pos} (ha : PA X xs (tEs X.K B G cf es)) : Snd X.K B G cf X (.tup es) (.Tuple xs kk pos) := by
  refine .val ((pe_tup ha).imp fun σ H Q q => ?_) rfl fun _ => rfl
  obtain ⟨F, L, env, d, s, h, kk⟩ := q
  simp only [ev, Option.bind_eq_some_iff] at h
  obtain ⟨ds, hd, h⟩ := h
  split at h
  · rename_i hz
    cases h
    refine ⟨F, L, env, ds, s, hd, fun vs H' F' fs g n => ⟨by rw [n.rep.length, ← line_eq]; exact hz.2, fun p hp => ?_⟩⟩
    obtain ⟨g', r'⟩ := freeze_vs g n hz.1
    exact (kk.grow g').tup g'.st r' (isFrz_frzL ds) hp
  · cases h
theorem snd_lst {es : Es} {xs : List Expr} {pos : Pos} (ha : PA X xs (tEs X.K B G cf es)) : Snd X.K B G cf X (.lst es) (.List xs pos) := by
  refine .val ((pe_lst ha).imp fun σ H Q q => ?_) rfl fun _ => rfl
  obtain ⟨F, L, env, d, s, h, kk⟩ := q
  simp only [ev, Option.bind_eq_some_iff] at h
  obtain ⟨ds, hd, h⟩ := h
  split at h
  · rename_i hz
    cases h
    refine ⟨F, L, env, ds, s, hd, fun vs H' F' fs g n => ⟨by rw [n.rep.length, ← line_eq]; exact hz.2, fun p hp => ?_⟩⟩
    obtain ⟨g', r'⟩ := freeze_vs g n hz.1
    exact (kk.grow g').lst g'.st r' hp
  · cases h
theorem fpL_noOwn0 {K : PySem.W.Frag} {F L : AP} {H : Hp} : ∀ (d : D) {v : V} {fp : List Addr}, d.noOwn = true → Rep K F L H d v fp → fp = []
  | .non, _, _, _, h => by simp only [Rep] at h; exact h.2
  | .bl _, _, _, _, h => by simp only [Rep] at h; exact h.2
  | .int _, _, _, _, h => by simp only [Rep] at h; exact h.2
  | .str _, _, _, _, h => by simp only [Rep] at h; exact h.2.1
  | .scr _, _, _, _, h => by simp only [Rep] at h; obtain ⟨_, _, _, e⟩ := h; exact e
  | .tup l, _, _, _, h => by simp only [Rep] at h; obtain ⟨_, _, _, _, _, _, e⟩ := h; exact e
  | .lst f l, _, _, z, h => by
    simp only [D.noOwn, Bool.and_eq_true] at z
    simp only [Rep] at h
    obtain ⟨_, _, _, _, _, _, q⟩ := h
    cases f with
    | own => exact absurd z.1 (by decide)
    | frz => exact q.2.2.1
    | lck => exact q.2.2
theorem RepL.args {K : PySem.W.Frag} {F L : AP} {H : Hp} : ∀ (ds : List D) {vs : List V} {fp : List Addr}, ds.all D.okD = true → RepL K F L H ds vs fp → RepL K (fun a => F a ∨ a ∈ fp) L H (ds.map D.frzA) vs []
  | [], _, _, _, h => by simp only [RepL, List.map_nil] at h ⊢; exact ⟨h.1, by trivial⟩
  | d :: ds, _, _, n, h => by
    simp only [List.all_cons, Bool.and_eq_true] at n
    simp only [RepL, List.map_cons] at h ⊢
    obtain ⟨v, vr, f1, f2, e, h1, h2, e2⟩ := h
    subst e2
    refine ⟨v, vr, [], [], e, ?_, RepL.mono (fun b q => q.elim .inl fun q => .inr (List.mem_append_right _ q)) (fun _ q => q) _ (fun _ _ q _ _ => q) (RepL.args ds n.2 h2), by trivial⟩
    unfold D.frzA
    split
    · rename_i nl
      exact Rep.mono (fun b q => q.elim .inl fun q => .inr (List.mem_append_left _ q)) (fun _ q => q) _ (fun _ _ q _ _ => q) (Rep.freeze d nl h1)
    · rename_i nl
      have no : d.noOwn = true := by
        have z := n.1
        unfold D.okD at z
        rw [Bool.not_eq_true] at nl
        rw [nl, Bool.false_or] at z
        exact z
      have := fpL_noOwn0 d no h1
      subst this
      exact Rep.mono (fun b q => .inl q) (fun _ q => q) _ (fun _ _ q _ _ => q) h1
theorem freeze_args {K : PySem.W.Frag} {F F1 L : AP} {H H1 : Hp} {ds : List D} {vs : List V} {fs : List Addr} (g : Grow F F1 H H1) (n : NewVs K F1 L H H1 ds vs fs) (ok : ds.all D.okD = true) :
    Grow F (fun a => F1 a ∨ a ∈ fs) H H1 ∧ RepL K (fun a => F1 a ∨ a ∈ fs) L H1 (ds.map D.frzA) vs [] :=
  ⟨⟨g.keep, fun a e => .inl (g.mono a e), fun a e => e.elim (g.new a) fun z => .inr (n.fresh a z).1, (fun a e => e.elim (g.st a) fun z q => by
    obtain ⟨o, e⟩ := n.rep.stand ds a z
    rw [e] at q; cases q), g.ne, g.tb⟩, RepL.args ds ok n.rep⟩
theorem snd_call {f : Nat} {es : Es} {x : Str} {e : Expr} {xs : List Expr} {p pos : Pos} (o : OkX T B G cf k N sc X) (hf : T.fn[f]? = some x) (hg : glb sc x = true) (hn : okName x = true) (hp : ∀ y ∈ e :: xs, plainX y = true) (ha : PA X (e :: xs) (tEs X.K B G cf es)) :
    Snd X.K B G cf X (.call f es) (.Call (.Name x p) (e :: xs) [] pos) := by
  obtain ⟨a, fd, ps, hm, hF, hb, hk, hl⟩ := o.pf.fn f x hf
  obtain ⟨n1, n2, n3⟩ := okName_ok hn
  refine .val ((pe_call hF o.room (gl_of o hg) hm hk hb .nil pass0 ha n1 (star_of (hp e List.mem_cons_self) xs _) (back_any pos fun y hy => hp y (List.mem_cons_of_mem _ hy))).imp fun σ H Q q => ?_) rfl fun _ => rfl
  obtain ⟨F, L, env, d, s, h, kk⟩ := q
  simp only [ev, Option.bind_eq_some_iff] at h
  obtain ⟨ds, hd, h⟩ := h
  split at h
  · rename_i hok
    refine ⟨F, L, env, ds, s, hd, fun vs H1 F1 fs g0 n => ?_⟩
    show spF X.K B cf f ps.length (vs ++ []) H1 Q _
    rw [List.append_nil]
    obtain ⟨g, hr⟩ := freeze_args g0 n hok
    have hlen := hl _ d h
    rw [List.length_map] at hlen
    refine ⟨by rw [n.rep.length, hlen], _, L, _, [], d, hr, List.nodup_nil, (fun c hc => by cases hc), g.st, g.lk s.LH, fun P b => g.tb P (s.tb P b), h, fun v H' F' fv k1 k1n k1t k2 k3 k4 r nd fr => ?_⟩
    have none_of : ∀ c, H1 c = none → H c = none := fun c z => g.free z
    refine kk v H' F' fv ⟨fun c u e dd => k1 c u (g.keep c u e dd) dd fun hc => (by cases hc), fun c e => k2 c (g.mono c e), fun c e => (k3 c e).elim (g.new c) fun z => .inr (z.elim (fun hc => (by cases hc)) (none_of c)), k4, fun c e => k1n c (g.ne c e), fun P e => k1t P (g.tb P e)⟩ ⟨r, nd, fun c hc => ⟨(fr c hc).1.elim (fun hc => (by cases hc)) (none_of c), (fr c hc).2⟩⟩
  · cases h
theorem snd_bi {b : BI} {es : Es} {x : Str} {e : Expr} {xs : List Expr} {p pos : Pos} (o : OkX T B G cf k N sc X) (hx : x = Str.ofString b.nm) (hg : glb sc x = true) (hn : okName x = true) (hp : ∀ y ∈ e :: xs, plainX y = true) (ha : PA X (e :: xs) (tEs X.K B G cf es)) :
    Snd X.K B G cf X (.bi b es) (.Call (.Name x p) (e :: xs) [] pos) := by
  obtain ⟨n1, n2, n3⟩ := okName_ok hn
  have hm : X.mg x = none := o.pf.free x (by rw [hx]; cases b <;> decide +kernel)
  have hv : bootBuiltins x = some b.val := by rw [hx]; exact b.boot
  have st := star_of (hp e List.mem_cons_self) xs X.env
  have bk := back_any (env := X.env) pos fun y hy => hp y (List.mem_cons_of_mem e hy)
  have main : PE X (.Call (.Name x p) (e :: xs) [] pos) (tCB (rBI X.K b) (tEs X.K B G cf es)) := by
    have hc := call_BI (X := X) o.calm (units_of o) b
    unfold BI.val at hc hv
    split at hc
    · rename_i ht
      rw [if_pos ht] at hv
      exact pe_callTy hc (gl_of o hg) hm hv ha n3 n1 st bk
    · rename_i ht
      rw [if_neg ht] at hv
      exact pe_callB hc (gl_of o hg) hm hv ha n3 n1 st bk
  refine .val (main.imp fun σ H Q q => ?_) rfl fun _ => rfl
  obtain ⟨F, L, env, d, s, h, kk⟩ := q
  simp only [ev, Option.bind_eq_some_iff] at h
  obtain ⟨ds, hd, h⟩ := h
  exact ⟨F, L, env, ds, s, hd, fun vs H1 F1 fs g n => biop_ok h n.rep g.st (kk.grow g)⟩
def BT.tyOf (d : D) : Option String := match d with
  | .non => some "NoneType" | .bl _ => some "bool" | .int _ => some "int" | .str _ => some "str" | .tup _ => some "tuple" | .lst _ _ => some "list" | .scr _ => none
theorem inst_ty {d : D} {t : BT} {b : Bool} (h : d.isInst t = some b) : ∃ n, BT.tyOf d = some n ∧ kitB n t.nm = some b := by
  cases d <;> cases t <;> simp only [D.isInst, Option.some.injEq] at h <;> first | (subst h; exact ⟨_, rfl, by decide +kernel⟩) | cases h
theorem rep_ty {K : PySem.W.Frag} {F L : AP} {H : Hp} {d : D} {v : V} {fp : List Addr} {n : String} (r : Rep K F L H d v fp) (h : BT.tyOf d = some n) : TyX K H v (.type n) := by
  cases d with
  | non => cases h; rw [r.non_]; exact .base .non
  | bl _ => cases h; rw [r.bl_]; exact .base (.bl _)
  | int _ => cases h; rw [r.int_]; exact .base (.int _)
  | str _ => cases h; rw [r.str_]; exact .base (.str _)
  | tup l =>
    cases h
    obtain ⟨a, xs, rfl, ta, _⟩ := r.tup_
    rcases ta with ⟨_, e⟩ | ⟨o, its, m, e, c, _⟩
    · exact .base (.tup e)
    · exact .kTuple e c
  | lst f l =>
    cases h
    obtain ⟨a, xs, fp', rfl, ha, _⟩ := r.sqL
    exact .base (.lst ha)
  | scr _ => cases h
theorem BT.boot : ∀ t : BT, bootBuiltins (Str.ofString t.nm) = some (.type t.nm) := by
  intro t
  cases t <;> decide +kernel
theorem snd_inst {t : BT} {a : E} {x y : Str} {e : Expr} {p p2 pos : Pos} (o : OkX T B G cf k N sc X) (hx : x = ("isinstance" : Str)) (hg : glb sc x = true) (hy : y = Str.ofString t.nm) (hg2 : glb sc y = true) (hp : plainX e = true) (ha : Snd X.K B G cf X a e) :
    Snd X.K B G cf X (.inst t a) (.Call (.Name x p) [e, .Name y p2] [] pos) := by
  subst hx hy
  have hm : X.mg ("isinstance" : Str) = none := o.pf.free _ (by decide +kernel)
  have hm2 : X.mg (Str.ofString t.nm) = none := o.pf.free _ (by cases t <;> decide +kernel)
  have hT : PE X (.Name (Str.ofString t.nm) p2) (tC (.ty t.nm)) := pe_bltn (gl_of o hg2) hm2 t.boot rfl (by cases t <;> decide +kernel) (by cases t <;> decide +kernel)
  have main := pe_callB (pos := pos) (p := p) (call_isi (X := X)) (gl_of o hg) hm (by decide +kernel) (pa_cons ha.pe (pa_cons hT pa_nil rfl) (star_of hp _ _)) (by decide) (by decide) (star_of hp _ _) (by rfl)
  refine .val (main.imp fun σ H Q q => ?_) rfl fun _ => rfl
  obtain ⟨F, L, env, d, s, h, kk⟩ := q
  simp only [ev, Option.bind_eq_some_iff, Option.map_eq_some_iff] at h
  obtain ⟨x, hx, b, hb, rfl⟩ := h
  refine ⟨F, L, env, x, s, hx, fun v H1 F1 fv g n => ?_⟩
  obtain ⟨nm, h1, h2⟩ := inst_ty hb
  exact ⟨v, .ty t.nm, _, _, b, rfl, .ty _, rep_ty n.rep h1, kit_ty h2, (kk.grow g).bl g.st⟩
theorem base_of {x : Expr} {y : Str} {env : PySem.Env} (h : isCall x = false) : attributeBase x y env (eval x env) = eval x env := by
  cases x <;> first | rfl | cases h
theorem snd_mth {m : MT} {a b : E} {x z : Expr} {y : Str} {p pos : Pos} (hy : y = Str.ofString m.nm) (hline : (p.endLine == pos.line) = true) (hx : isCall x = false) (hz : plainX z = true) (ha : Snd X.K B G cf X a x) (hb : Snd X.K B G cf X b z) :
    Snd X.K B G cf X (.mth m a (.cons b .nil)) (.Call (.Attribute x y p) [z] [] pos) := by
  subst hy
  have shape : ∀ {m : MT} {x y d : D}, mtop m x [y] = some d → (m = .join ∨ m = .count) ∧ ∃ s, x = .str s := fun {m x y d} h => by
    unfold mtop at h
    split at h <;> first | exact ⟨.inl rfl, _, rfl⟩ | exact ⟨.inr rfl, _, rfl⟩ | cases h
  cases m with
  | join =>
    refine .val ((pe_join ha.pe hb.pe (star_of hz _ _) (base_of hx) hline).imp fun σ H Q q => ?_) rfl fun _ => rfl
    obtain ⟨F, L, env, d, s, h, kk⟩ := q
    simp only [ev, evs, Option.bind_eq_some_iff, Option.map_eq_some_iff] at h
    obtain ⟨x, hx, ds, ⟨y, hy, _, e1, e2⟩, h⟩ := h
    cases e1
    cases e2
    obtain ⟨_, st, rfl⟩ := shape h
    exact ⟨F, L, env, _, s, hx, fun v H1 F1 fv g1 n1 => ⟨⟨_, n1.rep.str_⟩, F1, L, env, y, s.grow g1, hy, fun w H2 F2 fw g2 n2 => by
      have := n1.rep.str_
      subst this
      exact mtop_ok n1.rep.okS h n2.rep (g1.trans g2).st (kk.grow (g1.trans g2))⟩⟩
  | count =>
    refine .val ((pe_m1 F.slot_str_count F.type_str_count mt_count ha.pe hb.pe (star_of hz _ _) (base_of hx) hline).imp fun σ H Q q => ?_) rfl fun _ => rfl
    obtain ⟨F, L, env, d, s, h, kk⟩ := q
    simp only [ev, evs, Option.bind_eq_some_iff, Option.map_eq_some_iff] at h
    obtain ⟨x, hx, ds, ⟨y, hy, _, e1, e2⟩, h⟩ := h
    cases e1
    cases e2
    obtain ⟨_, st, rfl⟩ := shape h
    exact ⟨F, L, env, _, s, hx, fun v H1 F1 fv g1 n1 => ⟨⟨_, n1.rep.str_⟩, F1, L, env, y, s.grow g1, hy, fun w H2 F2 fw g2 n2 => by
      have := n1.rep.str_
      subst this
      exact mcount_ok h n2.rep (g1.trans g2).st (kk.grow (g1.trans g2))⟩⟩
  | _ =>
    refine .val ⟨fun pins s σ H Q I q => ?_⟩ rfl fun _ => rfl
    obtain ⟨F, L, env, d, s, h, kk⟩ := q
    simp only [ev, evs, Option.bind_eq_some_iff, Option.map_eq_some_iff] at h
    obtain ⟨x, hx, ds, ⟨y, hy, _, e1, e2⟩, h⟩ := h
    cases e1
    cases e2
    exact (shape h).1.elim (fun z => by cases z) fun z => by cases z
theorem RepL.rev {K : PySem.W.Frag} {F L : AP} {H : Hp} : ∀ {l : List D} {xs : List V}, RepL K F L H l xs [] → RepL K F L H l.reverse xs.reverse []
  | [], xs, h => by
    simp only [RepL] at h
    rw [h.1]
    simp [RepL]
  | d :: l, xs, h => by
    simp only [RepL] at h
    obtain ⟨v, vr, f1, f2, rfl, h1, h2, e⟩ := h
    obtain ⟨e1, e2⟩ := List.append_eq_nil_iff.mp e.symm
    subst e1 e2
    have one : RepL K F L H [d] [v] [] := by
      simp only [RepL]
      exact ⟨v, [], [], [], rfl, h1, ⟨rfl, rfl⟩, rfl⟩
    rw [List.reverse_cons, List.reverse_cons]
    simpa using (RepL.rev h2).app one
theorem snd_rev {a : E} {x : Expr} {k : Nat} {p1 p2 p3 pos : Pos} (ha : Snd X.K B G cf X a x) : Snd X.K B G cf X (.rev a) (.Subscript x (.Slice none none (some (.UnaryOp .USub (.Constant (.int 1) k p1) p2)) p3) pos) := by
  refine .val ((pe_revL ha.pe).imp fun σ H Q q => ?_) rfl fun _ => rfl
  obtain ⟨F, L, env, d, s, h, kk⟩ := q
  simp only [ev, Option.bind_eq_some_iff] at h
  obtain ⟨x, hx, h⟩ := h
  refine ⟨F, L, env, x, s, hx, fun v H1 F1 fv g n => ?_⟩
  cases x with
  | lst f l =>
    simp only [revop] at h
    split at h
    · rename_i hz
      simp only [Option.some.injEq] at h; subst h
      obtain ⟨a, xs, rfl, ha, hl⟩ := n.rep.frzL_ hz
      exact ⟨a, xs, rfl, SqL.of ha, fun p hp => (kk.grow g).lst g.st hl.rev hp⟩
    · cases h
  | _ => simp [revop] at h
end
end PV

set_option Elab.async false
set_option linter.all false
set_option maxRecDepth 100000
set_option maxHeartbeats 8000000
/-! PV, part H: comprehensions, and all expressions. -/
namespace PV
open PySem PySem.Spec PyProof.Rows L2
theorem wipe_get (σ : L2.St) (i : Nat) : ∀ vs : List Nat, (wipe σ vs)[i]? = if i ∈ vs then (σ[i]?).map (fun _ => none) else σ[i]?
  | [] => by simp [wipe]
  | v :: vs => by
    unfold wipe
    rw [List.getElem?_set]
    by_cases h : v = i
    · subst h
      simp only [if_true, List.mem_cons, true_or, if_true]
      rw [wipe_length]
      by_cases hl : v < σ.length
      · simp [hl]
      · simp [hl]
    · rw [if_neg h, wipe_get σ i vs]
      have : (i = v ∨ i ∈ vs) ↔ i ∈ vs := ⟨fun q => q.resolve_left (Ne.symm h), .inr⟩
      simp only [List.mem_cons, this]
theorem wipe_eq {σ σ' : L2.St} {vs : List Nat} (hl : σ'.length = σ.length) (h : ∀ i, i ∉ vs → σ'[i]? = σ[i]?) : wipe σ' vs = wipe σ vs := by
  refine List.ext_getElem? fun i => ?_
  rw [wipe_get, wipe_get]
  by_cases hi : i ∈ vs
  · rw [if_pos hi, if_pos hi]
    by_cases hb : i < σ.length
    · rw [List.getElem?_eq_getElem hb, List.getElem?_eq_getElem (by omega)]; rfl
    · rw [List.getElem?_eq_none (by omega), List.getElem?_eq_none (by omega)]
  · rw [if_neg hi, if_neg hi, h i hi]
theorem wipe_wipe (σ : L2.St) (vs : List Nat) : wipe (wipe σ vs) vs = wipe σ vs := wipe_eq (wipe_length _ _) fun i hi => by rw [wipe_get, if_neg hi]
/-! ### targets -/
def gNs : List Nat → TGs
  | [] => gNil
  | i :: is => gCons (gName i) (gNs is)
def gT (K : PySem.W.Frag) : Tg → TG
  | .name i => gName i
  | .tup is => gTup K is.length (gNs is)
theorem ae_len {env : PySem.Env} : ∀ {es : List Expr} {N : List Str} {sc : Scope} {is : List Nat}, chkNs N sc is es = true → (assignEach es env).length = is.length ∧ (assignEach es env).findIdx? (·.1) = none
  | [], N, sc, [], _ => ⟨rfl, rfl⟩
  | [], N, sc, _ :: _, h => by simp [chkNs] at h
  | e :: es, N, sc, [], h => by cases e <;> simp [chkNs] at h
  | e :: es, N, sc, i :: is, h => by
    cases e <;> simp only [chkNs, Bool.false_eq_true] at h
    simp only [Bool.and_eq_true] at h
    obtain ⟨h1, h2⟩ := ae_len (env := env) h.2
    constructor
    · show (assignEach es env).length + 1 = is.length + 1
      rw [h1]
    · show ((false, _) :: assignEach es env).findIdx? (·.1) = none
      rw [List.findIdx?_cons]
      simp [h2]
theorem pg_ns {X : Cx} (hN : X.N.Nodup) : ∀ {es : List Expr} {is : List Nat}, chkNs X.N X.env.scope is es = true → PGs X es (gNs is)
  | [], [], _ => pgs_nil
  | [], _ :: _, h => by simp [chkNs] at h
  | e :: es, [], h => by cases e <;> simp [chkNs] at h
  | e :: es, i :: is, h => by
    cases e <;> simp only [chkNs, Bool.false_eq_true] at h
    simp only [Bool.and_eq_true, beq_iff_eq] at h
    obtain ⟨⟨h1, h2⟩, h3⟩ := h
    exact pgs_cons (pg_name hN h1 (.inl (lcl_ok h2)) (.inr (lcl_ok h2))) (pg_ns hN h3) rfl
theorem pg_T {X : Cx} (hN : X.N.Nodup) (hc : X.calm = true) {tg : Tg} {e : Expr} (h : chkTg X.N X.env.scope tg e = true) : PG X e (gT X.K tg) := by
  cases tg with
  | name i =>
    cases e <;> simp only [chkTg, Bool.false_eq_true] at h
    simp only [Bool.and_eq_true, beq_iff_eq] at h
    exact pg_name hN h.1 (.inl (lcl_ok h.2)) (.inr (lcl_ok h.2))
  | tup is =>
    cases e <;> simp only [chkTg, Bool.false_eq_true] at h
    obtain ⟨h1, h2⟩ := ae_len (env := X.env) h
    exact pg_tup hc (pg_ns hN h) h1 h2
/-- all but some slots stand for the evaluator's -/
structure SXp (bad : List Nat) (K : PySem.W.Frag) (B F L : AP) (H : Hp) (σ : L2.St) (env : Env) : Prop where
  len : σ.length = env.length
  rep : ∀ (i : Nat) (d : D), i ∉ bad → env[i]? = some (some d) → ∃ v, σ[i]? = some (some v) ∧ Rep K F L H d.lock v []
section
variable {K : PySem.W.Frag} {B F L : AP} {H : Hp}
theorem SXp.set {bad : List Nat} {σ : L2.St} {env env' : Env} {i : Nat} {d : D} {v : V} (s : SXp (i :: bad) K B F L H σ env) (r : Rep K F L H d v []) (h : setF env i d = some env') :
    SXp bad K B F L H (σ.set i (some v)) env' ∧ (σ.set i (some v)).length = σ.length ∧ ∀ j, j ≠ i → (σ.set i (some v))[j]? = σ[j]? := by
  unfold setF at h
  split at h
  · rename_i hz
    cases h
    refine ⟨⟨by simp [s.len], fun j d' hj e => ?_⟩, by simp, fun j hj => List.getElem?_set_ne (Ne.symm hj)⟩
    by_cases hij : j = i
    · subst hij
      rw [List.getElem?_set_self (by exact hz.1)] at e
      cases e
      refine ⟨v, List.getElem?_set_self (by rw [s.len]; exact hz.1), ?_⟩
      rw [lock_of d hz.2]
      exact r
    · rw [List.getElem?_set_ne (Ne.symm hij)] at e ⊢
      exact s.rep j d' (by simp [hij, hj]) e
  · cases h
theorem bind_ns : ∀ {is : List Nat} {ds : List D} {vs : List V} {bad : List Nat} {σ : L2.St} {env env' : Env} {Q : L2.St → Hp → Prop}, SXp (is ++ bad) K B F L H σ env → RepL K F L H ds vs [] → setEs is ds env = some env' →
    (∀ σ', SXp bad K B F L H σ' env' → σ'.length = σ.length → (∀ j, j ∉ is → σ'[j]? = σ[j]?) → Q σ' H) → gNs is vs σ H Q
  | [], [], vs, bad, σ, env, env', Q, s, r, h, k => by
    simp only [RepL] at r
    simp only [setEs, Option.some.injEq] at h
    subst h
    exact ⟨r.1, k σ s rfl fun _ _ => rfl⟩
  | i :: is, d :: ds, vs, bad, σ, env, env', Q, s, r, h, k => by
    simp only [RepL] at r
    obtain ⟨v, vr, f1, f2, e, h1, h2, e2⟩ := r
    obtain ⟨rfl, rfl⟩ : f1 = [] ∧ f2 = [] := List.append_eq_nil_iff.mp e2.symm
    simp only [setEs, Option.bind_eq_some_iff] at h
    obtain ⟨env1, he, h⟩ := h
    obtain ⟨s1, l1, o1⟩ := SXp.set (bad := is ++ bad) s h1 he
    refine ⟨v, vr, e, ?_⟩
    show gNs is vr (σ.set i (some v)) H Q
    refine bind_ns s1 h2 h fun σ' s' l' o' => k σ' s' (l'.trans l1) fun j hj => ?_
    simp only [List.mem_cons, not_or] at hj
    rw [o' j hj.2, o1 j hj.1]
  | [], _ :: _, _, _, _, _, _, _, _, _, h, _ => by simp [setEs] at h
  | _ :: _, [], _, _, _, _, _, _, _, _, h, _ => by simp [setEs] at h
theorem bind_T {tg : Tg} {d : D} {v : V} {σ : L2.St} {env env' : Env} {Q : L2.St → Hp → Prop} (s : SXp tg.slots K B F L H σ env) (r : Rep K F L H d v []) (h : bindT tg d env = some env')
    (k : ∀ σ', SXp [] K B F L H σ' env' → σ'.length = σ.length → (∀ j, j ∉ tg.slots → σ'[j]? = σ[j]?) → Q σ' H) : gT K tg v σ H Q := by
  cases tg with
  | name i =>
    obtain ⟨s1, l1, o1⟩ := SXp.set (bad := []) s r h
    exact k _ s1 l1 fun j hj => o1 j (by simpa [Tg.slots] using hj)
  | tup is =>
    cases d with
    | tup l =>
      obtain ⟨a, xs, rfl, ta, hl, _, _⟩ := r.tup_
      have len : l.length = is.length := by
        have : ∀ (is : List Nat) (l : List D) (env env' : Env), setEs is l env = some env' → l.length = is.length := by
          intro is
          induction is with
          | nil => intro l env env' h; cases l <;> simp [setEs] at h ⊢
          | cons i is ih =>
            intro l env env' h
            cases l with
            | nil => simp [setEs] at h
            | cons d ds =>
              simp only [setEs, Option.bind_eq_some_iff] at h
              obtain ⟨e1, _, h⟩ := h
              simp [ih ds e1 env' h]
        exact this is l env env' h
      refine ⟨a, xs, rfl, ta.sq, by rw [hl.length]; exact len, ?_⟩
      exact bind_ns (bad := []) (by simpa [Tg.slots] using s) hl h k
    | _ => simp [bindT] at h
theorem SX.p {σ : L2.St} {env : Env} (s : SX K B F L H σ env) (bad : List Nat) : SXp bad K B F L H (wipe σ bad) env :=
  ⟨by rw [wipe_length]; exact s.len, fun i d hi e => by
    obtain ⟨v, h1, h2⟩ := s.rep i d e
    exact ⟨v, by rw [wipe_get, if_neg hi]; exact h1, h2⟩⟩
theorem SXp.x {σ : L2.St} {env : Env} (s : SXp [] K B F L H σ env) (hF : ∀ a, F a → H a ≠ none) (hL : ∀ a, L a → H a ≠ none) (hT : ∀ P, B P → GxR.TabG H P) : SX K B F L H σ env :=
  ⟨s.len, fun i d e => s.rep i d (by simp) e, hF, hL, hT⟩
end
/-! ### what is walked -/
/-- what must stand for the walk -/
def wL : It → AP → AP
  | .seq _, L => L
  | _, _ => fun _ => False
theorem wL_le {it : It} {L : AP} {a : Addr} (h : wL it L a) : L a := by cases it <;> first | exact h | exact h.elim
theorem WalkOk.mono {K : PySem.W.Frag} {L L' F1 : AP} {H1 : Hp} {xs : List D} {J : L2.It} (w : WalkOk K L F1 H1 xs J) (h : ∀ a, L a → L' a) : WalkOk K L' F1 H1 xs J := fun i H F s => by
  obtain ⟨w1, w2⟩ := w i H F ⟨fun a o e => s.keep a o (e.imp id (h a)), s.mono, s.st⟩
  refine ⟨fun d hd => ?_, w2⟩
  obtain ⟨g, y⟩ := w1 d hd
  refine ⟨g, fun v H' yl => ?_⟩
  obtain ⟨F', g', r⟩ := y v H' yl
  exact ⟨F', g', Rep.mono (fun _ e => e) h d (fun _ _ e _ _ => e) r⟩
def tI (K : PySem.W.Frag) (B : AP) (G : Glob) (cf : Nat → List D → Option D) (it : It) : TI := fun σ H R => ∃ F L env xs, SX K B F L H σ env ∧ items G cf it env = some xs ∧ ∀ J H' F', Grow F F' H H' → WalkOk K (wL it L) F' H' xs J → R J H'
section
variable {T : Tab} {B : AP} {G : Glob} {cf : Nat → List D → Option D} {k : Nat} {N : List Str} {sc : Scope} {X : Cx} {tg : Expr}
theorem pi_seq {e : E} {x : Expr} (ha : Snd X.K B G cf X e x) : PI X tg x (tI X.K B G cf (.seq e)) := by
  refine (((pi_tup ha.pe).or (pi_list ha.pe)).or (pi_str ha.pe)).imp fun σ H R q => ?_
  obtain ⟨F, L, env, xs, s, h, kk⟩ := q
  simp only [items, Option.bind_eq_some_iff] at h
  obtain ⟨d, hd, h⟩ := h
  cases d with
  | tup l =>
    simp only [itemsOf, Option.some.injEq] at h
    subst h
    refine .inl (.inl ⟨F, L, env, _, s, hd, fun v H' F' fv g n => ?_⟩)
    obtain ⟨a, xs, rfl, ta, hl, _, _⟩ := n.rep.tup_
    exact ⟨a, rfl, ⟨xs, ta.sq⟩, kk _ H' F' g (walk_tup ta hl)⟩
  | lst f l =>
    simp only [itemsOf] at h
    refine .inl (.inr ⟨F, L, env, _, s, hd, fun v H' F' fv g n => ?_⟩)
    cases f with
    | frz =>
      rw [if_neg (by decide)] at h
      cases h
      have r := n.rep
      simp only [Rep] at r
      obtain ⟨a, xs, fp', rfl, ha, hl, fa, rfl, _⟩ := r
      exact ⟨a, rfl, ⟨xs, SqL.of ha⟩, kk _ H' F' g (walk_lst ha (.inl fa) hl)⟩
    | lck =>
      rw [if_neg (by decide)] at h
      cases h
      have r := n.rep
      simp only [Rep] at r
      obtain ⟨a, xs, fp', rfl, ha, hl, la, rfl, _⟩ := r
      exact ⟨a, rfl, ⟨xs, SqL.of ha⟩, kk _ H' F' g (walk_lst ha (.inr la) hl)⟩
    | own =>
      rw [if_pos rfl] at h
      split at h
      · rename_i nl
        cases h
        obtain ⟨g', r⟩ := freeze_v g n (show (D.lst .own l).noLck = true by simp only [D.noLck, Bool.and_eq_true]; exact ⟨rfl, nl⟩)
        simp only [D.frz, Rep] at r
        obtain ⟨a, xs, fp', rfl, ha, hl, fa, rfl, _⟩ := r
        exact ⟨a, rfl, ⟨xs, SqL.of ha⟩, kk _ H' _ g' (walk_lst ha (.inl fa) hl)⟩
      · cases h
  | str s' =>
    simp only [itemsOf, Option.some.injEq] at h
    subst h
    refine .inr ⟨F, L, env, _, s, hd, fun v H' F' fv g n => ?_⟩
    exact ⟨_, n.rep.str_, kk _ H' F' g (walk_str n.rep.okS)⟩
  | _ => simp [itemsOf] at h
theorem pi_rng1 {a : E} {x : Str} {e : Expr} {p pos : Pos} (o : OkX T B G cf k N sc X) (hx : x = ("range" : Str)) (hg : glb sc x = true) (hp : plainX e = true) (ha : Snd X.K B G cf X a e) : PI X tg (.Call (.Name x p) [e] [] pos) (tI X.K B G cf (.rng1 a)) := by
  subst hx
  refine (pi_range1 (gl_of o hg) (o.pf.free _ (by decide +kernel)) (pa_cons ha.pe pa_nil (star_of hp _ _)) (star_of hp _ _)).imp fun σ H R q => ?_
  obtain ⟨F, L, env, xs, s, h, kk⟩ := q
  simp only [items, Option.bind_eq_some_iff] at h
  obtain ⟨d, hd, h⟩ := h
  refine ⟨F, L, env, d, s, hd, fun v H' F' fv g n => ?_⟩
  cases d with
  | int i =>
    simp only at h
    split at h
    · rename_i hf
      cases h
      unfold fits62 at hf
      simp only [Bool.and_eq_true, decide_eq_true_eq] at hf
      refine ⟨i, by rw [n.rep.int_], hf.1, hf.2, kk _ H' F' g ?_⟩
      have w := walk_rng (K := X.K) (L := wL (It.rng1 a) L) (F1 := F') (H1 := H') (a := 0) (b := i)
      rw [Int.sub_zero] at w
      exact w
    · cases h
  | _ => cases h
theorem pi_rng2 {a b : E} {x : Str} {e e2 : Expr} {p pos : Pos} (o : OkX T B G cf k N sc X) (hx : x = ("range" : Str)) (hg : glb sc x = true) (hp : plainX e = true) (hp2 : plainX e2 = true) (ha : Snd X.K B G cf X a e) (hb : Snd X.K B G cf X b e2) : PI X tg (.Call (.Name x p) [e, e2] [] pos) (tI X.K B G cf (.rng2 a b)) := by
  subst hx
  refine (pi_range2 (gl_of o hg) (o.pf.free _ (by decide +kernel)) (pa_cons ha.pe (pa_cons hb.pe pa_nil (star_of hp2 _ _)) (star_of hp _ _)) (by rw [star_of hp, star_of hp2]; rfl) (star_of hp2 _ _)).imp fun σ H R q => ?_
  obtain ⟨F, L, env, xs, s, h, kk⟩ := q
  simp only [items, Option.bind_eq_some_iff] at h
  obtain ⟨d, hd, d2, hd2, h⟩ := h
  refine two s hd hd2 fun v w H' F' fv fw g n1 n2 _ => ?_
  cases d with
  | int i =>
    cases d2 with
    | int j =>
      simp only at h
      split at h
      · rename_i hf
        cases h
        unfold fits62 at hf
        simp only [Bool.and_eq_true, decide_eq_true_eq] at hf
        exact ⟨i, j, by rw [n1.rep.int_, n2.rep.int_], ⟨hf.1.1, hf.1.2, hf.2.1, hf.2.2⟩, kk _ H' F' g walk_rng⟩
      · cases h
    | _ => cases h
  | _ => cases h
theorem pi_zip_ {a b : E} {x : Str} {e e2 : Expr} {p pos tpos : Pos} {elts : List Expr} {kk : Nat} (o : OkX T B G cf k N sc X) (hx : x = ("zip" : Str)) (hg : glb sc x = true) (hp : plainX e = true) (hp2 : plainX e2 = true) (ha : Snd X.K B G cf X a e) (hb : Snd X.K B G cf X b e2) :
    PI X (.Tuple elts kk tpos) (.Call (.Name x p) [e, e2] [] pos) (tI X.K B G cf (.zip a b)) := by
  subst hx
  refine (pi_zipS (gl_of o hg) (o.pf.free _ (by decide +kernel)) (pa_cons ha.pe (pa_cons hb.pe pa_nil (star_of hp2 _ _)) (star_of hp _ _)) (star_of hp _ _) (back_any pos fun y hy => by rw [List.mem_singleton.mp hy]; exact hp2)).imp fun σ H R q => ?_
  obtain ⟨F, L, env, xs, s, h, kk⟩ := q
  simp only [items, Option.bind_eq_some_iff] at h
  obtain ⟨d, hd, d2, hd2, h⟩ := h
  refine two s hd hd2 fun v w H' F' fv fw g n1 n2 _ => ?_
  cases d with
  | str i =>
    cases d2 with
    | str j =>
      cases h
      exact ⟨_, _, by rw [n1.rep.str_, n2.rep.str_], kk _ H' F' g (walk_zipS n1.rep.okS n2.rep.okS)⟩
    | _ => cases h
  | _ => cases h
/-- the condition of a comprehension -/
def tC_ (K : PySem.W.Frag) (B : AP) (G : Glob) (cf : Nat → List D → Option D) (e : E) : TT := if e.isNop then tYes else tT K B G cf e
abbrev condOf (G : Glob) (cf : Nat → List D → Option D) (e : E) (env : Env) : Option Bool := asC e (ev G cf e env)
theorem cond_T {K : PySem.W.Frag} {c : E} {σ : L2.St} {H : Hp} {F L : AP} {env : Env} {b : Bool} {Q : Bool → Hp → Prop} (s : SX K B F L H σ env) (h : condOf G cf c env = some b) (kk : ∀ F' H', Grow F F' H H' → Q b H') : tC_ K B G cf c σ H Q := by
  unfold tC_
  unfold condOf asC at h
  by_cases hn : c.isNop = true
  · rw [if_pos hn] at h ⊢
    cases h
    exact kk F H (Grow.refl s.FH)
  · rw [if_neg hn] at h ⊢
    exact ⟨F, L, env, b, s, h, kk⟩
def lcF (G : Glob) (cf : Nat → List D → Option D) (elt : E) (tg : Tg) (cond : E) (env : Env) (x : D) : Option (Option D) :=
  (bindT tg x env).bind fun env1 => (condOf G cf cond env1).bind fun k => if k then (ev G cf elt env1).bind fun d => if d.noLck then some (some d.frz) else none else some none
theorem ev_lc {elt : E} {tg : Tg} {it : It} {cond : E} {env : Env} : ev G cf (.lc elt tg it cond) env = (items G cf it env).bind fun xs => (lcL (lcF G cf elt tg cond env) xs).bind fun ds => if xs.length < line then some (.lst .own ds) else none := by
  simp only [ev]
  rfl
theorem lc_red {elt : E} {tg : Tg} {it : It} {cond : E} {K : PySem.W.Frag} {σ : L2.St} {H : Hp} {Q : VK} (q : tE K B G cf (.lc elt tg it cond) σ H Q) : tLc (tI K B G cf it) (gT K tg) (tC_ K B G cf cond) (tE K B G cf elt) tg.slots σ H Q := by
  obtain ⟨F, L, env, d, s, h, kk⟩ := q
  rw [ev_lc] at h
  simp only [Option.bind_eq_some_iff] at h
  obtain ⟨xs, hxs, ds, hds, h⟩ := h
  split at h
  · rename_i hlen
    cases h
    refine ⟨F, L, env, xs, s, hxs, fun J H1 F1 g1 wk0 D hD => ?_⟩
    have wk := wk0.mono fun a => wL_le (it := it) (L := L) (a := a)
    have nLD : ¬ L D := fun z => s.LH D z (g1.free hD)
    refine ⟨fun i m Hc => m = xs.length - i ∧ i ≤ xs.length ∧ ∃ Fc acc vacc rest, Grow F1 Fc H1 Hc ∧ ¬ Fc D ∧
      Hc D = some (.lst vacc) ∧ RepL K Fc L Hc acc vacc [] ∧ acc.length ≤ i ∧ lcL (lcF G cf elt tg cond env) (xs.drop i) = some rest ∧ acc ++ rest = ds, ⟨xs.length, by simp, Nat.zero_le _, F1, [], [], ds, ⟨fun a u e _ => upd_free hD a u e, fun _ e => e, fun _ e => .inl e, fun a e z => ?_, upd_ne0, upd_tb hD⟩, fun z => g1.st D z hD, upd_same, by simp [RepL], Nat.le_refl _, by simpa using hds, rfl⟩, ?_⟩
    · by_cases q : a = D
      · subst q; exact g1.st a e hD
      · rw [upd_ne q] at z; exact g1.st a e z
    · rintro i m Hc ⟨rfl, hi, Fc, acc, vacc, rest, gc, c5, c6, c7, c8, c9, c10⟩
      have stab : Stab F1 L H1 Fc Hc := ⟨fun a u _ e => gc.keep a u e, gc.mono, gc.st⟩
      obtain ⟨w1, w2⟩ := wk i Hc Fc stab
      have sc : SX K B Fc L Hc σ env := s.grow (g1.trans gc)
      by_cases hlt : i < xs.length
      · have hx : xs[i]? = some xs[i] := List.getElem?_eq_getElem hlt
        obtain ⟨go, yl⟩ := w1 _ hx
        rw [List.drop_eq_getElem_cons hlt] at c9
        simp only [lcL, Option.bind_eq_some_iff] at c9
        obtain ⟨ob, hob, c9⟩ := c9
        refine .inr ⟨go, _, fun H' z => ⟨xs.length - (i + 1), by omega, z⟩, fun v H' y => ?_⟩
        obtain ⟨F', g2, rv⟩ := yl v H' y
        simp only [lcF, Option.bind_eq_some_iff] at hob
        obtain ⟨env1, he1, b, hcb, hob⟩ := hob
        have sx' := sc.grow g2
        refine bind_T (sx'.p tg.slots) rv he1 fun σ2 s2 l2 o2 => ⟨(wipe_eq l2 o2).trans (wipe_wipe _ _), ?_⟩
        have sx2 := s2.x sx'.FH sx'.LH sx'.tb
        have nFD : ∀ {Fx : AP} {Hx : Hp}, Grow F' Fx H' Hx → ¬ Fx D := fun {Fx Hx} gx z => by
          rcases gx.new D z with z | z
          · rcases g2.new D z with z | z
            · exact c5 z
            · rw [c6] at z; cases z
          · rw [g2.keep D _ c6 rfl] at z; cases z
        refine cond_T sx2 hcb fun F3 H3 g3 => ?_
        cases b with
        | false =>
          simp only [Bool.false_eq_true, if_false, Option.some.injEq] at hob ⊢
          subst hob
          have g := g2.trans g3
          exact ⟨by trivial, hlt, F3, acc, vacc, rest, gc.trans g, nFD g3, g.keep D _ c6 rfl, c7.grow g, by omega, c9, c10⟩
        | true =>
          simp only [if_true, Option.bind_eq_some_iff] at hob ⊢
          obtain ⟨dd, hdd, hob⟩ := hob
          split at hob
          · rename_i nl
            cases hob
            simp only [Option.map_eq_some_iff] at c9
            obtain ⟨rest', c9, e10⟩ := c9
            subst e10
            refine ⟨F3, L, env1, dd, sx2.grow g3, hdd, fun w H4 F4 fw g4 n4 => ?_⟩
            obtain ⟨g4', r4⟩ := freeze_v g4 n4 nl
            have g := (g2.trans g3).trans g4'
            have D4 : H4 D = some (.lst vacc) := g.keep D _ c6 rfl
            have nD : ¬ (F4 D ∨ D ∈ fw) := nFD (g3.trans g4')
            have gg := gc.trans g
            refine ⟨vacc, D4, by rw [c7.length, ← line_eq]; omega, by trivial, hlt, _, acc ++ [dd.frz], vacc ++ [w], rest', ⟨fun a u e dt => ?_, gg.mono, gg.new, fun a e z => ?_, fun a e => upd_ne0 a (gg.ne a e), fun P e => ?_⟩, nD, upd_same, ?_, by simp; omega, c9, by rw [← c10]; simp⟩
            · rw [upd_ne (ne_of_none e hD)]
              exact gg.keep a u e dt
            · by_cases q : a = D
              · subst q; exact nD e
              · rw [upd_ne q] at z; exact g4'.st a e z
            · obtain ⟨ps, e1, e2⟩ := gg.tb P e
              refine ⟨ps, ?_, e2⟩
              rw [upd_ne (by rintro rfl; rw [D4] at e1; cases e1)]
              exact e1
            · have base : RepL K (fun a => F4 a ∨ a ∈ fw) L H4 (acc ++ [dd.frz]) (vacc ++ [w]) ([] ++ []) := (c7.grow g).app (RepL.one r4)
              refine RepL.mono (fun _ e => e) (fun _ e => e) _ (fun a u e _ q => ?_) base
              have : a ≠ D := by
                rintro rfl
                rcases q with q | q | q
                · exact nD q
                · exact nLD q
                · cases q
              rw [upd_ne this]; exact e
          · cases hob
      · have ei : i = xs.length := by omega
        subst ei
        refine .inl ⟨w2 (Nat.le_refl _), ?_⟩
        rw [List.drop_length] at c9
        simp only [lcL, Option.some.injEq] at c9
        subst c9
        rw [List.append_nil] at c10
        subst c10
        refine kk _ Hc Fc [D] (g1.trans gc) ⟨?_, by simp, fun a ha => ?_⟩
        · simp only [Rep]
          exact ⟨D, vacc, [], rfl, c6, c7, rfl⟩
        · have : a = D := by simpa using ha
          subst this
          exact ⟨g1.free hD, c5⟩
  · cases h
theorem snd_lc {elt : E} {tg : Tg} {it : It} {cond : E} {x tgt iter : Expr} {ifs : List Expr} {scope : Scope} {pos : Pos} (o : OkX T B G cf k N sc X) (hi : PI X tgt iter (tI X.K B G cf it)) (hb : blkC N sc scope (ownOf N tg.slots) = true)
    (hg : ∀ (s : Shared) (H : Hp) (C : Addr) (cl : List (Str × Addr)) (fp : List Addr), PG (X.blk s H scope (compEnvC scope cl C X.env) fp) tgt (gT X.K tg))
    (ht : ∀ (s : Shared) (H : Hp) (C : Addr) (cl : List (Str × Addr)) (fp : List Addr), PTs (X.blk s H scope (compEnvC scope cl C X.env) fp) ifs (tC_ X.K B G cf cond))
    (he : ∀ (s : Shared) (H : Hp) (C : Addr) (cl : List (Str × Addr)) (fp : List Addr), PE (X.blk s H scope (compEnvC scope cl C X.env) fp) x (tE X.K B G cf elt)) (hs : ∀ v, foldedSetIterable iter X.env v = pure v) :
    Snd X.K B G cf X (.lc elt tg it cond) (.ListComp x [⟨tgt, iter, ifs, 0⟩] scope pos) := by
  have ok : BlkOk X.N X.env.scope scope (ownOf N tg.slots) := by rw [o.hN, o.hsc]; exact blkOk_by hb
  have sl : (ownOf N tg.slots).map (·.2) = tg.slots := by simp [ownOf, List.map_map, Function.comp_def]
  refine .val ((pe_lc o.calm (by rw [o.hN]; exact o.nd) hi ok hg ht he hs).imp fun σ H Q q => ?_) rfl fun _ => rfl
  rw [sl]
  exact lc_red q
/-- .. kept under a name of the def, on one line -/
theorem ps_lc {i : Nat} {y : Str} {py : Pos} {elt : E} {tg : Tg} {it : It} {cond : E} {x tgt iter : Expr} {ifs : List Expr} {scope : Scope} {pos spos : Pos} (o : OkX T B G cf k N sc X) (hi : PI X tgt iter (tI X.K B G cf it)) (hb : blkC N sc scope (ownOf N tg.slots) = true)
    (hy : N[i]? = some y) (hyl : sc.names.lookup y = some .local) (hsw : swapsWith (.ListComp x [⟨tgt, iter, ifs, 0⟩] scope pos) (some (.Name y py)) spos.line X.env = pure true)
    (hg : ∀ (s : Shared) (H : Hp) (C : Addr) (cl : List (Str × Addr)) (fp : List Addr), PG (X.blk s H scope (compEnvC scope cl C X.env) fp) tgt (gT X.K tg))
    (ht : ∀ (s : Shared) (H : Hp) (C : Addr) (cl : List (Str × Addr)) (fp : List Addr), PTs (X.blk s H scope (compEnvC scope cl C X.env) fp) ifs (tC_ X.K B G cf cond))
    (he : ∀ (s : Shared) (H : Hp) (C : Addr) (cl : List (Str × Addr)) (fp : List Addr), PE (X.blk s H scope (compEnvC scope cl C X.env) fp) x (tE X.K B G cf elt)) (hs : ∀ v, foldedSetIterable iter X.env v = pure v) :
    PS X (.Assign [.Name y py] (.ListComp x [⟨tgt, iter, ifs, 0⟩] scope pos) spos) (tAsg (tE X.K B G cf (.lc elt tg it cond)) (gName i)) := by
  have ok : BlkOk X.N X.env.scope scope (ownOf N tg.slots) := by rw [o.hN, o.hsc]; exact blkOk_by hb
  have sl : (ownOf N tg.slots).map (·.2) = tg.slots := by simp [ownOf, List.map_map, Function.comp_def]
  refine (ps_setLc o.calm (by rw [o.hN]; exact o.nd) (by rw [o.hN]; exact hy) (by rw [o.hsc]; exact hyl) hsw hi ok hg ht he hs).imp fun D σ H q => ?_
  rw [sl]
  exact lc_red q
end
end PV

set_option Elab.async false
set_option linter.all false
set_option maxRecDepth 100000
set_option maxHeartbeats 8000000
/-! PV, part Ha: any, all of a generator expression are sound. -/
namespace PV
open PySem PySem.Spec PyProof.Rows L2
theorem genOk_by {N : List Str} {sc scope : Scope} {own : List (Str × Nat)} (h : genC N sc scope own = true) : GenOk N sc scope own := by
  unfold genC at h
  simp only [Bool.and_eq_true, Bool.not_eq_true', decide_eq_true_eq, List.all_eq_true, decide_eq_false_iff_not] at h
  obtain ⟨⟨⟨⟨h1, h2⟩, h3⟩, h4⟩, h5⟩ := h
  exact ⟨blkOk_by h1, h2, h3, h4, h5⟩
theorem Grow.tabbed {F : AP} {H H2 : Hp} {P : Addr} (st : ∀ a, F a → H a ≠ none) (tg : GxR.TabG H P) (h : GxR.Tabbed P H H2) : Grow F F H H2 := by
  obtain ⟨ps, e, _⟩ := tg
  obtain ⟨ps2, e2, t2⟩ := h.1
  have ne : ∀ a, H a ≠ none → H2 a ≠ none := fun a n => by
    by_cases q : a = P
    · rw [q, e2]; simp
    · rw [h.2 a q]; exact n
  refine ⟨fun a o ea dd => ?_, fun _ x => x, fun _ x => .inl x, fun a x => ne a (st a x), ne, fun R ⟨qs, r1, r2⟩ => ?_⟩
  · by_cases q : a = P
    · rw [q, e] at ea; cases ea; cases dd
    · rw [h.2 a q]; exact ea
  · by_cases q : R = P
    · rw [q]; exact h.1
    · exact ⟨qs, by rw [h.2 R q]; exact r1, r2⟩
section
variable {T : Tab} {B : AP} {G : Glob} {cf : Nat → List D → Option D} {k : Nat} {N : List Str} {sc : Scope} {X : Cx}
theorem OkX.gcx {A' : Around} {scope : Scope} (o : OkX T B G cf k N sc X) (hr : Room k A') (s : Shared) (H : Hp) (code : Value) (fp : List Addr) (pn : List (Addr × Obj)) :
    OkX { T with gen := false } B G cf k N scope (PV.gcx X A' s H (genEnv scope (cloFrom X.env.cells scope.names []) s.heap.objs.size code builtinsNs X.env) fp pn) :=
  ⟨o.hN, o.nd, rfl, o.calm, hr, ⟨o.pf.fn, o.pf.free, o.pf.con⟩, fun h => by cases h⟩
/-- the turns' answers -/
def genL (all : Bool) (f : D → Option Bool) (xs : List D) : Option Bool := (if all then allL else anyL) f xs
theorem genL_nil {all : Bool} {f : D → Option Bool} : genL all f [] = some all := by cases all <;> rfl
theorem genL_cons {all b : Bool} {f : D → Option Bool} {x : D} {xs : List D} {r : Bool} (h : genL all f (x :: xs) = some r) : ∃ b, f x = some b ∧ ((b = all ∧ genL all f xs = some r) ∨ (b ≠ all ∧ r = !all)) := by
  cases all with
  | true =>
    simp only [genL, if_true, allL, Option.bind_eq_some_iff] at h
    obtain ⟨b, hb, h⟩ := h
    refine ⟨b, hb, ?_⟩
    cases b with
    | true => exact .inl ⟨rfl, h⟩
    | false => exact .inr ⟨by decide, by simpa using h.symm⟩
  | false =>
    simp only [genL, Bool.false_eq_true, if_false, anyL, Option.bind_eq_some_iff] at h
    obtain ⟨b, hb, h⟩ := h
    refine ⟨b, hb, ?_⟩
    cases b with
    | true => exact .inr ⟨by decide, by simpa using h.symm⟩
    | false => exact .inl ⟨rfl, h⟩
theorem gen_red {K : PySem.W.Frag} {all : Bool} {elt : E} {tg : Tg} {it : It} {P : Addr} {σ : L2.St} {H : Hp} {Q : VK} (hB : B P) (q : tE K B G cf (.gen all elt tg it) σ H Q) : tGen all P (tI K B G cf it) (gT K tg) (tE K B G cf elt) tg.slots σ H Q := by
  obtain ⟨F, L, env, d, s, h, kk⟩ := q
  have e : ev G cf (.gen all elt tg it) env = (items G cf it env).bind fun xs => (genL all (fun x => (bindT tg x env).bind fun env1 => asBl (ev G cf elt env1)) xs).map .bl := by rw [ev]; rfl
  rw [e] at h
  simp only [Option.bind_eq_some_iff, Option.map_eq_some_iff] at h
  obtain ⟨xs, hxs, r, hr, rfl⟩ := h
  refine ⟨F, L, env, xs, s, hxs, fun J H1 F1 g1 wk0 => ⟨g1.tb P (s.tb P hB), fun H2 hT => ?_⟩⟩
  have wk := wk0.mono fun a => wL_le (it := it) (L := L) (a := a)
  have gT2 : Grow F1 F1 H1 H2 := Grow.tabbed g1.st (g1.tb P (s.tb P hB)) hT
  refine ⟨fun i m Hc => m = xs.length - i ∧ i ≤ xs.length ∧ ∃ Fc, Grow F1 Fc H1 Hc ∧ genL all (fun x => (bindT tg x env).bind fun env1 => asBl (ev G cf elt env1)) (xs.drop i) = some r, ⟨xs.length, by simp, Nat.zero_le _, F1, gT2, by simpa using hr⟩, ?_⟩
  rintro i m Hc ⟨rfl, hi, Fc, gc, hf⟩
  have stab : Stab F1 L H1 Fc Hc := ⟨fun a u _ e => gc.keep a u e, gc.mono, gc.st⟩
  obtain ⟨w1, w2⟩ := wk i Hc Fc stab
  have sc : SX K B Fc L Hc σ env := s.grow (g1.trans gc)
  by_cases hlt : i < xs.length
  · have hx : xs[i]? = some xs[i] := List.getElem?_eq_getElem hlt
    obtain ⟨go, yl⟩ := w1 _ hx
    rw [List.drop_eq_getElem_cons hlt] at hf
    obtain ⟨b, hb, hf⟩ := genL_cons (b := true) hf
    simp only [Option.bind_eq_some_iff] at hb
    obtain ⟨env1, he1, hb⟩ := hb
    refine .inr ⟨go, _, fun H' z => ⟨xs.length - (i + 1), by omega, z⟩, fun v H' y => ?_⟩
    obtain ⟨F', g2, rv⟩ := yl v H' y
    have sx' := sc.grow g2
    refine bind_T (sx'.p tg.slots) rv he1 fun σ2 s2 l2 o2 => ⟨(wipe_eq l2 o2).trans (wipe_wipe _ _), ?_⟩
    have sx2 := s2.x sx'.FH sx'.LH sx'.tb
    refine ⟨F', L, env1, .bl b, sx2, asBl_some hb, fun w H3 F3 fw g3 n3 => ⟨b, n3.rep.bl_, ?_⟩⟩
    rcases hf with ⟨eb, hf⟩ | ⟨nb, er⟩
    · rw [if_pos eb]
      exact ⟨rfl, hlt, F3, gc.trans (g2.trans g3), hf⟩
    · rw [if_neg nb]
      rw [er] at kk
      exact (kk.grow ((g1.trans gc).trans (g2.trans g3))).bl g3.st
  · have ei : i = xs.length := by omega
    subst ei
    rw [List.drop_length, genL_nil] at hf
    cases hf
    exact .inl ⟨w2 (Nat.le_refl _), (kk.grow (g1.trans gc)).bl gc.st⟩
theorem snd_gen {all : Bool} {elt : E} {tg : Tg} {it : It} {x : Str} {y tgt iter : Expr} {scope : Scope} {p gpos pos : Pos} (o : OkX T B G cf k N sc X) (h1 : T.gen = true) (h2 : x = if all then ("all" : Str) else "any") (h3 : glb sc x = true) (h4 : genC N sc scope (ownOf N tg.slots) = true)
    (h5 : chkTg N scope tg tgt = true) (h6 : noList iter = true) (i1 : PI X tgt iter (tI X.K B G cf it)) (i2 : ∀ v, foldedSetIterable iter X.env v = pure v)
    (he : ∀ (A' : Around) (s : Shared) (H : Hp) (code : Value) (fp : List Addr) (pn : List (Addr × Obj)), Room k A' → PE (gcx X A' s H (genEnv scope (cloFrom X.env.cells scope.names []) s.heap.objs.size code builtinsNs X.env) fp pn) y (tE X.K B G cf elt)) :
    Snd X.K B G cf X (.gen all elt tg it) (.Call (.Name x p) [.GeneratorExp y [⟨tgt, iter, [], 0⟩] scope gpos] [] pos) := by
  obtain ⟨c, P, hr, TB, hcode, hB⟩ := o.gen h1
  have S : GenOk X.N X.env.scope scope (ownOf N tg.slots) := by rw [o.hN, o.hsc]; exact genOk_by h4
  have sl : (ownOf N tg.slots).map (·.2) = tg.slots := by simp [ownOf, List.map_map, Function.comp_def]
  have hs : ∀ v, genFold iter X.env v = pure v := fun v => by
    unfold genFold
    split
    · cases h6
    · exact i2 v
  have hg : ∀ (A' : Around) (s : Shared) (H : Hp) (code : Value) (fp : List Addr) (pn : List (Addr × Obj)), Room k A' → PG (gcx X A' s H (genEnv scope (cloFrom X.env.cells scope.names []) s.heap.objs.size code builtinsNs X.env) fp pn) tgt (gT X.K tg) := fun A' s H code fp pn hr =>
    pg_T (X := gcx X A' s H _ fp pn) (by rw [(o.gcx (scope := scope) hr s H code fp pn).hN]; exact o.nd) o.calm (by rw [(o.gcx (scope := scope) hr s H code fp pn).hN, (o.gcx (scope := scope) hr s H code fp pn).hsc]; exact h5)
  have hNn : X.N.Nodup := by rw [o.hN]; exact o.nd
  cases all with
  | false =>
    subst h2
    refine .val ((pe_anyG (gl_of o h3) (o.pf.free _ (by decide +kernel)) hr o.calm hNn TB hcode S i1 hs hg he).imp fun σ H Q q => ?_) rfl fun _ => rfl
    rw [sl]
    exact gen_red hB q
  | true =>
    subst h2
    refine .val ((pe_allG (gl_of o h3) (o.pf.free _ (by decide +kernel)) hr o.calm hNn TB hcode S i1 hs hg he).imp fun σ H Q q => ?_) rfl fun _ => rfl
    rw [sl]
    exact gen_red hB q
end
end PV

set_option Elab.async false
set_option linter.all false
set_option maxRecDepth 100000
set_option maxHeartbeats 8000000
/-! PV, part I: every checked expression is sound. -/
namespace PV
open PySem PySem.Spec PyProof.Rows L2
section
variable {T : Tab} {B : AP} {G : Glob} {cf : Nat → List D → Option D} {k : Nat} {N : List Str} {X : Cx}
theorem OkX.blk {sc scope : Scope} (o : OkX T B G cf k N sc X) (s : Shared) (H : Hp) (C : Addr) (cl : List (Str × Addr)) (fp : List Addr) : OkX T B G cf k N (relS scope sc) (X.blk s H scope (compEnvC scope cl C X.env) fp) :=
  ⟨o.hN, o.nd, by show relS scope X.env.scope = _; rw [o.hsc], o.calm, o.room, o.pf, o.gen⟩
theorem PA.nil {K : PySem.W.Frag} (hK : K = X.K) : PA X [] (tEs K B G cf .nil) := by
  refine pa_nil.imp fun σ H Q q => ?_
  obtain ⟨F, L, env, ds, s, h, kk⟩ := q
  simp only [evs, Option.some.injEq] at h
  subst h
  exact kk [] H F [] (Grow.refl s.FH) ⟨by simp [RepL], List.nodup_nil, fun a ha => by cases ha⟩
theorem PA.cons_ {e : E} {es : Es} {x : Expr} {xs : List Expr} (hp : plainX x = true) (ha : Snd X.K B G cf X e x) (hb : PA X xs (tEs X.K B G cf es)) : PA X (x :: xs) (tEs X.K B G cf (.cons e es)) := by
  refine (pa_cons ha.pe hb (star_of hp _ _)).imp fun σ H Q q => ?_
  obtain ⟨F, L, env, ds, s, h, kk⟩ := q
  simp only [evs, Option.bind_eq_some_iff, Option.map_eq_some_iff] at h
  obtain ⟨d, hd, dr, hr, rfl⟩ := h
  refine ⟨F, L, env, d, s, hd, fun v H1 F1 fv g1 n1 => ⟨F1, L, env, dr, s.grow g1, hr, fun vs H2 F2 fs g2 n2 => ?_⟩⟩
  have n1' := n1.grow g2
  have n2' := n2.back g1
  refine kk (v :: vs) H2 F2 (fv ++ fs) (g1.trans g2) ⟨?_, ?_, fun a ha => (List.mem_append.mp ha).elim (n1'.fresh a) (n2'.fresh a)⟩
  · simp only [RepL]
    exact ⟨v, vs, fv, fs, rfl, n1'.rep, n2'.rep, rfl⟩
  · refine List.nodup_append.mpr ⟨n1'.nd, n2'.nd, fun a ha b hb e => ?_⟩
    subst e
    obtain ⟨u, hu⟩ := n1.rep.stand d a ha
    rw [(n2.fresh a hb).1] at hu; cases hu
theorem po_of {sc : Scope} {e : E} {l : Option Expr} (h : (match l with
      | none => e.isNop
      | some y => !e.isNop && (plainX y && chkE T N sc e y)) = true) (ih : ∀ x, plainX x = true → chkE T N sc e x = true → Snd X.K B G cf X e x) : PO X l (tP X.K B G cf e) := by
  cases l with
  | none =>
    have h : e.isNop = true := h
    refine po_none.imp fun σ H Q q => ?_
    obtain ⟨F, L, env, ob, s, h', kk⟩ := q
    unfold asP at h'
    rw [if_pos h] at h'
    cases h'
    exact kk F H (Grow.refl s.FH)
  | some x =>
    simp only [Bool.and_eq_true, Bool.not_eq_true'] at h
    refine (po_some (ih x h.2.1 h.2.2).pe).imp fun σ H Q q => ?_
    obtain ⟨F, L, env, ob, s, h', kk⟩ := q
    unfold asP at h'
    rw [h.1, if_neg Bool.false_ne_true] at h'
    split at h'
    · rename_i i hi
      cases h'
      exact ⟨F, L, env, _, s, hi, fun v H' F' fv g n => ⟨i, n.rep.int_, kk F' H' g⟩⟩
    · cases h'
theorem pts_of {sc : Scope} {e : E} {ifs : List Expr} {Y : Cx} (hK : Y.K = X.K) (h : (match ifs with
        | [] => e.isNop
        | [y] => !e.isNop && (plainX y && !isIf y && chkE T N sc e y)
        | _ => false) = true) (ih : ∀ x, plainX x = true → chkE T N sc e x = true → Snd Y.K B G cf Y e x) : PTs Y ifs (tC_ X.K B G cf e) := by
  unfold tC_
  split at h
  · rw [if_pos h]; exact pts_nil
  · simp only [Bool.and_eq_true, Bool.not_eq_true'] at h
    rw [h.1, if_neg Bool.false_ne_true, ← hK]
    exact pts_one ((ih _ h.2.1.1 h.2.2).pt h.2.1.2)
  · cases h
mutual
theorem sndE : ∀ (e : E) {T : Tab} {sc : Scope} {X : Cx} (x : Expr), chkE T N sc e x = true → OkX T B G cf k N sc X → Snd X.K B G cf X e x
  | .var i, T, sc, X, x, h, o => by
    unfold chkE at h
    split at h <;> first | (cases h; done) | (rename_i he; cases he; done) | skip
    rename_i he
    cases he
    simp only [Bool.and_eq_true, beq_iff_eq] at h
    obtain ⟨⟨h1, h2⟩, h3⟩ := h
    obtain ⟨n1, n2, n3⟩ := okName_ok h3
    refine .val ((pe_var (by rw [o.hN]; exact h1) (by rw [o.hsc]; exact vis_ok h2) n1 n2).imp fun σ H Q q => ?_) rfl fun _ => rfl
    obtain ⟨F, L, env, d, s, h, kk⟩ := q
    simp only [ev, Option.map_eq_some_iff] at h
    obtain ⟨d0, h, rfl⟩ := h
    unfold getE at h
    split at h
    · rename_i d1 hd
      cases h
      obtain ⟨v, hv, rv⟩ := s.rep i _ hd
      exact ⟨v, hv, kk v H F [] (Grow.refl s.FH) (.plain rv)⟩
    · cases h
  | .non, T, sc, X, x, h, o => by
    unfold chkE at h
    split at h <;> first | (cases h; done) | (rename_i he; cases he; done) | skip
    refine .val (pe_non.imp fun σ H Q q => ?_) rfl fun _ => rfl
    obtain ⟨F, L, env, d, s, h, kk⟩ := q
    simp only [ev, Option.some.injEq] at h
    subst h
    exact kk _ H F [] (Grow.refl s.FH) (.plain (by simp [Rep]))
  | .bl b, T, sc, X, x, h, o => by
    unfold chkE at h
    split at h <;> first | (cases h; done) | (rename_i he; cases he; done) | skip
    rename_i he
    cases he
    simp only [beq_iff_eq] at h
    subst h
    refine .val (pe_bl.imp fun σ H Q q => ?_) rfl fun _ => rfl
    obtain ⟨F, L, env, d, s, h, kk⟩ := q
    simp only [ev, Option.some.injEq] at h
    subst h
    exact kk.bl s.FH
  | .int i, T, sc, X, x, h, o => by
    unfold chkE at h
    split at h <;> first | (cases h; done) | (rename_i he; cases he; done) | skip
    rename_i he
    cases he
    simp only [beq_iff_eq] at h
    subst h
    refine .val (pe_int.imp fun σ H Q q => ?_) rfl fun _ => rfl
    obtain ⟨F, L, env, d, s, h, kk⟩ := q
    simp only [ev, Option.some.injEq] at h
    subst h
    exact kk.int s.FH
  | .str z, T, sc, X, x, h, o => by
    unfold chkE at h
    split at h <;> first | (cases h; done) | (rename_i he; cases he; done) | skip
    rename_i he
    cases he
    simp only [beq_iff_eq, Bool.and_eq_true] at h
    obtain ⟨h, hok⟩ := h
    subst h
    refine .val (pe_str.imp fun σ H Q q => ?_) rfl fun _ => rfl
    obtain ⟨F, L, env, d, s, h, kk⟩ := q
    simp only [ev, Option.some.injEq] at h
    subst h
    exact kk.str (okSb_ok hok) s.FH
  | .glb j, T, sc, X, x, h, o => by
    unfold chkE at h
    split at h <;> first | (cases h; done) | (rename_i he; cases he; done) | skip
    rename_i he
    cases he
    simp only [Bool.and_eq_true, beq_iff_eq] at h
    obtain ⟨⟨h1, h2⟩, h3⟩ := h
    obtain ⟨n1, n2, n3⟩ := okName_ok h3
    obtain ⟨d, v, u, c1, c2, c3, c4, c5⟩ := o.pf.con j _ h1
    refine .val ((pe_glob (gl_of o h2) c3 c4 n1).imp fun σ H Q q => ?_) rfl fun _ => rfl
    obtain ⟨F, L, env, d', s, h, kk⟩ := q
    simp only [ev] at h
    rw [c1] at h
    cases h
    exact kk v H F [] (Grow.refl s.FH) (.plain (c5 F L H))
  | .bin b a c, T, sc, X, x, h, o => by
    unfold chkE at h
    split at h <;> first | (cases h; done) | (rename_i he; cases he; done) | skip
    rename_i he
    cases he
    simp only [Bool.and_eq_true, beq_iff_eq] at h
    obtain ⟨⟨h1, h2, h3⟩, h4, h5⟩ := h
    exact snd_bin o h1 (sndE a _ h3 o) (sndE c _ h5 o)
  | .neg a, T, sc, X, x, h, o => by
    unfold chkE at h
    split at h <;> first | (cases h; done) | (rename_i he; cases he; done) | skip
    rename_i he
    cases he
    simp only [Bool.and_eq_true] at h
    exact snd_neg (sndE a _ h.2 o)
  | .cmp b a c, T, sc, X, x, h, o => by
    unfold chkE at h
    split at h <;> first | (cases h; done) | (rename_i he; cases he; done) | skip
    rename_i he
    cases he
    simp only [Bool.and_eq_true, beq_iff_eq] at h
    obtain ⟨⟨h1, h2, h3⟩, h4, h5⟩ := h
    exact snd_cmp o h1 h4 (sndE a _ h3 o) (sndE c _ h5 o)
  | .cmp2 _ _ _ _ _, T, sc, X, x, h, o => by
    unfold chkE at h
    cases h
  | .isN n a, T, sc, X, x, h, o => by
    unfold chkE at h
    split at h <;> first | (cases h; done) | (rename_i he; cases he; done) | skip
    rename_i he
    cases he
    simp only [Bool.and_eq_true, beq_iff_eq] at h
    exact snd_isN o h.1 (sndE a _ h.2.2 o)
  | .isB n b a, T, sc, X, x, h, o => by
    unfold chkE at h
    split at h <;> first | (cases h; done) | (rename_i he; cases he; done) | skip
    rename_i he
    cases he
    simp only [Bool.and_eq_true, beq_iff_eq] at h
    obtain ⟨⟨h1, h2⟩, h3, h4⟩ := h
    subst h2
    exact snd_isB o h1 (sndE a _ h4 o)
  | .and a b, T, sc, X, x, h, o => by
    unfold chkE at h
    split at h <;> first | (cases h; done) | (rename_i he; cases he; done) | skip
    · rename_i he
      cases he
      rename_i p q pos
      simp only [Bool.and_eq_true, Bool.not_eq_true'] at h
      obtain ⟨⟨⟨p1, p2⟩, p3⟩, ⟨q1, q2⟩, q3⟩ := h
      have A := sndE a _ p3 o
      have BB := sndE b _ q3 o
      have W : PW X (.BoolOp .And [p, q] pos) (tT X.K B G cf (.and a b)) := (pw_and (A.pt p2) (pw_and1 (BB.pt q2))).imp fun σ H Q q => and_T X.K q
      exact ⟨(pe_and A.pe (pe_one BB.pe)).imp fun σ H Q q => and_E X.K q, fun _ => W.pt, fun _ => W⟩
    · rename_i he
      cases he
      rename_i p q r rest pos
      simp only [Bool.and_eq_true, Bool.not_eq_true'] at h
      obtain ⟨⟨⟨p1, p2⟩, p3⟩, q3⟩ := h
      have A := sndE a _ p3 o
      have BB := sndE b _ q3 o
      have W : PW X (.BoolOp .And (p :: q :: r :: rest) pos) (tT X.K B G cf (.and a b)) := (pw_and (A.pt p2) (BB.pw rfl)).imp fun σ H Q q => and_T X.K q
      exact ⟨(pe_and A.pe BB.pe).imp fun σ H Q q => and_E X.K q, fun _ => W.pt, fun _ => W⟩
  | .or a b, T, sc, X, x, h, o => by
    unfold chkE at h
    split at h <;> first | (cases h; done) | (rename_i he; cases he; done) | skip
    · rename_i he
      cases he
      rename_i p q pos
      simp only [Bool.and_eq_true, Bool.not_eq_true'] at h
      obtain ⟨⟨⟨p1, p2⟩, p3⟩, ⟨q1, q2⟩, q3⟩ := h
      have A := sndE a _ p3 o
      have BB := sndE b _ q3 o
      have W : PW X (.BoolOp .Or [p, q] pos) (tT X.K B G cf (.or a b)) := (pw_or (A.pt p2) (pw_or1 (BB.pt q2))).imp fun σ H Q q => or_T X.K q
      exact ⟨(pe_or A.pe (pe_one BB.pe)).imp fun σ H Q q => or_E X.K q, fun _ => W.pt, fun _ => W⟩
    · rename_i he
      cases he
      rename_i p q r rest pos
      simp only [Bool.and_eq_true, Bool.not_eq_true'] at h
      obtain ⟨⟨⟨p1, p2⟩, p3⟩, q3⟩ := h
      have A := sndE a _ p3 o
      have BB := sndE b _ q3 o
      have W : PW X (.BoolOp .Or (p :: q :: r :: rest) pos) (tT X.K B G cf (.or a b)) := (pw_or (A.pt p2) (BB.pw rfl)).imp fun σ H Q q => or_T X.K q
      exact ⟨(pe_or A.pe BB.pe).imp fun σ H Q q => or_E X.K q, fun _ => W.pt, fun _ => W⟩
  | .not a, T, sc, X, x, h, o => by
    unfold chkE at h
    split at h <;> first | (cases h; done) | (rename_i he; cases he; done) | skip
    rename_i he
    cases he
    simp only [Bool.and_eq_true, Bool.not_eq_true'] at h
    have A := sndE a _ h.2 o
    exact ⟨(pe_not A.pe).imp fun σ H Q q => not_red X.K q, fun _ => (pt_not (A.pt h.1.2)).imp fun σ H Q q => not_T X.K q, fun q => by cases q⟩
  | .ite c a b, T, sc, X, x, h, o => by
    unfold chkE at h
    split at h <;> first | (cases h; done) | (rename_i he; cases he; done) | skip
    rename_i he
    cases he
    simp only [Bool.and_eq_true, Bool.not_eq_true'] at h
    obtain ⟨⟨⟨⟨c1, c2⟩, c3⟩, a1, a2⟩, b1, b2⟩ := h
    refine ⟨(pe_ifExp ((sndE c _ c3 o).pt c2) (sndE a _ a2 o).pe (sndE b _ b2 o).pe).imp fun σ H Q q => ?_, fun q => (by cases q), fun q => (by cases q)⟩
    obtain ⟨F, L, env, d, s, h, kk⟩ := q
    simp only [ev, Option.bind_eq_some_iff] at h
    obtain ⟨x, hx, h⟩ := h
    refine ⟨F, L, env, x, s, hx, fun F' H' g => ?_⟩
    cases x with
    | true =>
      rw [if_pos rfl] at h ⊢
      exact ⟨F', L, env, d, s.grow g, h, kk.grow g⟩
    | false =>
      rw [if_neg Bool.false_ne_true] at h ⊢
      exact ⟨F', L, env, d, s.grow g, h, kk.grow g⟩
  | .idx a b, T, sc, X, x, h, o => by
    unfold chkE at h
    split at h <;> first | (cases h; done) | (rename_i he; cases he; done) | skip
    rename_i he
    cases he
    simp only [Bool.and_eq_true] at h
    exact snd_idx h.2.1 (sndE a _ h.1.2 o) (sndE b _ h.2.2 o)
  | .slc a lo hi, T, sc, X, x, h, o => by
    unfold chkE at h
    split at h <;> first | (cases h; done) | (rename_i he; cases he; done) | skip
    rename_i he
    cases he
    simp only [Bool.and_eq_true] at h
    exact snd_slc (sndE a _ h.1.1.2 o) (po_of h.1.2 fun x _ hc => sndE lo x hc o) (po_of h.2 fun x _ hc => sndE hi x hc o)
  | .tup es, T, sc, X, x, h, o => by
    unfold chkE at h
    split at h <;> first | (cases h; done) | (rename_i he; cases he; done) | skip
    rename_i he
    cases he
    exact snd_tup (sndEs es _ h o).1
  | .lst es, T, sc, X, x, h, o => by
    unfold chkE at h
    split at h <;> first | (cases h; done) | (rename_i he; cases he; done) | skip
    rename_i he
    cases he
    exact snd_lst (sndEs es _ h o).1
  | .call f es, T, sc, X, x, h, o => by
    unfold chkE at h
    split at h <;> first | (cases h; done) | (rename_i he; cases he; done) | skip
    rename_i y p xs pos he
    cases he
    simp only [Bool.and_eq_true, Bool.not_eq_true', beq_iff_eq] at h
    obtain ⟨⟨⟨⟨h1, h2⟩, h3⟩, h4⟩, h5⟩ := h
    cases xs with
    | nil => cases h4
    | cons x xs => exact snd_call o h1 h2 h3 (sndEs es _ h5 o).2 (sndEs es _ h5 o).1
  | .bi b es, T, sc, X, x, h, o => by
    unfold chkE at h
    split at h <;> first | (cases h; done) | (rename_i he; cases he; done) | skip
    rename_i y p xs pos he
    cases he
    simp only [Bool.and_eq_true, Bool.not_eq_true', beq_iff_eq] at h
    obtain ⟨⟨⟨⟨h1, h2⟩, h3⟩, h4⟩, h5⟩ := h
    cases xs with
    | nil => cases h4
    | cons x xs => exact snd_bi o h1 h2 h3 (sndEs es _ h5 o).2 (sndEs es _ h5 o).1
  | .inst t a, T, sc, X, x, h, o => by
    unfold chkE at h
    split at h <;> first | (cases h; done) | (rename_i he; cases he; done) | skip
    rename_i he
    cases he
    simp only [Bool.and_eq_true, beq_iff_eq] at h
    obtain ⟨⟨⟨⟨h1, h2⟩, h3⟩, h4⟩, h5, h6⟩ := h
    exact snd_inst o h1 h2 h3 h4 h5 (sndE a _ h6 o)
  | .rev a, T, sc, X, x, h, o => by
    unfold chkE at h
    split at h <;> first | (cases h; done) | (rename_i he; cases he; done) | skip
    rename_i he
    cases he
    simp only [Bool.and_eq_true] at h
    exact snd_rev (sndE a _ h.2 o)
  | .mth _ _ .nil, T, sc, X, x, h, o => by
    unfold chkE at h
    cases h
  | .mth _ _ (.cons _ (.cons _ _)), T, sc, X, x, h, o => by
    unfold chkE at h
    cases h
  | .mth m a (.cons b .nil), T, sc, X, x, h, o => by
    unfold chkE at h
    split at h <;> first | (cases h; done) | (rename_i he; cases he; done) | skip
    rename_i he
    cases he
    simp only [Bool.and_eq_true, Bool.not_eq_true', beq_iff_eq] at h
    exact snd_mth h.1.1.1.1 (by simpa using h.1.1.1.2) h.1.1.2 h.2.1 (sndE a _ h.1.2.2 o) (sndE b _ h.2.2 o)
  | .gen all elt tg it, T, sc, X, x, h, o => by
    unfold chkE at h
    split at h <;> first | (cases h; done) | (rename_i he; cases he; done) | skip
    rename_i he
    cases he
    simp only [Bool.and_eq_true, beq_iff_eq] at h
    obtain ⟨⟨⟨⟨⟨⟨⟨h1, h2⟩, h3⟩, h4⟩, h5⟩, h6⟩, h7⟩, h8, h9⟩ := h
    obtain ⟨i1, i2⟩ := sndI it _ _ h7 o
    exact snd_gen o h1 h2 h3 h4 h5 h6 i1 i2 fun A' s H code fp pn hr => (sndE elt _ h9 (o.gcx hr s H code fp pn)).pe
  | .nop, T, sc, X, x, h, o => by
    unfold chkE at h
    cases h
  | .lc elt tg it cond, T, sc, X, x, h, o => by
    unfold chkE at h
    split at h <;> first | (cases h; done) | (rename_i he; cases he; done) | skip
    rename_i he
    cases he
    simp only [Bool.and_eq_true] at h
    obtain ⟨⟨⟨⟨h1, h2⟩, h3⟩, h4⟩, h5, h6⟩ := h
    obtain ⟨i1, i2⟩ := sndI it _ _ h3 o
    exact snd_lc o i1 h2 (fun s H C cl fp => pg_T (X := X.blk s H _ (compEnvC _ cl C X.env) fp) (by rw [(o.blk s H C cl fp).hN]; exact o.nd) o.calm (by rw [(o.blk s H C cl fp).hN, (o.blk s H C cl fp).hsc]; exact h1))
      (fun s H C cl fp => pts_of rfl h4 fun x _ hc => sndE cond x hc (o.blk s H C cl fp)) (fun s H C cl fp => (sndE elt _ h6 (o.blk s H C cl fp)).pe) i2
theorem sndEs : ∀ (es : Es) {T : Tab} {sc : Scope} {X : Cx} (xs : List Expr), chkEs T N sc es xs = true → OkX T B G cf k N sc X → PA X xs (tEs X.K B G cf es) ∧ ∀ x ∈ xs, plainX x = true
  | .nil, T, sc, X, [], h, o => ⟨PA.nil rfl, fun x hx => by cases hx⟩
  | .nil, T, sc, X, _ :: _, h, o => by simp [chkEs] at h
  | .cons e es, T, sc, X, [], h, o => by simp [chkEs] at h
  | .cons e es, T, sc, X, x :: xs, h, o => by
    simp only [chkEs, Bool.and_eq_true] at h
    obtain ⟨r1, r2⟩ := sndEs es xs h.2 o
    refine ⟨PA.cons_ h.1.1 (sndE e x h.1.2 o) r1, fun y hy => ?_⟩
    rcases List.mem_cons.mp hy with z | z
    · rw [z]; exact h.1.1
    · exact r2 y z
theorem sndI : ∀ (it : It) {T : Tab} {sc : Scope} {X : Cx} (x tg : Expr), chkI T N sc it x tg = true → OkX T B G cf k N sc X → PI X tg x (tI X.K B G cf it) ∧ ∀ v, foldedSetIterable x X.env v = pure v
  | .seq e, T, sc, X, x, tg, h, o => by
    simp only [chkI, Bool.and_eq_true] at h
    exact ⟨pi_seq (sndE e x h.2 o), fun v => fold_of h.1 _ _⟩
  | .rng1 a, T, sc, X, x, tg, h, o => by
    unfold chkI at h
    split at h <;> first | (cases h; done) | (rename_i he; cases he; done) | skip
    · rename_i he he1
      cases he
      cases he1
      simp only [Bool.and_eq_true, beq_iff_eq] at h
      exact ⟨pi_rng1 o h.1.1 h.1.2 h.2.1 (sndE a _ h.2.2 o), fun v => rfl⟩
  | .rng2 a b, T, sc, X, x, tg, h, o => by
    unfold chkI at h
    split at h <;> first | (cases h; done) | (rename_i he; cases he; done) | skip
    · rename_i he he1
      cases he
      cases he1
      simp only [Bool.and_eq_true, beq_iff_eq] at h
      obtain ⟨⟨⟨h1, h2⟩, h3, h4⟩, h5, h6⟩ := h
      exact ⟨pi_rng2 o h1 h2 h3 h5 (sndE a _ h4 o) (sndE b _ h6 o), fun v => rfl⟩
  | .rng3 _ _ _, T, sc, X, x, tg, h, o => by
    unfold chkI at h
    cases h
  | .zip a b, T, sc, X, x, tg, h, o => by
    unfold chkI at h
    split at h <;> first | (cases h; done) | (rename_i he; cases he; done) | skip
    · rename_i he he1
      cases he
      cases he1
      simp only [Bool.and_eq_true, beq_iff_eq] at h
      obtain ⟨⟨⟨h1, h2⟩, h3, h4⟩, h5, h6⟩ := h
      exact ⟨pi_zip_ o h1 h2 h3 h5 (sndE a _ h4 o) (sndE b _ h6 o), fun v => rfl⟩
end
end
end PV

set_option Elab.async false
set_option linter.all false
set_option maxRecDepth 100000
set_option maxHeartbeats 8000000
/-! PV, part J: the state at a statement. -/
namespace PV
open PySem PySem.Spec PyProof.Rows L2
section
variable {K : PySem.W.Frag} {B F F' L L' : AP} {H H' : Hp}
mutual
theorem Rep.nolk : ∀ (d : D) {v : V} {fp : List Addr}, d.noLck = true → Rep K F L H d v fp → Rep K F L' H d v fp
  | .non, _, _, _, h => h
  | .bl _, _, _, _, h => h
  | .int _, _, _, _, h => h
  | .str _, _, _, _, h => h
  | .scr _, _, _, _, h => h
  | .tup l, v, fp, n, h => by
    simp only [D.noLck] at n
    simp only [Rep] at h ⊢
    obtain ⟨a, xs, e, ta, hl, r⟩ := h
    exact ⟨a, xs, e, ta, RepL.nolk l n hl, r⟩
  | .lst f l, v, fp, n, h => by
    simp only [D.noLck, Bool.and_eq_true] at n
    simp only [Rep] at h ⊢
    obtain ⟨a, xs, fp', e, ha, hl, q⟩ := h
    refine ⟨a, xs, fp', e, ha, RepL.nolk l n.2 hl, ?_⟩
    cases f with
    | lck => exact absurd n.1 (by decide)
    | frz => exact q
    | own => exact q
theorem RepL.nolk : ∀ (ds : List D) {vs : List V} {fp : List Addr}, D.noLckL ds = true → RepL K F L H ds vs fp → RepL K F L' H ds vs fp
  | [], _, _, _, h => h
  | d :: ds, _, _, n, h => by
    simp only [D.noLckL, Bool.and_eq_true] at n
    simp only [RepL] at h ⊢
    obtain ⟨v, vr, f1, f2, e, h1, h2, e2⟩ := h
    exact ⟨v, vr, f1, f2, e, Rep.nolk d n.1 h1, RepL.nolk ds n.2 h2, e2⟩
end
mutual
theorem fp_noOwn : ∀ (d : D) {v : V} {fp : List Addr}, d.noOwn = true → Rep K F L H d v fp → fp = []
  | .non, _, _, _, h => by simp only [Rep] at h; exact h.2
  | .bl _, _, _, _, h => by simp only [Rep] at h; exact h.2
  | .int _, _, _, _, h => by simp only [Rep] at h; exact h.2
  | .str _, _, _, _, h => by simp only [Rep] at h; exact h.2.1
  | .scr _, _, _, _, h => by simp only [Rep] at h; obtain ⟨_, _, _, e⟩ := h; exact e
  | .tup l, _, _, _, h => by simp only [Rep] at h; obtain ⟨_, _, _, _, _, _, e⟩ := h; exact e
  | .lst f l, _, _, z, h => by
    simp only [D.noOwn, Bool.and_eq_true] at z
    simp only [Rep] at h
    obtain ⟨_, _, _, _, _, _, q⟩ := h
    cases f with
    | own => exact absurd z.1 (by decide)
    | frz => exact q.2.2.1
    | lck => exact q.2.2
theorem fpL_noOwn : ∀ (ds : List D) {vs : List V} {fp : List Addr}, D.noOwnL ds = true → RepL K F L H ds vs fp → fp = []
  | [], _, _, _, h => by simp only [RepL] at h; exact h.2
  | d :: ds, _, _, z, h => by
    simp only [D.noOwnL, Bool.and_eq_true] at z
    simp only [RepL] at h
    obtain ⟨v, vr, f1, f2, e, h1, h2, e2⟩ := h
    rw [e2, fp_noOwn d z.1 h1, fpL_noOwn ds z.2 h2]; rfl
end
end
mutual
theorem lock_noOwn : ∀ d : D, d.lock.noOwn = true
  | .non => rfl
  | .bl _ => rfl
  | .int _ => rfl
  | .str _ => rfl
  | .scr _ => rfl
  | .tup l => by simp only [D.lock, D.noOwn]; exact lockL_noOwn l
  | .lst f l => by simp only [D.lock, D.noOwn, Bool.and_eq_true]; exact ⟨by cases f <;> rfl, lockL_noOwn l⟩
theorem lockL_noOwn : ∀ ds : List D, D.noOwnL (D.lockL ds) = true
  | [] => rfl
  | d :: ds => by simp only [D.lockL, D.noOwnL, Bool.and_eq_true]; exact ⟨lock_noOwn d, lockL_noOwn ds⟩
end
theorem noLck_frz (d : D) : d.frz.noLck = true := noLck_of _ (isFrz_frz d)
theorem okD_nl {d : D} (h : d.noLck = true) : d.okD = true := by unfold D.okD; rw [h]; rfl
theorem okD_no {d : D} (h : d.noOwn = true) : d.okD = true := by unfold D.okD; rw [h]; simp
/-- the state at a statement -/
structure SR (K : PySem.W.Frag) (B F L : AP) (H : Hp) (σ : L2.St) (env : Env) (fp : Nat → List Addr) : Prop where
  len : σ.length = env.length
  rep : ∀ (i : Nat) (d : D), env[i]? = some (some d) → ∃ v, σ[i]? = some (some v) ∧ Rep K F L H d v (fp i)
  ok : ∀ (i : Nat) (d : D), env[i]? = some (some d) → d.okD = true
  nd : ∀ i, (fp i).Nodup
  dj : ∀ i j a, a ∈ fp i → a ∈ fp j → i = j
  fr : ∀ i a, a ∈ fp i → ¬ F a ∧ ¬ L a ∧ H a ≠ none
  FH : ∀ a, F a → H a ≠ none
  LH : ∀ a, L a → H a ≠ none
  tb : ∀ P, B P → GxR.TabG H P
/-- what a statement leaves -/
structure Pst (F : AP) (H : Hp) (σ : L2.St) (env : Env) (fp : Nat → List Addr) (F' : AP) (H' : Hp) (σ' : L2.St) (env' : Env) (fp' : Nat → List Addr) : Prop where
  kp : ∀ a o, H a = some o → datO o = true → (∀ i, a ∉ fp i) → H' a = some o
  st : ∀ a, H a ≠ none → H' a ≠ none
  mono : ∀ a, F a → F' a
  new : ∀ a, F' a → F a ∨ (∃ i, a ∈ fp i) ∨ H a = none
  own : ∀ i a, a ∈ fp' i → (∃ j, a ∈ fp j) ∨ H a = none
  lk : ∀ (i : Nat) (d : D), env'[i]? = some (some d) → d.noLck = false → env[i]? = some (some d) ∧ σ'[i]? = σ[i]?
  ln : env'.length = env.length
  tb : ∀ P, GxR.TabG H P → GxR.TabG H' P
/-- what a return leaves -/
structure PstR (K : PySem.W.Frag) (F L : AP) (H : Hp) (fp : Nat → List Addr) (F' : AP) (H' : Hp) (d : D) (v : V) (fv : List Addr) : Prop where
  kp : ∀ a o, H a = some o → datO o = true → (∀ i, a ∉ fp i) → H' a = some o
  st : ∀ a, H a ≠ none → H' a ≠ none
  mono : ∀ a, F a → F' a
  new : ∀ a, F' a → F a ∨ (∃ i, a ∈ fp i) ∨ H a = none
  FH : ∀ a, F' a → H' a ≠ none
  rep : Rep K F' L H' d v fv
  nl : d.noLck = true
  nd : fv.Nodup
  own : ∀ a, a ∈ fv → ((∃ j, a ∈ fp j) ∨ H a = none) ∧ ¬ F' a
  tb : ∀ P, GxR.TabG H P → GxR.TabG H' P
section
variable {K : PySem.W.Frag} {B F F1 F2 L : AP} {H H1 H2 : Hp} {σ σ1 σ2 : L2.St} {env env1 env2 : Env} {fp fp1 fp2 : Nat → List Addr}
theorem Pst.of (g : Grow F F1 H H1) : Pst F H σ env fp F1 H1 σ env fp :=
  ⟨fun a o e dd _ => g.keep a o e dd, g.ne, g.mono, fun a e => (g.new a e).imp id .inr, fun i a h => .inl ⟨i, h⟩, fun i d e _ => ⟨e, rfl⟩, rfl, g.tb⟩
theorem none_bk {a : Addr} (st : ∀ a, H a ≠ none → H1 a ≠ none) (h : H1 a = none) : H a = none := by
  cases q : H a with
  | none => rfl
  | some o => exact absurd h (st a (by rw [q]; simp))
theorem Pst.nfp (p : Pst F H σ env fp F1 H1 σ1 env1 fp1) {a : Addr} {o : HO} (e : H a = some o) (h : ∀ i, a ∉ fp i) : ∀ i, a ∉ fp1 i := fun i z =>
  (p.own i a z).elim (fun ⟨j, hj⟩ => h j hj) fun q => by rw [e] at q; cases q
theorem Pst.trans (p : Pst F H σ env fp F1 H1 σ1 env1 fp1) (q : Pst F1 H1 σ1 env1 fp1 F2 H2 σ2 env2 fp2) : Pst F H σ env fp F2 H2 σ2 env2 fp2 where
  kp := fun a o e dd h => q.kp a o (p.kp a o e dd h) dd (p.nfp e h)
  st := fun a h => q.st a (p.st a h)
  mono := fun a h => q.mono a (p.mono a h)
  new := fun a h => (q.new a h).elim (p.new a) fun z => z.elim (fun ⟨i, hi⟩ => .inr (p.own i a hi)) fun z => .inr (.inr (none_bk p.st z))
  own := fun i a h => (q.own i a h).elim (fun ⟨j, hj⟩ => p.own j a hj) fun z => .inr (none_bk p.st z)
  lk := fun i d e n => by
    obtain ⟨e1, s1⟩ := q.lk i d e n
    obtain ⟨e2, s2⟩ := p.lk i d e1 n
    exact ⟨e2, s1.trans s2⟩
  ln := q.ln.trans p.ln
  tb := fun P e => q.tb P (p.tb P e)
theorem Pst.ret (p : Pst F H σ env fp F1 H1 σ1 env1 fp1) {d : D} {v : V} {fv : List Addr} (q : PstR K F1 L H1 fp1 F2 H2 d v fv) : PstR K F L H fp F2 H2 d v fv where
  kp := fun a o e dd h => q.kp a o (p.kp a o e dd h) dd (p.nfp e h)
  st := fun a h => q.st a (p.st a h)
  mono := fun a h => q.mono a (p.mono a h)
  new := fun a h => (q.new a h).elim (p.new a) fun z => z.elim (fun ⟨i, hi⟩ => .inr (p.own i a hi)) fun z => .inr (.inr (none_bk p.st z))
  FH := q.FH
  rep := q.rep
  nl := q.nl
  nd := q.nd
  tb := fun P e => q.tb P (p.tb P e)
  own := fun a h => ⟨(q.own a h).1.elim (fun ⟨j, hj⟩ => p.own j a hj) fun z => .inr (none_bk p.st z), (q.own a h).2⟩
theorem SR.grow (s : SR K B F L H σ env fp) (g : Grow F F1 H H1) : SR K B F1 L H1 σ env fp where
  len := s.len
  rep := fun i d e => let ⟨v, h1, h2⟩ := s.rep i d e; ⟨v, h1, h2.grow g⟩
  ok := s.ok
  nd := s.nd
  dj := s.dj
  fr := fun i a h => ⟨fun z => (g.new a z).elim (s.fr i a h).1 (s.fr i a h).2.2, (s.fr i a h).2.1, fun z => (s.fr i a h).2.2 (g.free z)⟩
  FH := g.st
  LH := g.lk s.LH
  tb := fun P b => g.tb P (s.tb P b)
/-- all that is owned -/
def full (L : AP) (fp : Nat → List Addr) : AP := fun a => L a ∨ ∃ i, a ∈ fp i
/-- the state as an expression meets it -/
theorem SR.x (s : SR K B F L H σ env fp) : SX K B F (full L fp) H σ env where
  len := s.len
  rep := fun i d e => by
    obtain ⟨v, h1, h2⟩ := s.rep i d e
    exact ⟨v, h1, Rep.mono (fun _ e => e) (fun a e => e.imp id fun z => ⟨i, z⟩) _ (fun _ _ e _ _ => e) h2.lend⟩
  FH := s.FH
  LH := fun a h => h.elim (s.LH a) fun ⟨i, hi⟩ => (s.fr i a hi).2.2
  tb := s.tb
/-- a slot is written -/
theorem SR.put (s : SR K B F L H σ env fp) {i : Nat} {d : D} {v : V} {fv : List Addr} (hi : i < env.length) (r : Rep K F L H d v fv) (ok : d.okD = true) (nd : fv.Nodup)
    (fr : ∀ a ∈ fv, ¬ F a ∧ ¬ L a ∧ H a ≠ none ∧ ∀ j, j ≠ i → a ∉ fp j) : SR K B F L H (σ.set i (some v)) (env.set i (some d)) (fun j => if j = i then fv else fp j) where
  len := by simp [s.len]
  rep := fun j d' e => by
    by_cases h : j = i
    · subst h
      rw [List.getElem?_set_self hi] at e
      cases e
      refine ⟨v, List.getElem?_set_self (by rw [s.len]; exact hi), ?_⟩
      rw [if_pos rfl]
      exact r
    · rw [List.getElem?_set_ne (Ne.symm h)] at e ⊢
      rw [if_neg h]
      exact s.rep j d' e
  ok := fun j d' e => by
    by_cases h : j = i
    · subst h
      rw [List.getElem?_set_self hi] at e
      cases e
      exact ok
    · rw [List.getElem?_set_ne (Ne.symm h)] at e
      exact s.ok j d' e
  nd := fun j => by
    by_cases h : j = i
    · simp only [if_pos h]; exact nd
    · simp only [if_neg h]; exact s.nd j
  dj := fun j k a h1 h2 => by
    by_cases hj : j = i
    · by_cases hk : k = i
      · rw [hj, hk]
      · simp only [if_pos hj] at h1
        simp only [if_neg hk] at h2
        exact absurd h2 ((fr a h1).2.2.2 k hk)
    · by_cases hk : k = i
      · simp only [if_neg hj] at h1
        simp only [if_pos hk] at h2
        exact absurd h1 ((fr a h2).2.2.2 j hj)
      · simp only [if_neg hj] at h1
        simp only [if_neg hk] at h2
        exact s.dj j k a h1 h2
  fr := fun j a h => by
    by_cases hj : j = i
    · simp only [if_pos hj] at h
      exact ⟨(fr a h).1, (fr a h).2.1, (fr a h).2.2.1⟩
    · simp only [if_neg hj] at h
      exact s.fr j a h
  FH := s.FH
  LH := s.LH
  tb := s.tb
theorem Pst.put {i : Nat} {d : D} {v : V} {fv : List Addr} (g : Grow F F1 H H1) (n : d.noLck = true) (hi : i < env.length) (fr : ∀ a ∈ fv, (∃ j, a ∈ fp j) ∨ H a = none) :
    Pst F H σ env fp F1 H1 (σ.set i (some v)) (env.set i (some d)) (fun j => if j = i then fv else fp j) :=
  ⟨fun a o e dd _ => g.keep a o e dd, g.ne, g.mono, fun a e => (g.new a e).imp id .inr, fun j a h => by
    by_cases hj : j = i
    · simp only [if_pos hj] at h; exact fr a h
    · simp only [if_neg hj] at h; exact .inl ⟨j, h⟩, fun j d' e nl => by
    by_cases h : j = i
    · subst h
      rw [List.getElem?_set_self hi] at e
      cases e
      rw [n] at nl; cases nl
    · rw [List.getElem?_set_ne (Ne.symm h)] at e ⊢
      exact ⟨e, rfl⟩, by simp, g.tb⟩
/-- a new value into a slot -/
theorem SR.new (s : SR K B F L H σ env fp) (g : Grow F F1 H H1) {i : Nat} {d : D} {v : V} {fv : List Addr} (hi : i < env.length) (n : NewV K F1 (full L fp) H H1 d v fv) (nl : d.noLck = true) :
    SR K B F1 L H1 (σ.set i (some v)) (env.set i (some d)) (fun j => if j = i then fv else fp j) :=
  (s.grow g).put hi (n.rep.nolk d nl) (okD_nl nl) n.nd fun a ha => ⟨(n.fresh a ha).2, fun z => s.LH a z (n.fresh a ha).1, (by
    obtain ⟨o, e⟩ := n.rep.stand d a ha
    rw [e]; simp), fun j _ z => (s.fr j a z).2.2 (n.fresh a ha).1⟩
end
/-! ### the ends of a block -/
def Kont (K : PySem.W.Frag) (B : AP) (D : Ends) (F L : AP) (H : Hp) (σ : L2.St) (env : Env) (fp : Nat → List Addr) : Out → Prop
  | .nx e => ∀ F' H' σ' fp', SR K B F' L H' σ' e fp' → Pst F H σ env fp F' H' σ' e fp' → D.nx σ' H'
  | .bk e => ∀ F' H' σ' fp', SR K B F' L H' σ' e fp' → Pst F H σ env fp F' H' σ' e fp' → D.bk σ' H'
  | .ct e => ∀ F' H' σ' fp', SR K B F' L H' σ' e fp' → Pst F H σ env fp F' H' σ' e fp' → D.ct σ' H'
  | .rt d => ∀ F' H' v fv, PstR K F L H fp F' H' d v fv → D.rt v H'
def tS (K : PySem.W.Frag) (B : AP) (f : Env → Option Out) : TS := fun D σ H => ∃ F L env fp o, SR K B F L H σ env fp ∧ f env = some o ∧ Kont K B D F L H σ env fp o
section
variable {K : PySem.W.Frag} {B F F1 F2 L : AP} {H H1 H2 : Hp} {σ σ1 σ2 : L2.St} {env env1 env2 : Env} {fp fp1 fp2 : Nat → List Addr} {D D' : Ends} {o : Out}
theorem Kont.trans (k : Kont K B D F L H σ env fp o) (p : Pst F H σ env fp F1 H1 σ1 env1 fp1) : Kont K B D F1 L H1 σ1 env1 fp1 o := by
  cases o with
  | nx e => exact fun F' H' σ' fp' s q => k F' H' σ' fp' s (p.trans q)
  | bk e => exact fun F' H' σ' fp' s q => k F' H' σ' fp' s (p.trans q)
  | ct e => exact fun F' H' σ' fp' s q => k F' H' σ' fp' s (p.trans q)
  | rt d => exact fun F' H' v fv q => k F' H' v fv (p.ret q)
theorem Kont.grow (k : Kont K B D F L H σ env fp o) (g : Grow F F1 H H1) : Kont K B D F1 L H1 σ env fp o := k.trans (Pst.of g)
end
section
variable {T : Tab} {B : AP} {G : Glob} {cf : Nat → List D → Option D} {k : Nat} {N : List Str} {sc : Scope} {X : Cx}
/-- one statement, then the others -/
theorem tS_cons {K : PySem.W.Frag} {s : S} {ss : Ss} {D : Ends} {σ : L2.St} {H : Hp} (h : tS K B (exs G cf (.cons s ss)) D σ H) : tSeq (tS K B (ex G cf s)) (tS K B (exs G cf ss)) D σ H := by
  obtain ⟨F, L, env, fp, o, r, h, kk⟩ := h
  simp only [exs, Option.bind_eq_some_iff] at h
  obtain ⟨o1, h1, h⟩ := h
  refine ⟨F, L, env, fp, o1, r, h1, ?_⟩
  cases o1 with
  | nx e => exact fun F' H' σ' fp' s' p => ⟨F', L, e, fp', o, s', h, kk.trans p⟩
  | bk e => cases h; exact kk
  | ct e => cases h; exact kk
  | rt d => cases h; exact kk
theorem tS_nil {K : PySem.W.Frag} {D : Ends} {σ : L2.St} {H : Hp} (h : tS K B (exs G cf .nil) D σ H) : tNext D σ H := by
  obtain ⟨F, L, env, fp, o, r, h, kk⟩ := h
  simp only [exs, Option.some.injEq] at h
  subst h
  exact kk F H σ fp r (Pst.of (Grow.refl r.FH))
theorem tS_tail {K : PySem.W.Frag} {s : S} {D : Ends} {σ : L2.St} {H : Hp} (h : tS K B (exs G cf (.cons s .nil)) D σ H) : tS K B (ex G cf s) D σ H := by
  obtain ⟨F, L, env, fp, o, r, h, kk⟩ := h
  simp only [exs, Option.bind_eq_some_iff] at h
  obtain ⟨o1, h1, h⟩ := h
  refine ⟨F, L, env, fp, o1, r, h1, ?_⟩
  cases o1 <;> (cases h; exact kk)
/-- a test within a block -/
theorem tS_T {K : PySem.W.Frag} {c : E} {F L : AP} {H : Hp} {σ : L2.St} {env : Env} {fp : Nat → List Addr} {b : Bool} {Q : Bool → Hp → Prop} (s : SR K B F L H σ env fp) (h : asBl (ev G cf c env) = some b)
    (kk : ∀ F' H', Grow F F' H H' → Q b H') : tT K B G cf c σ H Q := ⟨F, full L fp, env, b, s.x, h, kk⟩
theorem tS_if {K : PySem.W.Frag} {c : E} {a b : Ss} {D : Ends} {σ : L2.St} {H : Hp} (h : tS K B (ex G cf (.ite c a b)) D σ H) : tIfS (tT K B G cf c) (tS K B (exs G cf a)) (tS K B (exs G cf b)) D σ H := by
  obtain ⟨F, L, env, fp, o, r, h, kk⟩ := h
  simp only [ex, Option.bind_eq_some_iff] at h
  obtain ⟨x, hx, h⟩ := h
  refine tS_T r hx fun F' H' g => ?_
  cases x with
  | true => exact ⟨F', L, env, fp, o, r.grow g, h, kk.grow g⟩
  | false => exact ⟨F', L, env, fp, o, r.grow g, h, kk.grow g⟩
theorem setE_some {env env' : Env} {i : Nat} {d : D} (h : setE env i d = some env') : i < env.length ∧ d.noLck = true ∧ env' = env.set i (some d) := by
  unfold setE at h
  split at h
  · rename_i hz
    exact ⟨hz.1, hz.2, (Option.some.inj h).symm⟩
  · cases h
theorem setF_some {env env' : Env} {i : Nat} {d : D} (h : setF env i d = some env') : i < env.length ∧ d.isFrz = true ∧ env' = env.set i (some d) := by
  unfold setF at h
  split at h
  · rename_i hz
    exact ⟨hz.1, hz.2, (Option.some.inj h).symm⟩
  · cases h
theorem tS_asg {K : PySem.W.Frag} {fr : Bool} {i : Nat} {e : E} {D : Ends} {σ : L2.St} {H : Hp} (h : tS K B (ex G cf (.asg fr i e)) D σ H) : tAsg (tE K B G cf e) (gName i) D σ H := by
  obtain ⟨F, L, env, fp, o, r, h, kk⟩ := h
  simp only [ex, Option.bind_eq_some_iff] at h
  obtain ⟨d, hd, h⟩ := h
  refine ⟨F, full L fp, env, d, r.x, hd, fun v H' F' fv g n => ?_⟩
  split at h
  · split at h
    · rename_i nl
      simp only [Option.map_eq_some_iff] at h
      obtain ⟨env', he, rfl⟩ := h
      obtain ⟨hi, nl', rfl⟩ := setE_some he
      obtain ⟨g', r'⟩ := freeze_v g n nl
      exact kk _ H' _ _ ((r.new g' hi (.plain r') nl')) (Pst.put g' nl' hi fun a ha => by cases ha)
    · cases h
  · simp only [Option.map_eq_some_iff] at h
    obtain ⟨env', he, rfl⟩ := h
    obtain ⟨hi, nl', rfl⟩ := setE_some he
    exact kk _ H' _ _ (r.new g hi n nl') (Pst.put g nl' hi fun a ha => .inr (n.fresh a ha).1)
theorem tS_ret {K : PySem.W.Frag} {e : E} {D : Ends} {σ : L2.St} {H : Hp} (h : tS K B (ex G cf (.ret e)) D σ H) : tRet (tE K B G cf e) D σ H := by
  obtain ⟨F, L, env, fp, o, r, h, kk⟩ := h
  simp only [ex, Option.bind_eq_some_iff] at h
  obtain ⟨d, hd, h⟩ := h
  split at h
  · rename_i nl
    cases h
    refine ⟨F, full L fp, env, d, r.x, hd, fun v H' F' fv g n => ?_⟩
    refine kk F' H' v fv ⟨fun a o e dd _ => g.keep a o e dd, g.ne, g.mono, fun a e => (g.new a e).imp id .inr, g.st, n.rep.nolk d nl, nl, n.nd, fun a ha => ⟨.inr (n.fresh a ha).1, (n.fresh a ha).2⟩, g.tb⟩
  · cases h
theorem tS_retMv {K : PySem.W.Frag} {i : Nat} {D : Ends} {σ : L2.St} {H : Hp} (h : tS K B (ex G cf (.retMv i)) D σ H) : tRet (tVar i) D σ H := by
  obtain ⟨F, L, env, fp, o, r, h, kk⟩ := h
  simp only [ex, Option.bind_eq_some_iff] at h
  obtain ⟨d, hd, h⟩ := h
  split at h
  · rename_i nl
    cases h
    unfold getE at hd
    split at hd
    · rename_i d1 he
      cases hd
      obtain ⟨v, hv, rv⟩ := r.rep i _ he
      refine ⟨v, hv, kk F H v (fp i) ⟨fun a o e _ _ => e, fun a h => h, fun a e => e, fun a e => .inl e, r.FH, rv, nl, r.nd i, fun a ha => ⟨.inl ⟨i, ha⟩, (r.fr i a ha).1⟩, fun _ e => e⟩⟩
    · cases hd
  · cases h
/-- x = y, what y had goes over -/
theorem tS_mv {K : PySem.W.Frag} {i j : Nat} {D : Ends} {σ : L2.St} {H : Hp} (h : tS K B (ex G cf (.mv i j)) D σ H) : tAsg (tVar j) (gName i) D σ H := by
  obtain ⟨F, L, env, fp, o, r, h, kk⟩ := h
  simp only [ex, Option.bind_eq_some_iff] at h
  obtain ⟨d, hd, h⟩ := h
  split at h
  · rename_i hz
    obtain ⟨hij, hi, nl⟩ := hz
    cases h
    unfold getE at hd
    split at hd
    · rename_i d1 he
      cases hd
      obtain ⟨v, hv, rv⟩ := r.rep j _ he
      have r1 : SR K B F L H σ (env.set j none) (fun k => if k = j then [] else fp k) := by
        refine ⟨by simp [r.len], fun k d' e => ?_, fun k d' e => ?_, fun k => ?_, fun k l a h1 h2 => ?_, fun k a ha => ?_, r.FH, r.LH, r.tb⟩
        · by_cases q : k = j
          · subst q
            rw [List.getElem?_set] at e
            simp at e
          · rw [List.getElem?_set_ne (Ne.symm q)] at e
            rw [if_neg q]
            exact r.rep k d' e
        · by_cases q : k = j
          · subst q
            rw [List.getElem?_set] at e
            simp at e
          · rw [List.getElem?_set_ne (Ne.symm q)] at e
            exact r.ok k d' e
        · by_cases q : k = j
          · simp only [if_pos q]; exact List.nodup_nil
          · simp only [if_neg q]; exact r.nd k
        · by_cases q : k = j
          · simp only [if_pos q] at h1; cases h1
          · by_cases q' : l = j
            · simp only [if_pos q'] at h2; cases h2
            · simp only [if_neg q] at h1; simp only [if_neg q'] at h2; exact r.dj k l a h1 h2
        · by_cases q : k = j
          · simp only [if_pos q] at ha; cases ha
          · simp only [if_neg q] at ha; exact r.fr k a ha
      have r2 := r1.put (i := i) (d := d) (v := v) (fv := fp j) (by simpa using hi) rv (okD_nl nl) (r.nd j) fun a ha => ⟨(r.fr j a ha).1, (r.fr j a ha).2.1, (r.fr j a ha).2.2, fun k hk => by
        by_cases q : k = j
        · simp only [if_pos q]; exact fun z => by cases z
        · simp only [if_neg q]; exact fun z => q (r.dj k j a z ha)⟩
      refine ⟨v, hv, kk F H _ _ r2 ⟨fun a o e _ _ => e, fun a h => h, fun a e => e, fun a e => .inl e, fun k a ha => ?_, fun k d' e n => ?_, by simp, fun _ e => e⟩⟩
      · by_cases q : k = i
        · simp only [if_pos q] at ha; exact .inl ⟨j, ha⟩
        · simp only [if_neg q] at ha
          by_cases q' : k = j
          · simp only [if_pos q'] at ha; cases ha
          · simp only [if_neg q'] at ha; exact .inl ⟨k, ha⟩
      · by_cases q : k = i
        · subst q
          rw [List.getElem?_set_self (by simpa using hi)] at e
          cases e
          rw [nl] at n; cases n
        · rw [List.getElem?_set_ne (Ne.symm q)] at e ⊢
          by_cases q' : k = j
          · subst q'
            rw [List.getElem?_set] at e
            simp at e
          · rw [List.getElem?_set_ne (Ne.symm q')] at e
            exact ⟨e, rfl⟩
    · cases hd
  · cases h
theorem tS_retN {K : PySem.W.Frag} {D : Ends} {σ : L2.St} {H : Hp} (h : tS K B (ex G cf .retN) D σ H) : tRetN D σ H := by
  obtain ⟨F, L, env, fp, o, r, h, kk⟩ := h
  simp only [ex, Option.some.injEq] at h
  subst h
  exact kk F H .non [] ⟨fun a o e _ _ => e, fun a h => h, fun a e => e, fun a e => .inl e, r.FH, by simp [Rep], rfl, List.nodup_nil, (fun a ha => by cases ha), fun _ e => e⟩
theorem tS_brk {K : PySem.W.Frag} {D : Ends} {σ : L2.St} {H : Hp} (h : tS K B (ex G cf .brk) D σ H) : tBreak D σ H := by
  obtain ⟨F, L, env, fp, o, r, h, kk⟩ := h
  simp only [ex, Option.some.injEq] at h
  subst h
  exact kk F H σ fp r (Pst.of (Grow.refl r.FH))
theorem tS_cnt {K : PySem.W.Frag} {D : Ends} {σ : L2.St} {H : Hp} (h : tS K B (ex G cf .cnt) D σ H) : tCont D σ H := by
  obtain ⟨F, L, env, fp, o, r, h, kk⟩ := h
  simp only [ex, Option.some.injEq] at h
  subst h
  exact kk F H σ fp r (Pst.of (Grow.refl r.FH))
theorem tS_pass {K : PySem.W.Frag} {D : Ends} {σ : L2.St} {H : Hp} (h : tS K B (ex G cf .pass) D σ H) : tNext D σ H := by
  obtain ⟨F, L, env, fp, o, r, h, kk⟩ := h
  simp only [ex, Option.some.injEq] at h
  subst h
  exact kk F H σ fp r (Pst.of (Grow.refl r.FH))
theorem tS_expr {K : PySem.W.Frag} {e : E} {D : Ends} {σ : L2.St} {H : Hp} (h : tS K B (ex G cf (.expr e)) D σ H) : tDrop (tE K B G cf e) D σ H := by
  obtain ⟨F, L, env, fp, o, r, h, kk⟩ := h
  simp only [ex, Option.map_eq_some_iff] at h
  obtain ⟨d, hd, rfl⟩ := h
  exact ⟨F, full L fp, env, d, r.x, hd, fun v H' F' fv g n => kk F' H' σ fp (r.grow g) (Pst.of g)⟩
/-- a slot's own nodes are frozen -/
theorem tS_fz {K : PySem.W.Frag} {i : Nat} {ss : Ss} {D : Ends} {σ : L2.St} {H : Hp} (h : tS K B (exs G cf (.cons (.fz i) ss)) D σ H) : tS K B (exs G cf ss) D σ H := by
  obtain ⟨F, L, env, fp, o, r, h, kk⟩ := h
  simp only [exs, ex, Option.bind_eq_some_iff] at h
  obtain ⟨o1, ⟨d, hd, h1⟩, h⟩ := h
  split at h1
  · rename_i nl
    cases h1
    unfold getE at hd
    split at hd
    · rename_i d1 he
      cases hd
      obtain ⟨v, hv, rv⟩ := r.rep i _ he
      have hi : i < env.length := (List.getElem?_eq_some_iff.mp he).1
      have s' : SR K B (fun a => F a ∨ a ∈ fp i) L H σ (env.set i (some d.frz)) (fun j => if j = i then [] else fp j) := by
        refine ⟨by simp [r.len], fun j d' e => ?_, fun j d' e => ?_, fun j => ?_, fun j l a h1 h2 => ?_, fun j a ha => ?_, fun a e => e.elim (r.FH a) fun z => (r.fr i a z).2.2, r.LH, r.tb⟩
        · by_cases q : j = i
          · subst q
            rw [List.getElem?_set_self hi] at e
            cases e
            rw [if_pos rfl]
            exact ⟨v, hv, rv.freeze d nl⟩
          · rw [List.getElem?_set_ne (Ne.symm q)] at e
            rw [if_neg q]
            obtain ⟨u, h1, h2⟩ := r.rep j d' e
            exact ⟨u, h1, Rep.mono (fun _ e => .inl e) (fun _ e => e) d' (fun _ _ e _ _ => e) h2⟩
        · by_cases q : j = i
          · subst q
            rw [List.getElem?_set_self hi] at e
            cases e
            exact okD_nl (noLck_frz d)
          · rw [List.getElem?_set_ne (Ne.symm q)] at e
            exact r.ok j d' e
        · by_cases q : j = i
          · simp only [if_pos q]; exact List.nodup_nil
          · simp only [if_neg q]; exact r.nd j
        · by_cases q : j = i
          · simp only [if_pos q] at h1; cases h1
          · by_cases q' : l = i
            · simp only [if_pos q'] at h2; cases h2
            · simp only [if_neg q] at h1; simp only [if_neg q'] at h2; exact r.dj j l a h1 h2
        · by_cases q : j = i
          · simp only [if_pos q] at ha; cases ha
          · simp only [if_neg q] at ha
            exact ⟨fun z => z.elim (r.fr j a ha).1 fun z => q (r.dj j i a ha z), (r.fr j a ha).2⟩
      refine ⟨_, L, _, _, o, s', h, kk.trans ⟨fun a o e _ _ => e, fun a h => h, fun a e => .inl e, fun a e => e.elim .inl fun z => .inr (.inl ⟨i, z⟩), fun j a ha => ?_, fun j d' e n => ?_, by simp, fun _ e => e⟩⟩
      · by_cases q : j = i
        · simp only [if_pos q] at ha; cases ha
        · simp only [if_neg q] at ha; exact .inl ⟨j, ha⟩
      · by_cases q : j = i
        · subst q
          rw [List.getElem?_set_self hi] at e
          cases e
          rw [noLck_frz] at n; cases n
        · rw [List.getElem?_set_ne (Ne.symm q)] at e
          exact ⟨e, rfl⟩
    · cases hd
  · cases h1
end
end PV

set_option Elab.async false
set_option linter.all false
set_option maxRecDepth 100000
set_option maxHeartbeats 8000000
/-! PV, part K: statements that store, loops. -/
namespace PV
open PySem PySem.Spec PyProof.Rows L2
section
variable {K : PySem.W.Frag} {B F F1 F2 L : AP} {H H1 H2 : Hp} {σ σ1 σ2 : L2.St} {env env1 env2 : Env} {fp fp1 fp2 : Nat → List Addr}
theorem Pst.none (st : ∀ a, F a → H a ≠ .none) : Pst F H σ env fp F H σ env fp := Pst.of (Grow.refl st)
/-- a frozen value into a slot -/
theorem SR.putF (s : SR K B F L H σ env fp) {i : Nat} {d : D} {v : V} (r : Rep K F L H d v []) (h : setF env i d = some env1) :
    SR K B F L H (σ.set i (some v)) env1 (fun j => if j = i then [] else fp j) ∧ Pst F H σ env fp F H (σ.set i (some v)) env1 (fun j => if j = i then [] else fp j) := by
  obtain ⟨hi, fz, rfl⟩ := setF_some h
  exact ⟨s.put hi r (okD_nl (noLck_of d fz)) List.nodup_nil fun a ha => (by cases ha), Pst.put (Grow.refl s.FH) (noLck_of d fz) hi fun a ha => by cases ha⟩
theorem put_ns : ∀ {is : List Nat} {ds : List D} {vs : List V} {σ : L2.St} {env env1 : Env} {fp : Nat → List Addr} {Q : L2.St → Hp → Prop}, SR K B F L H σ env fp → RepL K F L H ds vs [] → setEs is ds env = some env1 →
    (∀ σ' fp', SR K B F L H σ' env1 fp' → Pst F H σ env fp F H σ' env1 fp' → Q σ' H) → gNs is vs σ H Q
  | [], [], vs, σ, env, env1, fp, Q, s, r, h, k => by
    simp only [RepL] at r
    simp only [setEs, Option.some.injEq] at h
    subst h
    exact ⟨r.1, k σ fp s (Pst.none s.FH)⟩
  | i :: is, d :: ds, vs, σ, env, env1, fp, Q, s, r, h, k => by
    simp only [RepL] at r
    obtain ⟨v, vr, f1, f2, e, h1, h2, e2⟩ := r
    obtain ⟨rfl, rfl⟩ : f1 = [] ∧ f2 = [] := List.append_eq_nil_iff.mp e2.symm
    simp only [setEs, Option.bind_eq_some_iff] at h
    obtain ⟨env2, he, h⟩ := h
    obtain ⟨s1, p1⟩ := s.putF h1 he
    refine ⟨v, vr, e, ?_⟩
    show gNs is vr (σ.set i (some v)) H Q
    exact put_ns s1 h2 h fun σ' fp' s' p' => k σ' fp' s' (p1.trans p')
  | [], _ :: _, _, _, _, _, _, _, _, _, h, _ => by simp [setEs] at h
  | _ :: _, [], _, _, _, _, _, _, _, _, h, _ => by simp [setEs] at h
theorem setEs_len : ∀ {is : List Nat} {l : List D} {env env' : Env}, setEs is l env = some env' → l.length = is.length
  | [], [], _, _, _ => rfl
  | [], _ :: _, _, _, h => by simp [setEs] at h
  | _ :: _, [], _, _, h => by simp [setEs] at h
  | i :: is, d :: ds, env, env', h => by
    simp only [setEs, Option.bind_eq_some_iff] at h
    obtain ⟨e1, _, h⟩ := h
    simp [setEs_len h]
theorem put_T {tg : Tg} {d : D} {v : V} {Q : L2.St → Hp → Prop} (s : SR K B F L H σ env fp) (r : Rep K F L H d v []) (h : bindT tg d env = some env1)
    (k : ∀ σ' fp', SR K B F L H σ' env1 fp' → Pst F H σ env fp F H σ' env1 fp' → Q σ' H) : gT K tg v σ H Q := by
  cases tg with
  | name i =>
    obtain ⟨s1, p1⟩ := s.putF r h
    exact k _ _ s1 p1
  | tup is =>
    cases d with
    | tup l =>
      obtain ⟨a, xs, rfl, ta, hl, _, _⟩ := r.tup_
      exact ⟨a, xs, rfl, ta.sq, by rw [hl.length]; exact setEs_len h, put_ns s hl h k⟩
    | _ => simp [bindT] at h
/-- the list of a slot is written -/
theorem SR.write (s : SR K B F L H σ env fp) {i : Nat} {a : Addr} {l l' : List D} {xs xs' : List V} {fp' : List Addr} (he : env[i]? = some (some (.lst .own l))) (hv : σ[i]? = some (some (.ref a))) (hf : fp i = a :: fp') (hH : H a = some (.lst xs))
    (r : RepL K F L H l' xs' fp') (nl : D.noLckL l' = true) : SR K B F L (upd H a (.lst xs')) σ (env.set i (some (.lst .own l'))) fp ∧ Pst F H σ env fp F (upd H a (.lst xs')) σ (env.set i (some (.lst .own l'))) fp := by
  have hi : i < env.length := (List.getElem?_eq_some_iff.mp he).1
  have ha : a ∈ fp i := by rw [hf]; exact List.mem_cons_self
  obtain ⟨nF, nL, nH⟩ := s.fr i a ha
  have na : a ∉ fp' := by
    have := s.nd i
    rw [hf] at this
    exact (List.nodup_cons.mp this).1
  have up : ∀ b o, b ≠ a → H b = some o → upd H a (.lst xs') b = some o := fun b o n e => by rw [upd_ne n]; exact e
  have st : ∀ b, H b ≠ .none → upd H a (.lst xs') b ≠ .none := fun b n => by
    by_cases q : b = a
    · subst q; rw [upd_same]; simp
    · rw [upd_ne q]; exact n
  refine ⟨⟨by simp [s.len], fun j d e => ?_, fun j d e => ?_, s.nd, s.dj, fun j b hb => ⟨(s.fr j b hb).1, (s.fr j b hb).2.1, st b (s.fr j b hb).2.2⟩, fun b e => st b (s.FH b e), fun b e => st b (s.LH b e), fun P b => (let ⟨ps, e1, e2⟩ := s.tb P b; ⟨ps, up P _ (fun q => by rw [q, hH] at e1; cases e1) e1, e2⟩)⟩,
    ⟨fun b o e _ n => up b o (fun q => n i (by rw [q]; exact ha)) e, st, fun _ e => e, fun _ e => .inl e, fun j b hb => .inl ⟨j, hb⟩, fun j d e n => ?_, by simp, fun P ⟨ps, e1, e2⟩ => ⟨ps, up P _ (fun q => by rw [q, hH] at e1; cases e1) e1, e2⟩⟩⟩
  · by_cases q : j = i
    · subst q
      rw [List.getElem?_set_self hi] at e
      cases e
      refine ⟨.ref a, hv, ?_⟩
      rw [hf]
      simp only [Rep]
      refine ⟨a, xs', fp', rfl, upd_same, RepL.mono (fun _ e => e) (fun _ e => e) l' (fun b o e _ q => up b o ?_ e) r, rfl⟩
      rintro rfl
      rcases q with q | q | q
      · exact nF q
      · exact nL q
      · exact na q
    · rw [List.getElem?_set_ne (Ne.symm q)] at e
      obtain ⟨v, h1, h2⟩ := s.rep j d e
      refine ⟨v, h1, Rep.mono (fun _ e => e) (fun _ e => e) d (fun b o e _ z => up b o ?_ e) h2⟩
      rintro rfl
      rcases z with z | z | z
      · exact nF z
      · exact nL z
      · exact q (s.dj j i b z ha)
  · by_cases q : j = i
    · subst q
      rw [List.getElem?_set_self hi] at e
      cases e
      exact okD_nl (by simp only [D.noLck, Bool.and_eq_true]; exact ⟨rfl, nl⟩)
    · rw [List.getElem?_set_ne (Ne.symm q)] at e
      exact s.ok j d e
  · by_cases q : j = i
    · subst q
      rw [List.getElem?_set_self hi] at e
      cases e
      have : (D.lst .own l').noLck = true := by simp only [D.noLck, Bool.and_eq_true]; exact ⟨rfl, nl⟩
      rw [this] at n; cases n
    · rw [List.getElem?_set_ne (Ne.symm q)] at e
      exact ⟨e, rfl⟩
/-- an own list is free of locks -/
theorem SR.own_nl (s : SR K B F L H σ env fp) {i : Nat} {l : List D} (he : env[i]? = some (some (.lst .own l))) : D.noLckL l = true := by
  have h := s.ok i _ he
  unfold D.okD at h
  simp only [D.noLck, D.noOwn, Bool.or_eq_true, Bool.and_eq_true] at h
  rcases h with h | h
  · exact h.2
  · exact absurd h.1 (by decide)
end
section
variable {T : Tab} {B : AP} {G : Glob} {cf : Nat → List D → Option D} {k : Nat} {N : List Str} {sc : Scope} {X : Cx}
/-- a tuple or a list, unpacked -/
def gT2 (K : PySem.W.Frag) (is : List Nat) : TG := fun v σ H Q => gT K (.tup is) v σ H Q ∨ gUnl K is.length (gNs is) v σ H Q
theorem tS_asgT {K : PySem.W.Frag} {is : List Nat} {e : E} {D : Ends} {σ : L2.St} {H : Hp} (h : tS K B (ex G cf (.asgT is e)) D σ H) : tAsg (tE K B G cf e) (gT2 K is) D σ H := by
  obtain ⟨F, L, env, fp, o, r, h, kk⟩ := h
  simp only [ex, Option.bind_eq_some_iff] at h
  obtain ⟨d, hd, h⟩ := h
  refine ⟨F, full L fp, env, d, r.x, hd, fun v H' F' fv g n => ?_⟩
  cases d with
  | tup l =>
    simp only [Option.map_eq_some_iff] at h
    obtain ⟨env', he, rfl⟩ := h
    have nf : fv = [] := by
      obtain ⟨_, _, _, _, _, _, z⟩ := n.rep.tup_
      exact z
    subst nf
    have fz : (PV.D.tup l).isFrz = true := by
      have q := n.rep
      simp only [Rep] at q
      obtain ⟨_, _, _, _, _, z, _⟩ := q
      simp only [PV.D.isFrz]; exact z
    exact .inl (put_T (r.grow g) (n.rep.nolk _ (noLck_of _ fz)) he fun σ' fp' s' p' => kk F' H' σ' fp' s' ((Pst.of g).trans p'))
  | lst f l =>
    simp only at h
    split at h
    · rename_i hz
      simp only [Option.map_eq_some_iff] at h
      obtain ⟨env', he, rfl⟩ := h
      obtain ⟨a, xs, rfl, ha, hl⟩ := n.rep.frzL_ hz
      exact .inr ⟨a, xs, rfl, SqL.of ha, by rw [hl.length]; exact setEs_len he, put_ns (r.grow g) (hl.nolk _ (noLckL_of _ hz)) he fun σ' fp' s' p' => kk F' H' σ' fp' s' ((Pst.of g).trans p')⟩
    · cases h
  | _ => cases h
theorem aug_frz {o : BO} {x y z : D} (h : augop o x y = some z) : z.isFrz = true := by
  unfold augop at h
  split at h
  · cases h; rfl
  · cases h; rfl
  · split at h
    · cases h; rfl
    · cases h
  · cases h
/-- x op= y, by values -/
def rAug (o : BO) : TIp := fun x y H Q => (∃ i j, x = .int i ∧ y = .int j ∧ o = .add ∧ Q (.int (i + j)) H) ∨ (∃ i j, x = .int i ∧ y = .int j ∧ o = .sub ∧ Q (.int (i - j)) H) ∨ (∃ i j, x = .str i ∧ y = .str j ∧ i.length + j.length ≤ sizeLine ∧ o = .add ∧ Q (.str (i ++ j)) H)
theorem ip_aug (o : BO) : PIp X o.op (rAug o) := by
  intro pins s σ H x y v u Q I r1 r2 h
  rcases h with ⟨i, j, e1, e2, rfl, q⟩ | ⟨i, j, e1, e2, rfl, q⟩ | ⟨i, j, e1, e2, hz, rfl, q⟩
  · exact ip_add pins s σ H x y v u Q I r1 r2 ⟨i, j, e1, e2, q⟩
  · exact ip_sub pins s σ H x y v u Q I r1 r2 ⟨i, j, e1, e2, q⟩
  · exact iop_add_str pins s σ H x y v u Q I r1 r2 ⟨i, j, e1, e2, hz, q⟩
theorem tS_aug {K : PySem.W.Frag} {i : Nat} {b : BO} {e : E} {D : Ends} {σ : L2.St} {H : Hp} (h : tS K B (ex G cf (.aug i b e)) D σ H) : tAug i (tE K B G cf e) (rAug b) D σ H := by
  obtain ⟨F, L, env, fp, o, r, h, kk⟩ := h
  simp only [ex, Option.bind_eq_some_iff, Option.map_eq_some_iff] at h
  obtain ⟨x, hx, y, hy, z, hz, env', he, rfl⟩ := h
  unfold getE at hx
  split at hx
  · rename_i d1 hd
    cases hx
    obtain ⟨v, hv, rv⟩ := r.rep i _ hd
    refine ⟨v, hv, F, full L fp, env, y, r.x, hy, fun w H' F' fv g n => ?_⟩
    obtain ⟨hi, nl, rfl⟩ := setE_some he
    have fin : ∀ u : V, Rep K F' L H' z u [] → D.nx (σ.set i (some u)) H' := fun u ru =>
      kk F' H' _ _ ((r.grow g).put hi ru (okD_nl nl) List.nodup_nil fun a ha => by cases ha) (Pst.put g nl hi fun a ha => by cases ha)
    unfold augop at hz
    split at hz
    · cases hz
      exact .inl ⟨_, _, rv.int_, n.rep.int_, rfl, fin _ (by simp [Rep])⟩
    · cases hz
      exact .inr (.inl ⟨_, _, rv.int_, n.rep.int_, rfl, fin _ (by simp [Rep])⟩)
    · split at hz
      · rename_i a b hl
        cases hz
        refine .inr (.inr ⟨_, _, rv.str_, n.rep.str_, by rw [sOf_len, sOf_len, ← line_eq]; exact hl, rfl, fin _ ?_⟩)
        simpa [Rep, sOf_app] using PV.okS.app rv.okS n.rep.okS hl
      · cases hz
    · cases hz
  · cases hx
theorem tS_app {K : PySem.W.Frag} {i : Nat} {e : E} {D : Ends} {σ : L2.St} {H : Hp} (h : tS K B (ex G cf (.app i e)) D σ H) : tDrop (tBM K "list" rAppend (tVar i) (tEs K B G cf (.cons e .nil))) D σ H := by
  obtain ⟨F, L, env, fp, o, r, h, kk⟩ := h
  simp only [ex, Option.bind_eq_some_iff] at h
  obtain ⟨d, hd, h⟩ := h
  split at h
  · rename_i l hg
    split at h
    · rename_i hz
      cases h
      unfold getE at hg
      split at hg
      · rename_i d1 he
        cases hg
        obtain ⟨v, hv, rv⟩ := r.rep i _ he
        simp only [Rep] at rv
        obtain ⟨a, xs, fp', rfl, ha, hl, hf⟩ := rv
        refine ⟨.ref a, hv, .inl ⟨rfl, xs, SqL.of ha⟩, F, full L fp, env, [d], r.x, by simp [evs, hd], fun vs H' F' fv g n => ?_⟩
        obtain ⟨y, vr, f1, f2, rfl, h1, h2, h3⟩ := (show ∃ v vr f1 f2, vs = v :: vr ∧ Rep K F' (full L fp) H' d v f1 ∧ RepL K F' (full L fp) H' [] vr f2 ∧ fv = f1 ++ f2 by simpa only [RepL] using n.rep)
        simp only [RepL] at h2
        obtain ⟨rfl, rfl⟩ := h2
        rw [List.append_nil] at h3
        subst h3
        obtain ⟨g', r'⟩ := freeze_v g ⟨h1, n.nd, n.fresh⟩ hz.1
        refine ⟨a, xs, y, rfl, rfl, g.keep a _ ha rfl, by rw [hl.length, ← line_eq]; exact hz.2, ?_⟩
        have s' := r.grow g'
        have base := (hl.grow g').app (RepL.one (r'.nolk (L' := L) _ (noLck_frz d)))
        rw [List.append_nil] at base
        have nl : PV.D.noLckL (l ++ [d.frz]) = true := by
          have h1 := r.own_nl he
          have : ∀ l : List PV.D, PV.D.noLckL l = true → PV.D.noLckL (l ++ [d.frz]) = true := by
            intro l
            induction l with
            | nil => intro _; simp [PV.D.noLckL, noLck_frz]
            | cons c l ih => intro h; simp only [PV.D.noLckL, Bool.and_eq_true, List.cons_append] at h ⊢; exact ⟨h.1, ih h.2⟩
          exact this l h1
        obtain ⟨s2, p2⟩ := s'.write he hv hf (g.keep a _ ha rfl) base nl
        exact kk _ _ _ _ s2 ((Pst.of g').trans p2)
      · cases hg
    · cases h
  · cases h
theorem noLckL_set : ∀ {l : List PV.D} (j : Nat) {d : PV.D}, PV.D.noLckL l = true → d.noLck = true → PV.D.noLckL (l.set j d) = true
  | [], _, _, _, _ => by simp [D.noLckL]
  | c :: l, 0, d, h, n => by simp only [PV.D.noLckL, Bool.and_eq_true, List.set_cons_zero] at h ⊢; exact ⟨n, h.2⟩
  | c :: l, j + 1, d, h, n => by simp only [PV.D.noLckL, Bool.and_eq_true, List.set_cons_succ] at h ⊢; exact ⟨h.1, noLckL_set j h.2 n⟩
theorem tS_setI {K : PySem.W.Frag} {i : Nat} {e ke : E} {D : Ends} {σ : L2.St} {H : Hp} (h : tS K B (ex G cf (.setI i ke e)) D σ H) : tAsg (tE K B G cf e) (gSub (tVar i) (tE K B G cf ke) rSetL) D σ H := by
  obtain ⟨F, L, env, fp, o, r, h, kk⟩ := h
  simp only [ex, Option.bind_eq_some_iff] at h
  obtain ⟨d, hd, dk, hk, h⟩ := h
  split at h
  · rename_i l j hg
    simp only [Option.bind_eq_some_iff] at h
    obtain ⟨jn, hj, h⟩ := h
    split at h
    · rename_i hz
      cases h
      unfold getE at hg
      split at hg
      · rename_i d1 he
        cases hg
        obtain ⟨v, hv, rv⟩ := r.rep i _ he
        simp only [Rep] at rv
        obtain ⟨a, xs, fp', rfl, ha, hl, hf⟩ := rv
        have fe := fpL_of l hz.2 hl
        subst fe
        refine ⟨F, full L fp, env, d, r.x, hd, fun w H1 F1 fv g1 n1 => ⟨.ref a, hv, F1, full L fp, env, .int j, r.x.grow g1, hk, fun u H2 F2 fu g2 n2 => ?_⟩⟩
        obtain ⟨g', r'⟩ := freeze_v (g1.trans g2) (n1.grow g2) hz.1
        refine ⟨a, xs, j, jn, rfl, n2.rep.int_, (g1.trans g2).keep a _ ha rfl, by rw [hl.length]; exact hj, ?_⟩
        have s' := r.grow g'
        have base := (hl.grow g').set (r'.nolk (L' := L) _ (noLck_frz d)) jn
        obtain ⟨s2, p2⟩ := s'.write he hv hf ((g1.trans g2).keep a _ ha rfl) base (noLckL_set jn (r.own_nl he) (noLck_frz d))
        exact kk _ _ _ _ s2 ((Pst.of g').trans p2)
      · cases hg
    · cases h
  · cases h
/-! ### while -/
def whF (G : Glob) (cf : Nat → List D → Option D) (c : E) (b : Ss) : Nat → Env → Option Out := whileL (fun e => asBl (ev G cf c e)) (fun e => exs G cf b e)
theorem tS_while {K : PySem.W.Frag} {c : E} {b : Ss} {D : Ends} {σ : L2.St} {H : Hp} (h : tS K B (ex G cf (.while_ c b)) D σ H) : tWhile (tT K B G cf c) (tS K B (exs G cf b)) D σ H := by
  refine ⟨fun m σ H => tS K B (whF G cf c b m) D σ H, ⟨turns, ?_⟩, fun m σ H w => ?_⟩
  · obtain ⟨F, L, env, fp, o, r, h, kk⟩ := h
    simp only [ex] at h
    exact ⟨F, L, env, fp, o, r, h, kk⟩
  · obtain ⟨F, L, env, fp, o, r, h, kk⟩ := w
    cases m with
    | zero => simp [whF, whileL] at h
    | succ n =>
      simp only [whF, whileL, Option.bind_eq_some_iff] at h
      obtain ⟨x, hx, h⟩ := h
      refine tS_T r hx fun F' H' g => ?_
      cases x with
      | false =>
        rw [if_neg Bool.false_ne_true] at h ⊢
        cases h
        exact kk F' H' σ fp (r.grow g) (Pst.of g)
      | true =>
        rw [if_pos rfl] at h ⊢
        simp only [Option.bind_eq_some_iff] at h
        obtain ⟨o1, h1, h⟩ := h
        refine ⟨fun σ' H' => tS K B (whF G cf c b n) D σ' H', fun σ' H' q => ⟨n, Nat.lt_succ_self n, q⟩, F', L, env, fp, o1, r.grow g, h1, ?_⟩
        cases o1 with
        | nx e => exact fun F2 H2 σ2 fp2 s2 p2 => ⟨F2, L, e, fp2, o, s2, h, kk.trans ((Pst.of g).trans p2)⟩
        | ct e => exact fun F2 H2 σ2 fp2 s2 p2 => ⟨F2, L, e, fp2, o, s2, h, kk.trans ((Pst.of g).trans p2)⟩
        | bk e =>
          cases h
          exact fun F2 H2 σ2 fp2 s2 p2 => kk F2 H2 σ2 fp2 s2 ((Pst.of g).trans p2)
        | rt d =>
          cases h
          exact fun F2 H2 v fv p2 => kk F2 H2 v fv ((Pst.of (σ := σ) (env := env) g).ret p2)
end
end PV

set_option Elab.async false
set_option linter.all false
set_option maxRecDepth 100000
set_option maxHeartbeats 8000000
/-! PV, part L: for. -/
namespace PV
open PySem PySem.Spec PyProof.Rows L2
theorem selE_get (lk : List Nat) : ∀ (k : Nat) (env : Env) (i : Nat), (selE lk k env)[i]? = (env[i]?).map (selO lk (k + i))
  | _, [], i => by simp [selE]
  | k, o :: r, 0 => by simp [selE]
  | k, o :: r, i + 1 => by simp only [selE, List.getElem?_cons_succ, selE_get lk (k + 1) r i]; rw [show k + 1 + i = k + (i + 1) by omega]
theorem lockE_get (lk : List Nat) : ∀ (k : Nat) (env : Env) (i : Nat), (lockE lk k env)[i]? = (env[i]?).map (lockO lk (k + i))
  | _, [], i => by simp [lockE]
  | k, o :: r, 0 => by simp [lockE]
  | k, o :: r, i + 1 => by simp only [lockE, List.getElem?_cons_succ, lockE_get lk (k + 1) r i]; rw [show k + 1 + i = k + (i + 1) by omega]
theorem unlockE_get (lk : List Nat) : ∀ (k : Nat) (env env' : Env) (i : Nat) {o n : Option D}, env[i]? = some o → env'[i]? = some n → (unlockE lk k env env')[i]? = some (unlO lk (k + i) o n)
  | _, [], _, i, _, _, h, _ => by simp at h
  | _, _ :: _, [], i, _, _, _, h => by simp at h
  | k, o :: r, n :: s, 0, _, _, h, h' => by simp at h h'; simp [unlockE, h, h']
  | k, o :: r, n :: s, i + 1, _, _, h, h' => by
    simp only [List.getElem?_cons_succ] at h h'
    simp only [unlockE, List.getElem?_cons_succ, unlockE_get lk (k + 1) r s i h h']; rw [show k + 1 + i = k + (i + 1) by omega]
theorem selE_len (lk : List Nat) : ∀ (k : Nat) (env : Env), (selE lk k env).length = env.length
  | _, [] => rfl
  | k, o :: r => by simp [selE, selE_len lk (k + 1) r]
theorem lockE_len (lk : List Nat) : ∀ (k : Nat) (env : Env), (lockE lk k env).length = env.length
  | _, [] => rfl
  | k, o :: r => by simp [lockE, lockE_len lk (k + 1) r]
theorem unlockE_len (lk : List Nat) : ∀ (k : Nat) (env env' : Env), env.length = env'.length → (unlockE lk k env env').length = env'.length
  | _, [], [], _ => rfl
  | _, [], _ :: _, h => by simp at h
  | _, _ :: _, [], h => by simp at h
  | k, o :: r, n :: s, h => by simp only [unlockE, List.length_cons]; rw [unlockE_len lk (k + 1) r s (by simpa using h)]
section
variable {K : PySem.W.Frag} {B F F' L : AP} {H H' : Hp} {σ σ' : L2.St} {env env' : Env} {fp fp' : Nat → List Addr}
/-- what a loop locks -/
def lkL (lk : List Nat) (L : AP) (fp : Nat → List Addr) : AP := fun a => L a ∨ ∃ i, i ∈ lk ∧ a ∈ fp i
def lkF (lk : List Nat) (fp : Nat → List Addr) : Nat → List Addr := fun i => if i ∈ lk then [] else fp i
theorem lkF_sub {lk : List Nat} {i : Nat} {a : Addr} (h : a ∈ lkF lk fp i) : i ∉ lk ∧ a ∈ fp i := by
  unfold lkF at h
  split at h
  · cases h
  · rename_i n; exact ⟨n, h⟩
theorem lock_get {lk : List Nat} {i : Nat} {d : D} (h : (lockE lk 0 env)[i]? = some (some d)) : ∃ d0, env[i]? = some (some d0) ∧ ((i ∈ lk ∧ d = d0.lock) ∨ (i ∉ lk ∧ d = d0)) := by
  rw [lockE_get, Nat.zero_add, Option.map_eq_some_iff] at h
  obtain ⟨o, e, h⟩ := h
  unfold lockO at h
  split at h
  · rename_i c
    rw [Option.map_eq_some_iff] at h
    obtain ⟨d0, rfl, h⟩ := h
    exact ⟨d0, e, .inl ⟨by simpa using c, h.symm⟩⟩
  · rename_i c
    exact ⟨d, by rw [e, h], .inr ⟨by simpa using c, rfl⟩⟩
theorem SR.lock (s : SR K B F L H σ env fp) (lk : List Nat) : SR K B F (lkL lk L fp) H σ (lockE lk 0 env) (lkF lk fp) where
  len := by rw [lockE_len]; exact s.len
  rep := fun i d e => by
    obtain ⟨d0, e0, q⟩ := lock_get e
    obtain ⟨v, h1, h2⟩ := s.rep i d0 e0
    refine ⟨v, h1, ?_⟩
    rcases q with ⟨hi, rfl⟩ | ⟨hi, rfl⟩
    · unfold lkF
      rw [if_pos hi]
      exact Rep.mono (fun _ e => e) (fun a e => e.imp id fun z => ⟨i, hi, z⟩) _ (fun _ _ e _ _ => e) h2.lend
    · unfold lkF
      rw [if_neg hi]
      exact Rep.mono (fun _ e => e) (fun a e => .inl e) _ (fun _ _ e _ _ => e) h2
  ok := fun i d e => by
    obtain ⟨d0, e0, q⟩ := lock_get e
    rcases q with ⟨hi, rfl⟩ | ⟨hi, rfl⟩
    · exact okD_no (lock_noOwn d0)
    · exact s.ok i _ e0
  nd := fun i => by
    unfold lkF
    split
    · exact List.nodup_nil
    · exact s.nd i
  dj := fun i j a h1 h2 => s.dj i j a (lkF_sub h1).2 (lkF_sub h2).2
  fr := fun i a h => by
    obtain ⟨hi, ha⟩ := lkF_sub h
    exact ⟨(s.fr i a ha).1, fun z => z.elim (s.fr i a ha).2.1 fun ⟨j, hj, z⟩ => hi (by rw [s.dj i j a ha z]; exact hj), (s.fr i a ha).2.2⟩
  FH := s.FH
  LH := fun a h => h.elim (s.LH a) fun ⟨i, _, hi⟩ => (s.fr i a hi).2.2
  tb := s.tb
theorem SR.sel (s : SR K B F L H σ env fp) (lk : List Nat) : SX K B F (lkL lk L fp) H σ (selE lk 0 env) where
  len := by rw [selE_len]; exact s.len
  rep := fun i d e => by
    rw [selE_get, Nat.zero_add, Option.map_eq_some_iff] at e
    obtain ⟨o, e, h⟩ := e
    cases o with
    | none => simp [selO] at h
    | some d0 =>
      unfold selO at h
      simp only at h
      split at h
      · rename_i c
        cases h
        obtain ⟨v, h1, h2⟩ := s.rep i d e
        refine ⟨v, h1, ?_⟩
        simp only [Bool.or_eq_true] at c
        rcases c with c | c
        · exact Rep.mono (fun _ e => e) (fun a e => e.imp id fun z => ⟨i, by simpa using c, z⟩) _ (fun _ _ e _ _ => e) h2.lend
        · have q := fp_noOwn d c h2
          rw [q] at h2
          exact Rep.mono (fun _ e => e) (fun a e => e.elim .inl fun z => by cases z) _ (fun _ _ e _ _ => e) h2.lend
      · cases h
  FH := s.FH
  LH := fun a h => h.elim (s.LH a) fun ⟨i, _, hi⟩ => (s.fr i a hi).2.2
  tb := s.tb
theorem SR.sub (s : SR K B F L H σ env fp) (lk : List Nat) (a : Addr) (h : lkL lk L fp a) : full L fp a := h.imp id fun ⟨i, _, z⟩ => ⟨i, z⟩
/-- behind the loop -/
theorem SR.unlock {lk : List Nat} (s : SR K B F L H σ env fp) (s' : SR K B F' (lkL lk L fp) H' σ' env' fp') (p : Pst F H σ (lockE lk 0 env) (lkF lk fp) F' H' σ' env' fp') (hl : env.length = env'.length) :
    ∃ fp2, SR K B F' L H' σ' (unlockE lk 0 env env') fp2 ∧ Pst F H σ env fp F' H' σ' (unlockE lk 0 env env') fp2 := by
  -- the slots that are as they were
  have get : ∀ i d, (unlockE lk 0 env env')[i]? = some (some d) → (i ∈ lk ∧ (∃ d', env'[i]? = some (some d') ∧ d'.noLck = false) ∧ env[i]? = some (some d)) ∨ (env'[i]? = some (some d) ∧ (i ∈ lk → d.noLck = true)) := fun i d e => by
    have hi : i < (unlockE lk 0 env env').length := (List.getElem?_eq_some_iff.mp e).1
    rw [unlockE_len lk 0 env env' hl] at hi
    have e1 : env'[i]? = some env'[i] := List.getElem?_eq_getElem hi
    have e0 : env[i]? = some env[i] := List.getElem?_eq_getElem (by omega)
    rw [unlockE_get lk 0 env env' i e0 e1, Nat.zero_add] at e
    have e := Option.some.inj e
    unfold unlO at e
    split at e
    · rename_i c
      split at e
      · rename_i d' hd
        split at e
        · rename_i n
          exact .inr ⟨by rw [e1, hd, e], fun _ => by cases e; exact n⟩
        · rename_i n
          exact .inl ⟨by simpa using c, ⟨d', by rw [e1, hd], by simpa using n⟩, by rw [e0, e]⟩
      · cases e
    · rename_i c
      exact .inr ⟨by rw [e1, e], fun z => absurd (show lk.contains i = true by simpa using z) c⟩
  let B : Nat → Prop := fun i => i ∈ lk ∧ ∃ d', env'[i]? = some (some d') ∧ d'.noLck = false
  have hB : ∀ i, B i → ∃ d0, env[i]? = some (some d0) ∧ σ'[i]? = σ[i]? := fun i ⟨h1, d', h2, h3⟩ => by
    obtain ⟨e, q⟩ := p.lk i d' h2 h3
    obtain ⟨d0, e0, _⟩ := lock_get e
    exact ⟨d0, e0, q⟩
  obtain ⟨fp2, f1, f2⟩ : ∃ fp2 : Nat → List Addr, (∀ i, B i → fp2 i = fp i) ∧ ∀ i, ¬ B i → fp2 i = fp' i := by
    classical
    exact ⟨fun i => if B i then fp i else fp' i, fun i h => if_pos h, fun i h => if_neg h⟩
  -- the nodes of such a slot
  have keepN : ∀ i a, i ∈ lk → a ∈ fp i → (∀ o, H a = some o → datO o = true → H' a = some o) ∧ ¬ F' a ∧ H' a ≠ none ∧ ∀ j, a ∉ fp' j := fun i a hi ha => by
    have nf : ∀ j, a ∉ lkF lk fp j := fun j z => by
      obtain ⟨z1, z2⟩ := lkF_sub z
      exact z1 (by rw [← s.dj i j a ha z2]; exact hi)
    refine ⟨fun o e dd => p.kp a o e dd nf, fun z => ?_, p.st a (s.fr i a ha).2.2, fun j z => ?_⟩
    · rcases p.new a z with z | ⟨j, z⟩ | z
      · exact (s.fr i a ha).1 z
      · exact nf j z
      · exact (s.fr i a ha).2.2 z
    · rcases p.own j a z with ⟨j', z⟩ | z
      · exact nf j' z
      · exact (s.fr i a ha).2.2 z
  have keepFL : ∀ a o, H a = some o → datO o = true → (F a ∨ L a) → H' a = some o := fun a o e dd q => p.kp a o e dd fun j z => by
    obtain ⟨_, z2⟩ := lkF_sub z
    rcases q with q | q
    · exact (s.fr j a z2).1 q
    · exact (s.fr j a z2).2.1 q
  refine ⟨fp2, ⟨by rw [s'.len, unlockE_len lk 0 env env' hl], fun i d e => ?_, fun i d e => ?_, fun i => ?_, fun i j a h1 h2 => ?_, fun i a h => ?_, s'.FH, fun a h => p.st a (s.LH a h), s'.tb⟩, ⟨fun a o e dd n => p.kp a o e dd fun i z => n i (lkF_sub z).2, p.st, p.mono, fun a h => ?_, fun i a h => ?_, fun i d e n => ?_, by rw [unlockE_len lk 0 env env' hl, hl], p.tb⟩⟩
  · rcases get i d e with ⟨hi, hd', e0⟩ | ⟨e1, n⟩
    · obtain ⟨v, h1, h2⟩ := s.rep i d e0
      obtain ⟨d0, _, q⟩ := hB i ⟨hi, hd'⟩
      refine ⟨v, by rw [q]; exact h1, ?_⟩
      rw [f1 i ⟨hi, hd'⟩]
      exact Rep.mono p.mono (fun _ e => e) d (fun a o e dd q => by
        rcases q with q | q | q
        · exact keepFL a o e dd (.inl q)
        · exact keepFL a o e dd (.inr q)
        · exact (keepN i a hi q).1 o e dd) h2
    · obtain ⟨v, h1, h2⟩ := s'.rep i d e1
      refine ⟨v, h1, ?_⟩
      cases nl : d.noLck with
      | true =>
        have nb : ¬ B i := fun ⟨_, d', q1, q2⟩ => by rw [e1] at q1; cases q1; rw [nl] at q2; cases q2
        rw [f2 i nb]
        exact h2.nolk d nl
      | false =>
        have hi : i ∉ lk := fun z => by rw [n z] at nl; cases nl
        have nb : ¬ B i := fun q => hi q.1
        rw [f2 i nb]
        obtain ⟨e0, q⟩ := p.lk i d e1 nl
        obtain ⟨d0, e00, q0⟩ := lock_get e0
        have ed : d = d0 := q0.elim (fun z => absurd z.1 hi) fun z => z.2
        subst ed
        have no : d.noOwn = true := by
          have z := s.ok i d e00
          unfold D.okD at z
          rw [nl, Bool.false_or] at z
          exact z
        rw [fp_noOwn d no h2]
        obtain ⟨u, u1, u2⟩ := s.rep i d e00
        rw [fp_noOwn d no u2] at u2
        have ev : u = v := by
          rw [q, u1] at h1
          cases h1; rfl
        subst ev
        exact Rep.mono p.mono (fun _ e => e) d (fun a o e dd q => by
          rcases q with q | q | q
          · exact keepFL a o e dd (.inl q)
          · exact keepFL a o e dd (.inr q)
          · cases q) u2
  · rcases get i d e with ⟨hi, hd', e0⟩ | ⟨e1, n⟩
    · exact s.ok i d e0
    · exact s'.ok i d e1
  · by_cases b : B i
    · rw [f1 i b]; exact s.nd i
    · rw [f2 i b]; exact s'.nd i
  · by_cases bi : B i
    · rw [f1 i bi] at h1
      by_cases bj : B j
      · rw [f1 j bj] at h2; exact s.dj i j a h1 h2
      · rw [f2 j bj] at h2; exact absurd h2 ((keepN i a bi.1 h1).2.2.2 j)
    · rw [f2 i bi] at h1
      by_cases bj : B j
      · rw [f1 j bj] at h2; exact absurd h1 ((keepN j a bj.1 h2).2.2.2 i)
      · rw [f2 j bj] at h2; exact s'.dj i j a h1 h2
  · by_cases b : B i
    · rw [f1 i b] at h
      obtain ⟨_, k2, k3, _⟩ := keepN i a b.1 h
      exact ⟨k2, (s.fr i a h).2.1, k3⟩
    · rw [f2 i b] at h
      exact ⟨(s'.fr i a h).1, fun z => (s'.fr i a h).2.1 (.inl z), (s'.fr i a h).2.2⟩
  · rcases p.new a h with z | ⟨j, z⟩ | z
    · exact .inl z
    · exact .inr (.inl ⟨j, (lkF_sub z).2⟩)
    · exact .inr (.inr z)
  · by_cases b : B i
    · rw [f1 i b] at h; exact .inl ⟨i, h⟩
    · rw [f2 i b] at h
      rcases p.own i a h with ⟨j, z⟩ | z
      · exact .inl ⟨j, (lkF_sub z).2⟩
      · exact .inr z
  · rcases get i d e with ⟨hi, hd', e0⟩ | ⟨e1, nn⟩
    · exact ⟨e0, (hB i ⟨hi, hd'⟩).choose_spec.2⟩
    · have hi : i ∉ lk := fun z => by rw [nn z] at n; cases n
      obtain ⟨e0, q⟩ := p.lk i d e1 n
      obtain ⟨d0, e00, q0⟩ := lock_get e0
      have ed : d = d0 := q0.elim (fun z => absurd z.1 hi) fun z => z.2
      subst ed
      exact ⟨e00, q⟩
theorem SR.grow_x (s : SR K B F L H σ env fp) {lk : List Nat} {F1 : AP} {H1 : Hp} (g : Grow F F1 H H1) : SR K B F1 (lkL lk L fp) H1 σ (lockE lk 0 env) (lkF lk fp) := (s.grow g).lock lk
end
section
variable {T : Tab} {B : AP} {G : Glob} {cf : Nat → List D → Option D}
theorem tS_for {K : PySem.W.Frag} {lk : List Nat} {tg : Tg} {it : It} {b : Ss} {D : Ends} {σ : L2.St} {H : Hp} (h : tS K B (ex G cf (.for_ lk tg it b)) D σ H) : tFor (tI K B G cf it) (gT K tg) (tS K B (exs G cf b)) D σ H := by
  obtain ⟨F, L, env, fp, o, r, h, kk⟩ := h
  simp only [ex, Option.bind_eq_some_iff, Option.map_eq_some_iff] at h
  obtain ⟨xs, hxs, o0, h0, ho⟩ := h
  -- the items
  have start : ∀ R : L2.It → Hp → Prop, (∀ J H' F', Grow F F' H H' → WalkOk K (lkL lk L fp) F' H' xs J → R J H') → tI K B G cf it σ H R := fun R q => by
    cases it with
    | seq e => exact ⟨F, lkL lk L fp, selE lk 0 env, xs, r.sel lk, hxs, fun J H' F' g w => q J H' F' g w⟩
    | rng1 a => exact ⟨F, full L fp, env, xs, r.x, hxs, fun J H' F' g w => q J H' F' g (w.mono fun _ e => e.elim)⟩
    | rng2 a b => exact ⟨F, full L fp, env, xs, r.x, hxs, fun J H' F' g w => q J H' F' g (w.mono fun _ e => e.elim)⟩
    | rng3 a b c => exact ⟨F, full L fp, env, xs, r.x, hxs, fun J H' F' g w => q J H' F' g (w.mono fun _ e => e.elim)⟩
    | zip a b => exact ⟨F, full L fp, env, xs, r.x, hxs, fun J H' F' g w => q J H' F' g (w.mono fun _ e => e.elim)⟩
  refine start _ fun J H1 F1 g wk => ?_
  have s1 : SR K B F1 L H1 σ env fp := r.grow g
  have s2 := s1.lock lk
  -- the ends
  have endN : ∀ F' H' σ' e fp', SR K B F' (lkL lk L fp) H' σ' e fp' → Pst F1 H1 σ (lockE lk 0 env) (lkF lk fp) F' H' σ' e fp' → o0 = .nx e → D.nx σ' H' := fun F' H' σ' e fp' s' p' q => by
    subst q
    subst ho
    obtain ⟨fp2, s3, p3⟩ := s1.unlock s' p' (by rw [p'.ln, lockE_len])
    exact kk F' H' σ' fp2 s3 ((Pst.of g).trans p3)
  have endR : ∀ F' H' d v fv, PstR K F1 (lkL lk L fp) H1 (lkF lk fp) F' H' d v fv → o0 = .rt d → D.rt v H' := fun F' H' d v fv p' q => by
    subst q
    subst ho
    have p1 : PstR K F1 L H1 fp F' H' d v fv := ⟨fun a o e dd n => p'.kp a o e dd fun i z => n i (lkF_sub z).2, p'.st, p'.mono, fun a e => (p'.new a e).imp id fun z => z.imp (fun ⟨i, z⟩ => ⟨i, (lkF_sub z).2⟩) id, p'.FH, p'.rep.nolk d p'.nl, p'.nl, p'.nd,
      fun a ha => ⟨(p'.own a ha).1.imp (fun ⟨i, z⟩ => ⟨i, (lkF_sub z).2⟩) id, (p'.own a ha).2⟩, p'.tb⟩
    exact kk F' H' v fv ((Pst.of (σ := σ) (env := env) g).ret p1)
  refine ⟨fun i m σ' H' => m = xs.length - i ∧ i ≤ xs.length ∧ ∃ F' env' fp', SR K B F' (lkL lk L fp) H' σ' env' fp' ∧ Pst F1 H1 σ (lockE lk 0 env) (lkF lk fp) F' H' σ' env' fp' ∧
    forL (fun x env1 => (bindT tg x env1).bind fun env2 => exs G cf b env2) (xs.drop i) env' = some o0, ⟨xs.length, by simp, Nat.zero_le _, F1, _, _, s2, Pst.none s2.FH, by simpa using h0⟩, ?_⟩
  rintro i m σ' H' ⟨rfl, hi, F', env', fp', s', p', hf⟩
  have stab : Stab F1 (lkL lk L fp) H1 F' H' := ⟨fun a u q e dd => p'.kp a u e dd fun j z => q.elim (s2.fr j a z).1 (s2.fr j a z).2.1, p'.mono, s'.FH⟩
  obtain ⟨w1, w2⟩ := wk i H' F' stab
  by_cases hlt : i < xs.length
  · have hx : xs[i]? = some xs[i] := List.getElem?_eq_getElem hlt
    obtain ⟨go, yl⟩ := w1 _ hx
    rw [List.drop_eq_getElem_cons hlt] at hf
    simp only [forL, Option.bind_eq_some_iff] at hf
    obtain ⟨o1, ⟨env2, hb, he⟩, hf⟩ := hf
    refine .inr ⟨go, _, fun σ3 H3 z => ⟨xs.length - (i + 1), by omega, z⟩, fun v H2 y => ?_⟩
    obtain ⟨F2, g2, rv⟩ := yl v H2 y
    refine put_T (s'.grow g2) rv hb fun σ3 fp3 s3 p3 => ?_
    have p4 := p'.trans ((Pst.of g2).trans p3)
    refine ⟨F2, _, env2, fp3, o1, s3, he, ?_⟩
    cases o1 with
    | nx e => exact fun F5 H5 σ5 fp5 s5 p5 => ⟨rfl, hlt, F5, e, fp5, s5, p4.trans p5, hf⟩
    | ct e => exact fun F5 H5 σ5 fp5 s5 p5 => ⟨rfl, hlt, F5, e, fp5, s5, p4.trans p5, hf⟩
    | bk e => exact fun F5 H5 σ5 fp5 s5 p5 => endN F5 H5 σ5 e fp5 s5 (p4.trans p5) (Option.some.inj hf).symm
    | rt d => exact fun F5 H5 v fv p5 => endR F5 H5 d v fv (p4.ret p5) (Option.some.inj hf).symm
  · have ei : i = xs.length := by omega
    subst ei
    rw [List.drop_length] at hf
    exact .inl ⟨w2 (Nat.le_refl _), endN F' H' σ' env' fp' s' p' (Option.some.inj hf).symm⟩
end
end PV

set_option Elab.async false
set_option linter.all false
set_option maxRecDepth 100000
set_option maxHeartbeats 8000000
/-! PV, part M: the check of statements against the text, their soundness. -/
namespace PV
open PySem PySem.Spec PyProof.Rows L2
/-- a name of the def: a local, or one that a comprehension shares -/
def loc (sc : Scope) (x : Str) : Bool := match sc.names.lookup x with
  | some .local => true | some .cell => true | _ => false
def chkNs2 (N : List Str) (sc : Scope) : List Nat → List Expr → Bool
  | [], [] => true
  | i :: is, .Name x _ :: es => N[i]? == some x && loc sc x && chkNs2 N sc is es
  | _, _ => false
def chkTg2 (N : List Str) (sc : Scope) : Tg → Expr → Bool
  | .name i, .Name x _ => N[i]? == some x && loc sc x
  | .tup is, .Tuple es _ _ => chkNs2 N sc is es
  | _, _ => false
theorem loc_ok {sc : Scope} {x : Str} (h : loc sc x = true) : Loc sc x := by
  unfold loc at h
  split at h <;> first | exact .inl (by assumption) | exact .inr (by assumption) | cases h
theorem ae_len2 {env : PySem.Env} : ∀ {es : List Expr} {N : List Str} {sc : Scope} {is : List Nat}, chkNs2 N sc is es = true → (assignEach es env).length = is.length ∧ (assignEach es env).findIdx? (·.1) = none
  | [], N, sc, [], _ => ⟨rfl, rfl⟩
  | [], N, sc, _ :: _, h => by simp [chkNs2] at h
  | e :: es, N, sc, [], h => by cases e <;> simp [chkNs2] at h
  | e :: es, N, sc, i :: is, h => by
    cases e <;> simp only [chkNs2, Bool.false_eq_true] at h
    simp only [Bool.and_eq_true] at h
    obtain ⟨l, f⟩ := ae_len2 (env := env) h.2
    exact ⟨congrArg Nat.succ l, by
      show List.findIdx? (·.1) ((false, _) :: assignEach es env) = none
      rw [List.findIdx?_cons, f]
      rfl⟩
theorem pg_ns2 {X : Cx} (hN : X.N.Nodup) (hf : ∀ x, X.fn x = true) : ∀ {es : List Expr} {is : List Nat}, chkNs2 X.N X.env.scope is es = true → PGs X es (gNs is)
  | [], [], _ => pgs_nil
  | [], _ :: _, h => by simp [chkNs2] at h
  | e :: es, [], h => by cases e <;> simp [chkNs2] at h
  | e :: es, i :: is, h => by
    cases e <;> simp only [chkNs2, Bool.false_eq_true] at h
    simp only [Bool.and_eq_true, beq_iff_eq] at h
    obtain ⟨⟨h1, h2⟩, h3⟩ := h
    exact pgs_cons (pg_name hN h1 (loc_ok h2) (.inl (hf _))) (pg_ns2 hN hf h3) rfl
theorem pg_T2 {X : Cx} (hN : X.N.Nodup) (hc : X.calm = true) (hf : ∀ x, X.fn x = true) {tg : Tg} {e : Expr} (h : chkTg2 X.N X.env.scope tg e = true) : PG X e (gT X.K tg) := by
  cases tg with
  | name i =>
    cases e <;> simp only [chkTg2, Bool.false_eq_true] at h
    simp only [Bool.and_eq_true, beq_iff_eq] at h
    exact pg_name hN h.1 (loc_ok h.2) (.inl (hf _))
  | tup is =>
    cases e <;> simp only [chkTg2, Bool.false_eq_true] at h
    obtain ⟨h1, h2⟩ := ae_len2 (env := X.env) h
    exact pg_tup hc (pg_ns2 hN hf h) h1 h2
/-- a reading by two readings -/
theorem pg_or {X : Cx} {e : Expr} {t t' : TG} (h : PG X e t) (h' : PG X e t') : PG X e (fun v σ H Q => t v σ H Q ∨ t' v σ H Q) := ⟨fun pins s σ H v u Q I r q => q.elim (h.run pins s σ H v u Q I r) (h'.run pins s σ H v u Q I r)⟩
theorem pg_T2u {X : Cx} (hN : X.N.Nodup) (hc : X.calm = true) (hf : ∀ x, X.fn x = true) {is : List Nat} {es : List Expr} {k : Nat} {p : Pos} (h : chkNs2 X.N X.env.scope is es = true) : PG X (.Tuple es k p) (gT2 X.K is) := by
  obtain ⟨h1, h2⟩ := ae_len2 (env := X.env) h
  exact pg_or (pg_T2 (tg := .tup is) hN hc hf (by simpa only [chkTg2] using h)) (pg_unl hc (pg_ns2 hN hf h) h1 h2)
def noComp : Expr → Bool
  | .ListComp .. => false | .SetComp .. => false | .DictComp .. => false | _ => true
def isTup : Expr → Bool
  | .Tuple .. => true | .List .. => true | _ => false
/-- the two stores of a comprehension's end are exchanged -/
def swaps (sc : Scope) (x : Str) (px : Pos) (s : Scope) (p : Pos) : Bool := lcl sc x && px.line == p.line && !(s.names.any fun (n, k) => n == x && (k == .local || k == .cell))
def chkLc (T : Tab) (N : List Str) (sc : Scope) (elt : E) (tg : Tg) (it : It) (cond : E) (x tgt iter : Expr) (ifs : List Expr) (scope : Scope) : Bool :=
  chkTg N (relS scope sc) tg tgt && blkC N sc scope (ownOf N tg.slots) && chkI T N sc it iter tgt &&
      (match ifs with
        | [] => cond.isNop
        | [y] => !cond.isNop && (plainX y && !isIf y && chkE T N (relS scope sc) cond y)
        | _ => false) && (plainX x && chkE T N (relS scope sc) elt x)
def chkAsg (T : Tab) (N : List Str) (sc : Scope) (e : E) (x : Str) (px : Pos) (y : Expr) : Bool := match e, y with
  | .lc elt tg it cond, .ListComp v [⟨tgt, iter, ifs, 0⟩] scope p => if swaps sc x px scope p then chkLc T N sc elt tg it cond v tgt iter ifs scope else chkE T N sc e y
  | e, y => noComp y && plainX y && chkE T N sc e y
def S.ghost : S → Bool
  | .fz _ => true | _ => false
mutual
def chkS (T : Tab) (N : List Str) (sc : Scope) : S → Stmt → Bool
  | .asg _ i e, .Assign [.Name x px] y _ => N[i]? == some x && loc sc x && chkAsg T N sc e x px y
  | .asgT is e, .Assign [.Tuple es _ _] y _ => chkNs2 N sc is es && noComp y && !isTup y && plainX y && chkE T N sc e y
  | .aug i o e, .AugAssign (.Name x _) op y _ => N[i]? == some x && loc sc x && op == o.op && plainX y && chkE T N sc e y
  | .app i e, .Expr (.Call (.Attribute (.Name x _) a apos) [y] [] cpos) _ => a == ("append" : Str) && N[i]? == some x && loc sc x && okName x && apos.endLine == cpos.line && plainX y && chkE T N sc e y
  | .setI i k e, .Assign [.Subscript (.Name x _) y _] z _ => N[i]? == some x && loc sc x && okName x && plainX y && chkE T N sc k y && noComp z && plainX z && chkE T N sc e z
  | .ite c a b, .If x p q _ => !isIf x && plainX x && chkE T N sc c x && chkSs T N sc a p && chkSs T N sc b q
  | .for_ _ tg it b, .For tgt iter body [] _ => chkTg2 N sc tg tgt && chkI T N sc it iter tgt && chkSs T N sc b body
  | .while_ c b, .While x body [] _ => !isIf x && plainX x && chkE T N sc c x && chkSs T N sc b body
  | .ret e, .Return (some y) _ => plainX y && chkE T N sc e y
  | .mv i j, .Assign [.Name x _] (.Name y _) _ => (N[i]? == some x && loc sc x) && (N[j]? == some y && vis sc y && okName y)
  | .retMv i, .Return (some (.Name x _)) _ => N[i]? == some x && vis sc x && okName x
  | .retN, .Return none _ => true
  | .brk, .Break _ => true
  | .cnt, .Continue _ => true
  | .pass, .Pass _ => true
  | .pass, .Expr (.Constant (.str _) _ _) _ => true
  | .expr e, .Expr y _ => noComp y && plainX y && chkE T N sc e y
  | _, _ => false
def chkSs (T : Tab) (N : List Str) (sc : Scope) : Ss → List Stmt → Bool
  | .nil, sts => sts.isEmpty
  | .cons s ss, sts => if s.ghost then chkSs T N sc ss sts else match sts with
    | st :: sts => chkS T N sc s st && chkSs T N sc ss sts
    | [] => false
end
structure OkS (T : Tab) (B : AP) (G : Glob) (cf : Nat → List D → Option D) (k : Nat) (N : List Str) (sc : Scope) (X : Cx) : Prop where
  x : OkX T B G cf k N sc X
  kind : sc.kind = .function
  own : PassesOwn (model X.prog X.w) X.A X.env X.xe
  fn : ∀ x, X.fn x = true
theorem noSwap {y : Expr} (h : noComp y = true) (t : Option Expr) (l : Nat) (env : PySem.Env) : swapsWith y t l env = pure false := by
  cases y <;> first | rfl | cases h
theorem noSole {y : Expr} (h : noComp y = true) (t : Expr) (l : Nat) (env : PySem.Env) : swapsWithSole [t] y l env = pure false := by
  cases y <;> first | rfl | cases h
theorem noStore1 {o i : Expr} {p : Pos} (y : Expr) (env : PySem.Env) : swappedStores [.Subscript o i p] y env = pure none := by
  cases y <;> rfl
theorem asub_of {o i : Expr} {pos : Pos} {env : PySem.Env} (h : plainX i = true) : ∀ v, assign (.Subscript o i pos) env v = (do
      let ov ← holding [v] (eval o env)
      let iv ← holding [v, ov] (eval i env)
      standAt pos
      holding [v, ov, iv] (setItem ov iv v)
      release [v, ov, iv] []) := by
  intro v
  cases i <;> first | (cases h; done) | rfl
theorem noStores {y t : Expr} (h : isTup y = false) (env : PySem.Env) : swappedStores [t] y env = pure none := by
  cases y <;> first | (cases h; done) | (cases t <;> rfl)
section
variable {T : Tab} {B : AP} {G : Glob} {cf : Nat → List D → Option D} {k : Nat} {N : List Str} {sc : Scope} {X : Cx}
theorem OkS.nx (o : OkS T B G cf k N sc X) : X.N.Nodup := by rw [o.x.hN]; exact o.x.nd
theorem OkS.at_ (o : OkS T B G cf k N sc X) {i : Nat} {x : Str} (h : N[i]? = some x) : X.N[i]? = some x := by rw [o.x.hN]; exact h
theorem OkS.lc (o : OkS T B G cf k N sc X) {x : Str} (h : loc sc x = true) : Loc X.env.scope x := by rw [o.x.hsc]; exact loc_ok h
theorem OkS.lv (o : OkS T B G cf k N sc X) {x : Str} (h : loc sc x = true) : Vis X.env.scope x := (o.lc h).imp id .inl
theorem OkS.vis (o : OkS T B G cf k N sc X) {x : Str} (h : vis sc x = true) : Vis X.env.scope x := by rw [o.x.hsc]; exact vis_ok h
theorem OkS.block (o : OkS T B G cf k N sc X) : X.env.blockKind = .function := by
  unfold PySem.Env.blockKind
  rw [o.x.hsc, o.kind]
  rfl
theorem sw_eq (o : OkS T B G cf k N sc X) {elt : Expr} {gens : List Comprehension} {s : Scope} {p px : Pos} {x : Str} (hx : loc sc x = true) (l : Nat) :
    swapsWith (.ListComp elt gens s p) (some (.Name x px)) l X.env = pure (swaps sc x px s p) := by
  show (pure (X.env.blockKind == .function && X.env.kindOf x == some .local && px.line == p.line && !(s.names.any fun (n, k) => n == x && (k == .local || k == .cell))) : Sem Bool) = _
  have h1 : (X.env.kindOf x == some .local) = lcl sc x := by
    unfold PySem.Env.kindOf
    rw [o.x.hsc]
    unfold lcl
    unfold loc at hx
    split at hx
    · rename_i h; rw [h]; rfl
    · rename_i h; rw [h]; rfl
    · cases hx
  rw [o.block, h1]
  rfl
theorem lc_parts (o : OkX T B G cf k N sc X) {elt : E} {tg : Tg} {it : It} {cond : E} {x tgt iter : Expr} {ifs : List Expr} {scope : Scope} (h : chkLc T N sc elt tg it cond x tgt iter ifs scope = true) :
    PI X tgt iter (tI X.K B G cf it) ∧ blkC N sc scope (ownOf N tg.slots) = true ∧ (∀ v, foldedSetIterable iter X.env v = pure v) ∧
    (∀ (s : Shared) (H : Hp) (C : Addr) (cl : List (Str × Addr)) (fp : List Addr), PG (X.blk s H scope (compEnvC scope cl C X.env) fp) tgt (gT X.K tg)) ∧
    (∀ (s : Shared) (H : Hp) (C : Addr) (cl : List (Str × Addr)) (fp : List Addr), PTs (X.blk s H scope (compEnvC scope cl C X.env) fp) ifs (tC_ X.K B G cf cond)) ∧
    (∀ (s : Shared) (H : Hp) (C : Addr) (cl : List (Str × Addr)) (fp : List Addr), PE (X.blk s H scope (compEnvC scope cl C X.env) fp) x (tE X.K B G cf elt)) := by
  unfold chkLc at h
  simp only [Bool.and_eq_true] at h
  obtain ⟨⟨⟨⟨h1, h2⟩, h3⟩, h4⟩, h5, h6⟩ := h
  obtain ⟨i1, i2⟩ := sndI it _ _ h3 o
  exact ⟨i1, h2, i2, fun s H C cl fp => pg_T (X := X.blk s H _ (compEnvC _ cl C X.env) fp) (by rw [(o.blk s H C cl fp).hN]; exact o.nd) o.calm (by rw [(o.blk s H C cl fp).hN, (o.blk s H C cl fp).hsc]; exact h1),
    fun s H C cl fp => pts_of rfl h4 fun x _ hc => sndE cond x hc (o.blk s H C cl fp), fun s H C cl fp => (sndE elt _ h6 (o.blk s H C cl fp)).pe⟩
theorem ps_asg_ (o : OkS T B G cf k N sc X) {i : Nat} {e : E} {x : Str} {px pos : Pos} {y : Expr} (h1 : N[i]? = some x) (h2 : loc sc x = true) (h : chkAsg T N sc e x px y = true) :
    PS X (.Assign [.Name x px] y pos) (tAsg (tE X.K B G cf e) (gName i)) := by
  unfold chkAsg at h
  split at h
  · split at h
    · rename_i sw
      obtain ⟨p1, p2, p3, p4, p5, p6⟩ := lc_parts o.x h
      exact ps_lc o.x p1 p2 h1 (lcl_ok (by unfold swaps at sw; simp only [Bool.and_eq_true] at sw; exact sw.1.1)) (by rw [sw_eq o h2, sw]) p4 p5 p6 p3
    · rename_i sw
      have sw := (Bool.not_eq_true _).mp sw
      exact ps_set o.nx (o.at_ h1) (o.lc h2) (sndE _ _ h o.x).pe (by rw [sw_eq o h2, sw]) (.inl (o.fn _))
  · simp only [Bool.and_eq_true] at h
    exact ps_set o.nx (o.at_ h1) (o.lc h2) (sndE _ _ h.2 o.x).pe (noSwap h.1.1 _ _ _) (.inl (o.fn _))
mutual
theorem sndS : ∀ (s : S) (st : Stmt), chkS T N sc s st = true → OkS T B G cf k N sc X → PS X st (tS X.K B (ex G cf s))
  | .asg fr i e, st, h, o => by
    unfold chkS at h
    split at h <;> first | (cases h; done) | (rename_i he; cases he; done) | skip
    rename_i he
    cases he
    simp only [Bool.and_eq_true, beq_iff_eq] at h
    exact (ps_asg_ o h.1.1 h.1.2 h.2).imp fun D σ H q => tS_asg q
  | .asgT is e, st, h, o => by
    unfold chkS at h
    split at h <;> first | (cases h; done) | (rename_i he; cases he; done) | skip
    rename_i he
    cases he
    simp only [Bool.and_eq_true, Bool.not_eq_true'] at h
    obtain ⟨⟨⟨⟨h1, h2⟩, h3⟩, h4⟩, h5⟩ := h
    exact (ps_asg (sndE e _ h5 o.x).pe (pg_T2u o.nx o.x.calm o.fn (by rw [o.x.hN, o.x.hsc]; exact h1)) (by exact noSole h2 _ _ _) (by exact noStores h3 _)).imp fun D σ H q => tS_asgT q
  | .aug i b e, st, h, o => by
    unfold chkS at h
    split at h <;> first | (cases h; done) | (rename_i he; cases he; done) | skip
    rename_i he
    cases he
    simp only [Bool.and_eq_true, beq_iff_eq] at h
    obtain ⟨⟨⟨⟨h1, h2⟩, h3⟩, h4⟩, h5⟩ := h
    subst h3
    exact (ps_aug o.nx (o.at_ h1) (o.lc h2) (sndE e _ h5 o.x).pe (ip_aug b) (.inl (o.fn _))).imp fun D σ H q => tS_aug q
  | .app i e, st, h, o => by
    unfold chkS at h
    split at h <;> first | (cases h; done) | (rename_i he; cases he; done) | skip
    rename_i x px a apos y cpos pos he
    cases he
    simp only [Bool.and_eq_true, beq_iff_eq] at h
    obtain ⟨⟨⟨⟨⟨⟨h1, h2⟩, h3⟩, h4⟩, h5⟩, h6⟩, h7⟩ := h
    subst h1
    obtain ⟨n1, n2, n3⟩ := okName_ok h4
    have ha := (sndEs (X := X) (G := G) (cf := cf) (k := k) (.cons e .nil) [y] (by simp only [chkEs, h6, h7, Bool.and_self]) o.x).1
    refine (ps_expr (pe_bm PySem.F.plainAttrs_list PySem.F.slot_list_append PySem.F.type_list_append mt_append (pe_var (o.at_ h2) (o.lv h3) n1 n2) ha rfl ?_ (by rw [beq_iff_eq]; exact h5) (star_of h6 _ _) rfl) rfl).imp fun D σ H q => tS_app q
    rw [star_of h6]
    rfl
  | .setI i ke e, st, h, o => by
    unfold chkS at h
    split at h <;> first | (cases h; done) | (rename_i he; cases he; done) | skip
    rename_i he
    cases he
    simp only [Bool.and_eq_true, beq_iff_eq] at h
    obtain ⟨⟨⟨⟨⟨⟨⟨h1, h2⟩, h3⟩, h4⟩, h5⟩, h6⟩, h7⟩, h8⟩ := h
    obtain ⟨n1, n2, n3⟩ := okName_ok h3
    exact (ps_asg (sndE e _ h8 o.x).pe (pg_sub (pe_var (o.at_ h1) (o.lv h2) n1 n2) (sndE ke _ h5 o.x).pe set_list (asub_of h4)) (noSole h6 _ _ _) (noStore1 _ _) rfl).imp fun D σ H q => tS_setI q
  | .ite c a b, st, h, o => by
    unfold chkS at h
    split at h <;> first | (cases h; done) | (rename_i he; cases he; done) | skip
    rename_i he
    cases he
    simp only [Bool.and_eq_true, Bool.not_eq_true'] at h
    obtain ⟨⟨⟨⟨h1, h2⟩, h3⟩, h4⟩, h5⟩ := h
    exact (ps_if ((sndE c _ h3 o.x).pt h1) (sndSs a _ h4 o) (sndSs b _ h5 o)).imp fun D σ H q => tS_if q
  | .for_ lk tg it b, st, h, o => by
    unfold chkS at h
    split at h <;> first | (cases h; done) | (rename_i he; cases he; done) | skip
    rename_i he
    cases he
    simp only [Bool.and_eq_true] at h
    obtain ⟨⟨h1, h2⟩, h3⟩ := h
    obtain ⟨i1, i2⟩ := sndI it _ _ h2 o.x
    exact (ps_for o.own o.x.calm i1 (pg_T2 o.nx o.x.calm o.fn (by rw [o.x.hN, o.x.hsc]; exact h1)) (sndSs b _ h3 o) i2).imp fun D σ H q => tS_for q
  | .while_ c b, st, h, o => by
    unfold chkS at h
    split at h <;> first | (cases h; done) | (rename_i he; cases he; done) | skip
    rename_i he
    cases he
    simp only [Bool.and_eq_true, Bool.not_eq_true'] at h
    obtain ⟨⟨⟨h1, h2⟩, h3⟩, h4⟩ := h
    exact (ps_while o.own ((sndE c _ h3 o.x).pt h1) (sndSs b _ h4 o)).imp fun D σ H q => tS_while q
  | .ret e, st, h, o => by
    unfold chkS at h
    split at h <;> first | (cases h; done) | (rename_i he; cases he; done) | skip
    rename_i he
    cases he
    simp only [Bool.and_eq_true] at h
    exact (ps_ret (sndE e _ h.2 o.x).pe).imp fun D σ H q => tS_ret q
  | .mv i j, st, h, o => by
    unfold chkS at h
    split at h <;> first | (cases h; done) | (rename_i he; cases he; done) | skip
    rename_i he1 he2
    cases he1
    cases he2
    simp only [Bool.and_eq_true, beq_iff_eq] at h
    obtain ⟨⟨h1, h2⟩, h3, h4⟩ := h
    obtain ⟨n1, n2, n3⟩ := okName_ok h4
    exact (ps_asg (pe_var (o.at_ h3.1) (o.vis h3.2) n1 n2) (pg_name o.nx (o.at_ h1) (o.lc h2) (.inl (o.fn _)))).imp fun D σ H q => tS_mv q
  | .retMv i, st, h, o => by
    unfold chkS at h
    split at h <;> first | (cases h; done) | (rename_i he; cases he; done) | skip
    rename_i he
    cases he
    simp only [Bool.and_eq_true, beq_iff_eq] at h
    obtain ⟨n1, n2, n3⟩ := okName_ok h.2
    exact (ps_ret (pe_var (o.at_ h.1.1) (o.vis h.1.2) n1 n2)).imp fun D σ H q => tS_retMv q
  | .retN, st, h, o => by
    unfold chkS at h
    split at h <;> first | (cases h; done) | (rename_i he; cases he; done) | skip
    exact ps_retN.imp fun D σ H q => tS_retN q
  | .brk, st, h, o => by
    unfold chkS at h
    split at h <;> first | (cases h; done) | (rename_i he; cases he; done) | skip
    exact ps_break.imp fun D σ H q => tS_brk q
  | .cnt, st, h, o => by
    unfold chkS at h
    split at h <;> first | (cases h; done) | (rename_i he; cases he; done) | skip
    exact ps_continue.imp fun D σ H q => tS_cnt q
  | .pass, st, h, o => by
    unfold chkS at h
    split at h <;> first | (cases h; done) | (rename_i he; cases he; done) | skip
    · exact ps_pass.imp fun D σ H q => tS_pass q
    · exact ps_doc.imp fun D σ H q => tS_pass q
  | .expr e, st, h, o => by
    unfold chkS at h
    split at h <;> first | (cases h; done) | (rename_i he; cases he; done) | skip
    rename_i he
    cases he
    simp only [Bool.and_eq_true] at h
    exact (ps_expr (sndE e _ h.2 o.x).pe (noSwap h.1.1 _ _ _)).imp fun D σ H q => tS_expr q
  | .fz _, st, h, o => by
    unfold chkS at h
    cases h
theorem sndSs : ∀ (ss : Ss) (sts : List Stmt), chkSs T N sc ss sts = true → OkS T B G cf k N sc X → PSs X sts (tS X.K B (exs G cf ss))
  | .nil, sts, h, o => by
    unfold chkSs at h
    rw [List.isEmpty_iff.mp h]
    exact pss_nil.imp fun D σ H q => tS_nil q
  | .cons s ss, sts, h, o => by
    unfold chkSs at h
    split at h
    · rename_i g
      cases s <;> first | (cases g; done) | exact (sndSs ss sts h o).imp fun D σ H q => tS_fz q
    · cases sts with
      | nil => cases h
      | cons st sts =>
        simp only [Bool.and_eq_true] at h
        exact (pss_cons (sndS s st h.1 o) (sndSs ss sts h.2 o)).imp fun D σ H q => tS_cons q
end
end
end PV

set_option Elab.async false
set_option linter.all false
set_option maxRecDepth 100000
set_option maxHeartbeats 8000000
/-! PV, part N: defs, the program. -/
namespace PV
open PySem PySem.Spec PyProof.Rows L2
open C8 (scC fnScope_by)
/-- every parameter is written -/
def BindOk (a : Arguments) (ps : List Str) : Prop := ∀ (x qual : Str) (body : List Stmt) (scope : Scope) (kV doc pm : Value) (an : Option Addr) (cdv ct : Value) (us : List Value), us.length = ps.length →
  bindArgs (PySem.W.fnOf x qual a body scope .none kV doc pm an cdv ct) ⟨us, []⟩ = pure (ps.zip us)
/-- a def of the text stands for a def of the table -/
structure DefOk (T : Tab) (d : Df) (N : List Str) (st : Stmt) : Prop where
  slots : d.slots = N.length
  pars : d.pars ≤ N.length
  sc : scC N (N.take d.pars) (defScope st) = true
  body : chkSs { T with gen := d.gen } N (defScope st) d.body (defBody st) = true
  bind : BindOk (defArgs st) (N.take d.pars)
def defC (T : Tab) (d : Df) (N : List Str) (st : Stmt) : Bool := decide (d.slots = N.length) && decide (d.pars ≤ N.length) && scC N (N.take d.pars) (defScope st) && chkSs { T with gen := d.gen } N (defScope st) d.body (defBody st)
theorem DefOk.of {T : Tab} {d : Df} {N : List Str} {st : Stmt} (h : defC T d N st = true) (b : BindOk (defArgs st) (N.take d.pars)) : DefOk T d N st := by
  unfold defC at h
  simp only [Bool.and_eq_true, decide_eq_true_eq] at h
  exact ⟨h.1.1.1, h.1.1.2, h.1.2, h.2, b⟩
/-- the table of a program, as it stands in the world -/
structure ProgOk (T : Tab) (B : AP) (G : Glob) (P : List Df) (K : PySem.W.Frag) (mg : Str → Option Value) (base : Heap) : Prop where
  fn : ∀ (i : Nat) (x : Str), T.fn[i]? = some x → ∃ d N st a fd, P[i]? = some d ∧ DefOk T d N st ∧ FunD K x x (defArgs st) (defBody st) (defScope st) [] [] a fd ∧ mg x = some (.ref a) ∧ (d.gen = true → ∃ c Pt, fd.code = .ref c ∧ GxR.TabB base mg c Pt ∧ B Pt)
  len : P.length = T.fn.length
  free : ∀ x, x ∈ bnames → mg x = none
  con : ∀ (k : Nat) (x : Str), T.con[k]? = some x → ∃ d v u, G.consts[k]? = some d ∧ d.isFrz = true ∧ mg x = some u ∧ RelV v u ∧ ∀ F L H, Rep K F L H d v []
section
variable {K : PySem.W.Frag} {B F L : AP} {H : Hp}
/-- an argument list's nodes, one by one -/
theorem RepL.split : ∀ {ds : List D} {vs : List V} {fs : List Addr}, RepL K F L H ds vs fs → fs.Nodup → ∃ fp : Nat → List Addr, (∀ i d, ds[i]? = some d → ∃ v, vs[i]? = some v ∧ Rep K F L H d v (fp i)) ∧ (∀ i, (fp i).Nodup) ∧ (∀ i j a, a ∈ fp i → a ∈ fp j → i = j) ∧ ∀ a, (∃ i, a ∈ fp i) ↔ a ∈ fs
  | [], vs, fs, h, _ => by
    simp only [RepL] at h
    exact ⟨fun _ => [], fun i d e => by simp at e, fun _ => List.nodup_nil, fun i j a ha _ => (by cases ha), fun a => by rw [h.2]; simp⟩
  | d :: ds, vs, fs, h, nd => by
    simp only [RepL] at h
    obtain ⟨v, vr, f1, f2, rfl, h1, h2, rfl⟩ := h
    obtain ⟨n1, n2, n3⟩ := List.nodup_append.mp nd
    obtain ⟨fp, p1, p2, p3, p4⟩ := RepL.split h2 n2
    refine ⟨fun i => match i with
      | 0 => f1
      | i + 1 => fp i, fun i d' e => ?_, fun i => ?_, fun i j a ha hb => ?_, fun a => ⟨fun ⟨i, hi⟩ => ?_, fun ha => ?_⟩⟩
    · cases i with
      | zero =>
        simp only [List.getElem?_cons_zero, Option.some.injEq] at e
        subst e
        exact ⟨v, by simp, h1⟩
      | succ i => exact p1 i d' (by simpa using e)
    · cases i with
      | zero => exact n1
      | succ i => exact p2 i
    · cases i with
      | zero =>
        cases j with
        | zero => rfl
        | succ j => exact absurd rfl (n3 a ha a ((p4 a).mp ⟨j, hb⟩))
      | succ i =>
        cases j with
        | zero => exact absurd rfl (n3 a hb a ((p4 a).mp ⟨i, ha⟩))
        | succ j => rw [p3 i j a ha hb]
    · cases i with
      | zero => exact List.mem_append_left _ hi
      | succ i => exact List.mem_append_right _ ((p4 a).mp ⟨i, hi⟩)
    · rcases List.mem_append.mp ha with z | z
      · exact ⟨0, z⟩
      · obtain ⟨i, hi⟩ := (p4 a).mpr z
        exact ⟨i + 1, hi⟩
end
theorem start_get {N : List Str} {vs : List V} {i : Nat} {v : V} (h : vs[i]? = some v) : (L2.start N vs)[i]? = some (some v) := by
  unfold L2.start
  have hi : i < vs.length := (List.getElem?_eq_some_iff.mp h).1
  rw [List.getElem?_append_left (by simpa using hi), List.getElem?_map, h]
  rfl
theorem env_get {ds : List D} {m : Nat} {i : Nat} {d : D} (h : (ds.map some ++ List.replicate m none)[i]? = some (some d)) : ds[i]? = some d := by
  by_cases hi : i < ds.length
  · rw [List.getElem?_append_left (by simpa using hi), List.getElem?_map] at h
    rw [List.getElem?_eq_getElem hi] at h ⊢
    simpa using h
  · rw [List.getElem?_append_right (by simpa using hi), List.getElem?_replicate] at h
    split at h <;> simp at h
/-- a def by its body, its code object told -/
theorem fund_ok {P : Program} {w : World} {K : PySem.W.Frag} {mg : Str → Option Value} {base : Heap} {x qual : Str} {params : Arguments} {body : List Stmt} {scope : Scope} {dvs : List V} {kws : List (Str × V)} {f : Addr} {fd : FuncData} {CX : CXT} {N ps : List Str} {k : Nat} {sp : Sp} (F : FunD K x qual params body scope dvs kws f fd) (S : FnScope N ps scope) (len : ∀ vs H Q E, sp vs H Q E → vs.length = ps.length)
    (hbody : ∀ (A : Around) (outer : List PySem.Env) (s : Shared) (H : Hp) (vs : List V) (Q : VK) (E : XK), Room k (A.deeper (envOfC qual scope s.heap.objs.size f fd.code)) → sp vs H Q E →
      ∃ t, PSs (cxOf CX P w K mg base N qual scope f fd.code A outer s H E) body t ∧ t { nx := fun _ H' => Q .non H', rt := Q } (L2.start N vs) H) : FnOk P w K mg base CX (k + 1) f fd ps sp := by
  obtain ⟨oc, od, dV, kV, doc, pm, an, cdv, ct, osl, rfl, lk, hcd, _, _⟩ := F.ex
  exact fn_of lk hcd S len fun A outer s H vs Q E hr hsp => hbody A outer s H vs Q E hr hsp
theorem call_len {G : Glob} {P : List Df} {n i : Nat} {d : Df} {ds : List D} {r : D} (hd : P[i]? = some d) (h : call G P n i ds = some r) : ds.length = d.pars := by
  cases n with
  | zero => simp [call] at h
  | succ n =>
    simp only [call, hd] at h
    split at h
    · rename_i hz
      exact hz.1
    · cases h
/-- every def keeps what the evaluator says, at every depth -/
theorem fn_at {T : Tab} {G : Glob} {P : List Df} {prog : Program} {w : World} {K : PySem.W.Frag} {mg : Str → Option Value} {base : Heap} (O : ProgOk T B G P K mg base) :
    ∀ (n i : Nat) (x : Str) (d : Df) (N : List Str) (st : Stmt) (a : Addr) (fd : FuncData), P[i]? = some d → DefOk T d N st → FunD K x x (defArgs st) (defBody st) (defScope st) [] [] a fd → (d.gen = true → ∃ c Pt, fd.code = .ref c ∧ GxR.TabB base mg c Pt ∧ B Pt) →
      FnOk prog w K mg base CX0 (2 * n) a fd (N.take d.pars) (spF K B (call G P n) i (N.take d.pars).length) := by
  intro n
  induction n with
  | zero =>
    intro i x d N st a fd hd ok F hgen
    refine ⟨fun vs H Q E h => h.1, fun A outer s H args us vs Q E hr he hb hv h => ?_⟩
    obtain ⟨_, _, _, _, _, _, _, _, _, _, _, _, z, _⟩ := h
    simp [call] at z
  | succ n ih =>
    intro i x d N st a fd hd ok F hgen
    have lps : (N.take d.pars).length = d.pars := by rw [List.length_take]; have := ok.pars; omega
    refine fund_ok (k := 2 * n + 1) F (fnScope_by ok.sc) (fun vs H Q E h => h.1) (fun A outer s H vs Q E hr h => ?_)
    have pf : PF { T with gen := d.gen } B G (call G P n) (2 * n) prog w K mg base := ⟨fun f y hy => by
      obtain ⟨d', N', st', a', fd', hd', ok', F', hm', hg'⟩ := O.fn f y hy
      have lps' : (N'.take d'.pars).length = d'.pars := by rw [List.length_take]; have := ok'.pars; omega
      exact ⟨a', fd', N'.take d'.pars, hm', ih f y d' N' st' a' fd' hd' ok' F' hg', F'.bindsN (ok'.bind _ _ _ _), F'.kp, fun ds r h => by rw [lps']; exact call_len hd' h⟩, O.free, O.con⟩
    have S := fnScope_by ok.sc
    have hk : (defScope st).kind = .function := by
      have z := ok.sc
      unfold scC at z
      simp only [Bool.and_eq_true, decide_eq_true_eq] at z
      exact z.1.1.1.1.1.1
    have hnd : N.Nodup := S.nd
    refine ⟨tS K B (exs G (call G P n) d.body), PSs.nox (sndSs (T := { T with gen := d.gen }) (k := 2 * n) (N := N) (sc := defScope st) d.body (defBody st) ok.body ⟨⟨rfl, hnd, rfl, rfl, hr.mono (Nat.le_succ _), pf, fun hq => by
      obtain ⟨c, Pt, e1, e2, e3⟩ := hgen hq
      exact ⟨c, Pt, hr, e2, e1, e3⟩⟩, hk, PassesOwn.never, fun _ => rfl⟩), ?_⟩
    obtain ⟨hl, F0, L, ds, fs, dr, r, nd, fr, hF, hL, hB, hc, kk⟩ := h
    simp only [call, hd] at hc
    split at hc
    · rename_i hz
      obtain ⟨z1, z2, z3⟩ := hz
      obtain ⟨fp, p1, p2, p3, p4⟩ := r.split nd
      have sr : SR K B F0 L H (L2.start N vs) (ds.map some ++ List.replicate (d.slots - d.pars) none) fp := by
        refine ⟨?_, fun j e he => ?_, fun j e he => ?_, p2, p3, fun j b hb => ?_, hF, hL, hB⟩
        · have := r.length
          simp only [L2.start, List.length_append, List.length_map, List.length_replicate]
          rw [this, z1, ok.slots]
        · obtain ⟨v, h1, h2⟩ := p1 j e (env_get he)
          exact ⟨v, start_get h1, h2⟩
        · have := List.mem_of_getElem? (env_get he)
          exact List.all_eq_true.mp z3 e this
        · have hb' := (p4 b).mp ⟨j, hb⟩
          exact ⟨(fr b hb').1, (fr b hb').2, by
            obtain ⟨o, e⟩ := r.stand ds b hb'
            rw [e]; simp⟩
      cases q : exs G (call G P n) d.body (ds.map some ++ List.replicate (d.slots - d.pars) none) with
      | none => rw [q] at hc; cases hc
      | some o =>
        rw [q] at hc
        refine ⟨F0, L, _, fp, o, sr, q, ?_⟩
        cases o with
        | nx e =>
          simp only [Option.some.injEq] at hc
          subst hc
          intro F' H' σ' fp' s' p'
          exact kk .non H' F' [] (fun b u e dd nb => p'.kp b u e dd fun j z => nb ((p4 b).mp ⟨j, z⟩)) p'.st p'.tb p'.mono (fun b e => (p'.new b e).imp id fun z => z.imp (fun z => (p4 b).mp z) id) s'.FH (by simp [Rep]) List.nodup_nil fun b hb => by cases hb
        | rt v0 =>
          simp only [Option.some.injEq] at hc
          subst hc
          intro F' H' v fv p'
          have kp : ∀ b u, H b = some u → datO u = true → b ∉ fs → H' b = some u := fun b u e dd nb => p'.kp b u e dd fun j z => nb ((p4 b).mp ⟨j, z⟩)
          have nw : ∀ b, F' b → F0 b ∨ b ∈ fs ∨ H b = none := fun b e => (p'.new b e).imp id fun z => z.imp (fun z => (p4 b).mp z) id
          cases hfr : d.fr with
          | false =>
            rw [hfr] at kk
            exact kk v H' F' fv kp p'.st p'.tb p'.mono nw p'.FH p'.rep p'.nd fun b hb => ⟨(p'.own b hb).1.imp (fun z => (p4 b).mp z) id, (p'.own b hb).2⟩
          | true =>
            rw [hfr] at kk
            refine kk v H' (fun a => F' a ∨ a ∈ fv) [] kp p'.st p'.tb (fun b e => .inl (p'.mono b e)) (fun b e => e.elim (nw b) fun z => .inr ((p'.own b z).1.imp (fun z => (p4 b).mp z) id)) (fun b e => e.elim (p'.FH b) fun z => ?_) (p'.rep.freeze _ p'.nl) List.nodup_nil fun b hb => by cases hb
            obtain ⟨o, q⟩ := p'.rep.stand _ b z
            rw [q]
            simp
        | bk e => cases hc
        | ct e => cases hc
    · cases hc
end PV

set_option Elab.async false
set_option linter.all false
set_option maxRecDepth 100000
set_option maxHeartbeats 8000000
/-! PV, part O: binding, the head. -/
namespace PV
open PySem PySem.Spec PyProof.Rows L2
def argsC (a : Arguments) (ps : List Str) : Bool := match a with
  | ⟨[], as, none, [], _, none, _⟩ => decide (as.map (·.arg) = ps) && decide ps.Nodup
  | _ => false
theorem zip_lookup : ∀ {ps : List Str} {us : List Value} {k : Str}, us.length = ps.length → k ∈ ps → ((ps.zip us).lookup k).isNone = false
  | [], _, _, _, h => by cases h
  | p :: ps, [], _, h, _ => by simp at h
  | p :: ps, u :: us, k, h, hk => by
    rw [List.zip_cons_cons, List.lookup_cons]
    by_cases e : (k == p) = true
    · rw [e]; rfl
    · rw [Bool.not_eq_true] at e
      rw [e]
      simp only
      refine zip_lookup (by simpa using h) ?_
      rcases List.mem_cons.mp hk with z | z
      · subst z; rw [beq_self_eq_true] at e; cases e
      · exact z
theorem zip_self : ∀ {ps : List Str} {us : List Value}, us.length = ps.length → ps.Nodup → ∀ pre : List (Str × Value), (∀ p ∈ ps, pre.lookup p = none) → ps.filterMap (fun n => ((pre ++ ps.zip us).lookup n).map (n, ·)) = ps.zip us
  | [], us, h, _, _, _ => by cases us <;> simp
  | p :: ps, [], h, _, _, _ => by simp at h
  | p :: ps, u :: us, h, nd, pre, hp => by
    obtain ⟨n1, n2⟩ := List.nodup_cons.mp nd
    have h0 : (pre ++ (p :: ps).zip (u :: us)).lookup p = some u := by
      rw [List.lookup_append, hp p List.mem_cons_self, List.zip_cons_cons, List.lookup_cons, beq_self_eq_true]
      rfl
    rw [List.filterMap_cons, h0]
    simp only [Option.map_some, List.zip_cons_cons, List.cons.injEq, true_and]
    have := zip_self (ps := ps) (us := us) (by simpa using h) n2 (pre ++ [(p, u)]) fun q hq => by
      rw [List.lookup_append, hp q (List.mem_cons_of_mem _ hq), List.lookup_cons]
      have : (q == p) = false := by
        rw [beq_eq_false_iff_ne]
        rintro rfl
        exact n1 hq
      rw [this]
      rfl
    rw [List.append_assoc] at this
    exact this
theorem bindOk_of {a : Arguments} {ps : List Str} (h : argsC a ps = true) : BindOk a ps := by
  unfold argsC at h
  split at h
  · rename_i as kd df
    simp only [Bool.and_eq_true, decide_eq_true_eq] at h
    obtain ⟨h1, nd⟩ := h
    intro x qual body scope kV doc pm an cdv ct us hl
    have hl' : us.length = as.length := by rw [hl, ← h1, List.length_map]
    have z1 : ¬ us.length > as.length := by omega
    have fl : (ps.filter fun n => ((ps.zip us).lookup n).isNone) = [] := by
      rw [List.filter_eq_nil_iff]
      intro n hn
      rw [zip_lookup hl hn]
      simp
    have fm := zip_self hl nd [] fun p _ => rfl
    rw [List.nil_append] at fm
    unfold bindArgs
    simp [PySem.W.fnOf, seqItems?, h1, fl, fm, z1, notAStandIn]
    intro q
    omega
  · cases h
/-! ### the table of a program: name, def, its names, its text -/
abbrev Row : Type := Str × Df × List Str × Stmt
def rowC (T : Tab) (r : Row) : Bool := defC T r.2.1 r.2.2.1 r.2.2.2 && argsC (defArgs r.2.2.2) (r.2.2.1.take r.2.1.pars)
def tabT (tbl : List Row) (con : List Str) : Tab := { fn := tbl.map (·.1), con := con }
def tabP (tbl : List Row) : List Df := tbl.map (·.2.1)
def tabD (tbl : List Row) : List He.DefD := tbl.map fun r => ⟨(r.1, none), r.1, r.1, defArgs r.2.2.2, defBody r.2.2.2, defScope r.2.2.2, [], []⟩
def tabF (tbl : List Row) : List He.Fa := tbl.map (fun r => He.Fa.glo r.1) ++ bnames.map .free
theorem rowC_ok {T : Tab} {r : Row} (h : rowC T r = true) : DefOk T r.2.1 r.2.2.1 r.2.2.2 := by
  unfold rowC at h
  simp only [Bool.and_eq_true] at h
  exact .of h.1 (bindOk_of h.2)
/-- the defs that make generators: their tables -/
def tabG (tbl : List Row) : List He.Defn := (tbl.filter fun r => r.2.1.gen).map fun r => (r.1, none)
section
variable {K : PySem.W.Frag} {h : Heap} {mg : Str → Option Value} {tbl : List Row}
def bT (K : PySem.W.Frag) (tbl : List Row) : AP := fun P => ∃ p ∈ tabG tbl, (He.cT K p).2 = P
theorem tab_of {r : Row} (hm : r ∈ tbl) (hq : r.2.1.gen = true) : ((r.1, none) : He.Defn) ∈ tabG tbl := List.mem_map.mpr ⟨r, List.mem_filter.mpr ⟨hm, hq⟩, rfl⟩
theorem code_ref {r : Row} {fd : FuncData} (F : FunD K r.1 r.1 (defArgs r.2.2.2) (defBody r.2.2.2) (defScope r.2.2.2) [] [] (He.fAd K (r.1, none)) fd) : fd.code = .ref (He.cT K (r.1, none)).1 := by
  obtain ⟨oc, od, dV, kV, doc, pm, an, cdv, ct, osl, rfl, lk, hcd, _, _⟩ := F.ex
  obtain ⟨c, rfl⟩ := He.codeIn_ref hcd
  exact congrArg Value.ref (He.codeOf_eq lk rfl).symm
theorem fund_of (c : He.SaysD (tabF tbl) (tabD tbl) K) {r : Row} {i : Nat} (hr : tbl[i]? = some r) : ∃ fd, FunD K r.1 r.1 (defArgs r.2.2.2) (defBody r.2.2.2) (defScope r.2.2.2) [] [] (He.fAd K (r.1, none)) fd := by
  have hd : (tabD tbl)[i]? = some ⟨(r.1, none), r.1, r.1, defArgs r.2.2.2, defBody r.2.2.2, defScope r.2.2.2, [], []⟩ := by simp [tabD, hr]
  obtain ⟨fd, F⟩ := c.def_ i hd
  exact ⟨fd, F⟩
theorem prog_of {base : Heap} (X : K.In h) (Gm : h.Ns mainGlobals mg) (c : He.SaysD (tabF tbl) (tabD tbl) K) (ok : (tbl.all fun r => rowC (tabT tbl []) r) = true) (tb : ∀ p ∈ tabG tbl, GxR.TabB base mg (He.cT K p).1 (He.cT K p).2) : ProgOk (tabT tbl []) (bT K tbl) ⟨[]⟩ (tabP tbl) K mg base where
  fn := fun i x hx => by
    simp only [tabT, List.getElem?_map, Option.map_eq_some_iff] at hx
    obtain ⟨r, hr, rfl⟩ := hx
    have hm := List.mem_of_getElem? hr
    obtain ⟨fd, F⟩ := fund_of c hr
    have hg : (tabF tbl)[i]? = some (.glo r.1) := by
      have hi : i < tbl.length := (List.getElem?_eq_some_iff.mp hr).1
      rw [tabF, List.getElem?_append_left (by simpa using hi)]
      simp [hr]
    exact ⟨r.2.1, r.2.2.1, r.2.2.2, _, fd, by simp [tabP, hr], rowC_ok (List.all_eq_true.mp ok r hm), F, He.glo_ok X Gm (c.fact i hg), fun hq => ⟨_, _, code_ref F, tb _ (tab_of hm hq), _, tab_of hm hq, rfl⟩⟩
  len := by simp [tabP, tabT]
  free := fun x hx => by
    obtain ⟨j, hj, e⟩ := List.mem_iff_getElem.mp hx
    have hg : (tabF tbl)[tbl.length + j]? = some (.free x) := by
      rw [tabF, List.getElem?_append_right (by simp)]
      have : bnames[j]? = some x := by rw [List.getElem?_eq_getElem hj, e]
      simp [this]
    exact He.free_ok X Gm (c.fact _ hg)
  con := fun k x h => by simp [tabT] at h
/-- what the law's def promises, by the evaluator's answer -/
theorem law_sp {B : AP} {G : Glob} {P : List Df} {n i : Nat} {N : Nat} (ev : ∀ ns : List Int, ns.length ≤ N → call G P n i [.scr ns] = some (.bl true)) (H : Hp) (a : Addr) (ns : List Int) (hl : ns.length ≤ N) (hT : ∀ P, B P → GxR.TabG H P) (hS : SqL K H a (ns.map V.int)) :
    spF K B (call G P n) i 1 [.ref a] H (fun v _ => v = .bl true) fun _ _ _ => False := by
  refine ⟨rfl, fun b => b = a ∧ H b ≠ none, fun _ => False, [.scr ns], [], .bl true, ?_, List.nodup_nil, (by intro b hb; cases hb), fun b e => e.2, (fun b e => False.elim e), hT, ev ns hl, fun v H' F' fv _ _ _ _ _ _ r _ _ => r.bl_⟩
  simp only [RepL, Rep]
  refine ⟨.ref a, [], [], [], rfl, ⟨a, rfl, ?_, by trivial⟩, ⟨rfl, by trivial⟩, by trivial⟩
  rcases hS with h | h
  · refine .inl ⟨⟨rfl, ?_⟩, h⟩
    rcases h with h | ⟨o, h⟩ <;> rw [h] <;> simp
  · exact .inr h
end
/-- the law, for walk_ofTsE -/
theorem law_F {l : PySem.W.OpenLaw} {tbl : List Row} {r : Row} {n i : Nat} {x : Str} (hr : tbl[i]? = some r) (h1 : r.2.1.pars = 1) (hx : r.2.2.1.take 1 = [x]) (ok : (tbl.all fun r => rowC (tabT tbl []) r) = true)
    (ev : ∀ ns : List Int, ns.length ≤ 63 → call ⟨[]⟩ (tabP tbl) n i [.scr ns] = some (.bl true)) (w : World) (mg : Str → Option Value) (fa : Addr) (h : Heap) (Y : ∃ K : PySem.W.Frag, K.In h ∧ He.SaysX (tabF tbl) (tabD tbl) [] (tabG tbl) (fun _ => true) w h K)
    (Gm : h.Ns mainGlobals mg) (hmg : mg r.1 = some (.ref fa)) :
    ∃ K : PySem.W.Frag, K.In h ∧ LamX.LawAtS l w K CX0 (2 * n) 63 x mg fa h := by
  obtain ⟨K, KX, Z⟩ := Y
  have c := Z.t.d
  have hd0 : (tabP tbl)[i]? = some r.2.1 := by simp [tabP, hr]
  have hm := List.mem_of_getElem? hr
  have rok := rowC_ok (List.all_eq_true.mp ok r hm)
  obtain ⟨fd, F⟩ := fund_of c hr
  have hg : (tabF tbl)[i]? = some (.glo r.1) := by
    have hi : i < tbl.length := (List.getElem?_eq_some_iff.mp hr).1
    rw [tabF, List.getElem?_append_left (by simpa using hi)]
    simp [hr]
  have e := hmg.symm.trans (He.glo_ok KX Gm (c.fact i hg))
  cases e
  have hN : r.2.2.1.take r.2.1.pars = [x] := by rw [h1]; exact hx
  have b := FunD.bindsA (ps := [x]) F (by
    have z := rok.bind
    rw [hN] at z
    exact z _ _ _ _)
  have inC : ∀ p ∈ (tabG tbl).map (He.cT K), ∃ q ∈ tabG tbl, He.cT K q = p := fun p hp => List.mem_map.mp hp
  refine ⟨K, KX, fd, (tabG tbl).map (He.cT K), spF K (bT K tbl) (call ⟨[]⟩ (tabP tbl) n) i 1, fun p hp => ?_, fun p hp => ?_, fun p hp => ?_, fun s u => b s [u] rfl, fun H a ns hl _ hT hS => law_sp ev H a ns hl (fun P ⟨q, hq, e⟩ => ⟨#[], by rw [← e]; exact hT _ (List.mem_map.mpr ⟨q, hq, rfl⟩), ?_⟩) hS, fun base _ _ tb => ?_⟩
  · obtain ⟨q, hq, rfl⟩ := inC p hp
    exact Z.empty q hq
  · obtain ⟨q, hq, rfl⟩ := inC p hp
    exact Z.out q hq
  · obtain ⟨q, hq, rfl⟩ := inC p hp
    exact PySem.W.codeHd_of_K KX (Z.hd q hq)
  · trivial
  · have tb' : ∀ p ∈ tabG tbl, GxR.TabB base mg (He.cT K p).1 (He.cT K p).2 := fun p hp => by
      have t := tb _ (List.mem_map.mpr ⟨p, hp, rfl⟩)
      exact ⟨t.code, t.bm, t.gP⟩
    have O := prog_of (base := base) KX Gm c ok tb'
    have z := fn_at (prog := l.prog) (w := w) O n i r.1 r.2.1 r.2.2.1 r.2.2.2 _ fd hd0 rok F fun hq => ⟨_, _, code_ref F, tb' _ (tab_of hm hq), _, tab_of hm hq, rfl⟩
    rw [hN] at z
    exact z
end PV

set_option Elab.async false
set_option linter.all false
set_option maxRecDepth 100000
set_option maxHeartbeats 8000000
/-! PV, part P: the evaluator's laws, for plain proofs. -/
namespace PV
section
variable {G : Glob} {cf : Nat → List D → Option D} {env : Env}
@[simp] theorem ev_var {i : Nat} : ev G cf (.var i) env = (getE env i).map D.lock := by rw [ev]
@[simp] theorem ev_non : ev G cf .non env = some .non := by rw [ev]
@[simp] theorem ev_bl {b : Bool} : ev G cf (.bl b) env = some (.bl b) := by rw [ev]
@[simp] theorem ev_int {i : Int} : ev G cf (.int i) env = some (.int i) := by rw [ev]
@[simp] theorem ev_str {s : List Nat} : ev G cf (.str s) env = some (.str s) := by rw [ev]
@[simp] theorem ev_bin {o : BO} {a b : E} : ev G cf (.bin o a b) env = (ev G cf a env).bind fun x => (ev G cf b env).bind fun y => binop o x y := by rw [ev]
@[simp] theorem ev_cmp {o : CO} {a b : E} : ev G cf (.cmp o a b) env = (ev G cf a env).bind fun x => (ev G cf b env).bind fun y => (cmpop o x y).map .bl := by rw [ev]
@[simp] theorem ev_isN {n : Bool} {a : E} : ev G cf (.isN n a) env = (ev G cf a env).map fun x => .bl (if n then !x.isNon else x.isNon) := by rw [ev]
@[simp] theorem ev_isB {n b : Bool} {a : E} : ev G cf (.isB n b a) env = (ev G cf a env).bind fun x => match x with
    | .bl c => some (.bl (if n then !decide (c = b) else decide (c = b)))
    | _ => none := by rw [ev] <;> rfl
@[simp] theorem ev_neg {a : E} : ev G cf (.neg a) env = (ev G cf a env).bind fun x => match x with
    | .int i => some (.int (-i))
    | _ => none := by rw [ev] <;> rfl
@[simp] theorem ev_and {a b : E} : ev G cf (.and a b) env = (asBl (ev G cf a env)).bind fun x => if x then ev G cf b env else some (.bl false) := by rw [ev]
@[simp] theorem ev_or {a b : E} : ev G cf (.or a b) env = (asBl (ev G cf a env)).bind fun x => if x then some (.bl true) else ev G cf b env := by rw [ev]
@[simp] theorem ev_not {a : E} : ev G cf (.not a) env = (asBl (ev G cf a env)).map fun x => .bl (!x) := by rw [ev]
@[simp] theorem ev_ite {c a b : E} : ev G cf (.ite c a b) env = (asBl (ev G cf c env)).bind fun x => if x then ev G cf a env else ev G cf b env := by rw [ev]
@[simp] theorem ev_idx {a b : E} : ev G cf (.idx a b) env = (ev G cf a env).bind fun x => (ev G cf b env).bind fun y => idxop x y := by rw [ev]
@[simp] theorem ev_slc {a lo hi : E} : ev G cf (.slc a lo hi) env = (ev G cf a env).bind fun x => (asP lo (ev G cf lo env)).bind fun l => (asP hi (ev G cf hi env)).bind fun h => slcop x l h := by rw [ev]
@[simp] theorem ev_tup {es : Es} : ev G cf (.tup es) env = (evs G cf es env).bind fun ds => if D.noLckL ds ∧ ds.length ≤ line then some (.tup (D.frzL ds)) else none := by rw [ev]
@[simp] theorem ev_lst {es : Es} : ev G cf (.lst es) env = (evs G cf es env).bind fun ds => if D.noLckL ds ∧ ds.length ≤ line then some (.lst .own (D.frzL ds)) else none := by rw [ev]
@[simp] theorem ev_call {f : Nat} {es : Es} : ev G cf (.call f es) env = (evs G cf es env).bind fun ds => if ds.all D.okD then cf f (ds.map D.frzA) else none := by rw [ev]
@[simp] theorem ev_bi {f : BI} {es : Es} : ev G cf (.bi f es) env = (evs G cf es env).bind fun ds => biop f ds := by rw [ev]
@[simp] theorem ev_inst {t : BT} {a : E} : ev G cf (.inst t a) env = (ev G cf a env).bind fun x => (x.isInst t).map .bl := by rw [ev]
@[simp] theorem evs_nil : evs G cf .nil env = some [] := by rw [evs]
@[simp] theorem evs_cons {e : E} {es : Es} : evs G cf (.cons e es) env = (ev G cf e env).bind fun d => (evs G cf es env).map (d :: ·) := by rw [evs]
@[simp] theorem items_seq {e : E} : items G cf (.seq e) env = (ev G cf e env).bind itemsOf := by rw [items]
theorem items_rng1 {a : E} : items G cf (.rng1 a) env = (ev G cf a env).bind fun x => match x with
    | .int i => if fits62 i then some (rng 0 i) else none
    | _ => none := by rw [items] <;> rfl
theorem items_rng2 {a b : E} : items G cf (.rng2 a b) env = (ev G cf a env).bind fun x => (ev G cf b env).bind fun y => match x, y with
    | .int i, .int j => if fits62 i && fits62 j then some (rng i j) else none
    | _, _ => none := by rw [items] <;> rfl
@[simp] theorem items_zip {a b : E} : items G cf (.zip a b) env = (ev G cf a env).bind fun x => (ev G cf b env).bind fun y => match x, y with
    | .str s, .str t => some (zipD (s.map fun c => .str [c]) (t.map fun c => .str [c]))
    | _, _ => none := by rw [items] <;> rfl
@[simp] theorem asBl_bl {b : Bool} : asBl (some (.bl b)) = some b := rfl
@[simp] theorem asBl_map {b : Option Bool} : asBl (b.map .bl) = b := by cases b <;> rfl
@[simp] theorem asP_nop {o : Option D} : asP .nop o = some none := rfl
theorem asP_int {e : E} {i : Int} (h : e.isNop = false) : asP e (some (.int i)) = some (some i) := by unfold asP; rw [h]; rfl
@[simp] theorem nop_and {a b : E} : E.isNop (.and a b) = false := rfl
@[simp] theorem nop_or {a b : E} : E.isNop (.or a b) = false := rfl
@[simp] theorem nop_not {a : E} : E.isNop (.not a) = false := rfl
@[simp] theorem nop_call {f : Nat} {es : Es} : E.isNop (.call f es) = false := rfl
@[simp] theorem nop_cmp {o : CO} {a b : E} : E.isNop (.cmp o a b) = false := rfl
@[simp] theorem nop_cmp2 {o p : CO} {a b c : E} : E.isNop (.cmp2 o p a b c) = false := rfl
@[simp] theorem nop_isN {n : Bool} {a : E} : E.isNop (.isN n a) = false := rfl
@[simp] theorem nop_isB {n b : Bool} {a : E} : E.isNop (.isB n b a) = false := rfl
@[simp] theorem nop_var {i : Nat} : E.isNop (.var i) = false := rfl
@[simp] theorem nop_int {i : Int} : E.isNop (.int i) = false := rfl
@[simp] theorem nop_bin {o : BO} {a b : E} : E.isNop (.bin o a b) = false := rfl
@[simp] theorem nop_bi {f : BI} {es : Es} : E.isNop (.bi f es) = false := rfl
@[simp] theorem nop_inst {t : BT} {a : E} : E.isNop (.inst t a) = false := rfl
@[simp] theorem nop_idx {a b : E} : E.isNop (.idx a b) = false := rfl
@[simp] theorem nop_bl {b : Bool} : E.isNop (.bl b) = false := rfl
@[simp] theorem ev_rev {a : E} : ev G cf (.rev a) env = (ev G cf a env).bind revop := by rw [ev]
@[simp] theorem nop_rev {a : E} : E.isNop (.rev a) = false := rfl
@[simp] theorem nop_mth {m : MT} {o : E} {es : Es} : E.isNop (.mth m o es) = false := rfl
@[simp] theorem nop_gen {l : Bool} {a : E} {t : Tg} {i : It} : E.isNop (.gen l a t i) = false := rfl
@[simp] theorem nop_ite {a b c : E} : E.isNop (.ite a b c) = false := rfl
@[simp] theorem nop_neg {a : E} : E.isNop (.neg a) = false := rfl
@[simp] theorem asC_nop {o : Option D} : asC .nop o = some true := rfl
theorem asC_val {e : E} {o : Option D} (h : e.isNop = false) : asC e o = asBl o := by unfold asC; rw [h]; rfl
@[simp] theorem lock_non : D.lock .non = .non := by simp [D.lock]
@[simp] theorem lock_bl {b : Bool} : D.lock (.bl b) = .bl b := by simp [D.lock]
@[simp] theorem lock_int {i : Int} : D.lock (.int i) = .int i := by simp [D.lock]
@[simp] theorem lock_str {s : List Nat} : D.lock (.str s) = .str s := by simp [D.lock]
@[simp] theorem lock_scr {s : List Int} : D.lock (.scr s) = .scr s := by simp [D.lock]
@[simp] theorem noLck_non : D.noLck .non = true := rfl
@[simp] theorem noLck_bl {b : Bool} : D.noLck (.bl b) = true := rfl
@[simp] theorem noLck_int {i : Int} : D.noLck (.int i) = true := rfl
@[simp] theorem noLck_str {s : List Nat} : D.noLck (.str s) = true := rfl
@[simp] theorem noLck_scr {s : List Int} : D.noLck (.scr s) = true := rfl
@[simp] theorem frz_non : D.frz .non = .non := by simp [D.frz]
@[simp] theorem frz_bl {b : Bool} : D.frz (.bl b) = .bl b := by simp [D.frz]
@[simp] theorem frz_int {i : Int} : D.frz (.int i) = .int i := by simp [D.frz]
@[simp] theorem frz_str {s : List Nat} : D.frz (.str s) = .str s := by simp [D.frz]
@[simp] theorem frz_scr {s : List Int} : D.frz (.scr s) = .scr s := by simp [D.frz]
@[simp] theorem isFrz_non : D.isFrz .non = true := rfl
@[simp] theorem isFrz_bl {b : Bool} : D.isFrz (.bl b) = true := rfl
@[simp] theorem isFrz_int {i : Int} : D.isFrz (.int i) = true := rfl
@[simp] theorem isFrz_str {s : List Nat} : D.isFrz (.str s) = true := rfl
@[simp] theorem isFrz_scr {s : List Int} : D.isFrz (.scr s) = true := rfl
@[simp] theorem okD_non : D.okD .non = true := rfl
@[simp] theorem okD_bl {b : Bool} : D.okD (.bl b) = true := rfl
@[simp] theorem okD_int {i : Int} : D.okD (.int i) = true := rfl
@[simp] theorem okD_str {s : List Nat} : D.okD (.str s) = true := rfl
@[simp] theorem okD_scr {s : List Int} : D.okD (.scr s) = true := rfl
@[simp] theorem frzL_nil : D.frzL [] = [] := rfl
@[simp] theorem frzL_cons {d : D} {ds : List D} : D.frzL (d :: ds) = d.frz :: D.frzL ds := rfl
@[simp] theorem noLckL_nil : D.noLckL [] = true := rfl
@[simp] theorem noLckL_cons {d : D} {ds : List D} : D.noLckL (d :: ds) = (d.noLck && D.noLckL ds) := rfl
@[simp] theorem isFrzL_nil : D.isFrzL [] = true := rfl
@[simp] theorem isFrzL_cons {d : D} {ds : List D} : D.isFrzL (d :: ds) = (d.isFrz && D.isFrzL ds) := rfl
@[simp] theorem noLck_lst {f : Fl} {l : List D} : D.noLck (.lst f l) = ((f != .lck) && D.noLckL l) := rfl
@[simp] theorem noLck_tup {l : List D} : D.noLck (.tup l) = D.noLckL l := rfl
@[simp] theorem isFrz_tup {l : List D} : D.isFrz (.tup l) = D.isFrzL l := rfl
@[simp] theorem isFrz_lst {f : Fl} {l : List D} : D.isFrz (.lst f l) = ((f == .frz) && D.isFrzL l) := rfl
@[simp] theorem frz_lst {f : Fl} {l : List D} : D.frz (.lst f l) = .lst .frz (D.frzL l) := by simp [D.frz]
@[simp] theorem frz_tup {l : List D} : D.frz (.tup l) = .tup (D.frzL l) := by simp [D.frz]
/-- lists of frozen data -/
theorem frzL_map {α : Type} {l : List α} {t : α → D} (h : ∀ x ∈ l, (t x).isFrz = true) : D.isFrzL (l.map t) = true := isFrzL_iff.mpr fun d hd => by
  obtain ⟨x, hx, rfl⟩ := List.mem_map.mp hd
  exact h x hx
theorem okD_frz {d : D} (h : d.isFrz = true) : d.okD = true := okD_nl (noLck_of d h)
end
section
variable {i j : Int} {a b : List Nat}
theorem int_eq : eqop (.int i) (.int j) = some (decide (i = j)) := by
  simp -implicitDefEqProofs only [eqop, eqable, D.plain, D.depth, D.noBl, D.beq, D.noInt]
  rfl
@[simp] theorem cmpop_eq_int : cmpop .eq (.int i) (.int j) = some (decide (i = j)) := by rw [cmpop]; exact int_eq
@[simp] theorem cmpop_ne_int : cmpop .ne (.int i) (.int j) = some (!decide (i = j)) := by rw [cmpop, int_eq]; rfl
@[simp] theorem cmpop_lt_int : cmpop .lt (.int i) (.int j) = some (decide (i < j)) := by rw [cmpop]
@[simp] theorem cmpop_le_int : cmpop .le (.int i) (.int j) = some (decide (i ≤ j)) := by rw [cmpop]
@[simp] theorem cmpop_gt_int : cmpop .gt (.int i) (.int j) = some (decide (j < i)) := by rw [cmpop]
@[simp] theorem cmpop_ge_int : cmpop .ge (.int i) (.int j) = some (decide (j ≤ i)) := by rw [cmpop]
@[simp] theorem cmpop_eq_str : cmpop .eq (.str a) (.str b) = some (a == b) := by rw [cmpop] <;> rfl
@[simp] theorem cmpop_ne_str : cmpop .ne (.str a) (.str b) = some (!(a == b)) := by rw [cmpop] <;> rfl
@[simp] theorem binop_add_int : binop .add (.int i) (.int j) = some (.int (i + j)) := rfl
@[simp] theorem binop_sub_int : binop .sub (.int i) (.int j) = some (.int (i - j)) := rfl
theorem binop_mod {i j : Int} (h : 0 < j) : binop .mod (.int i) (.int j) = some (.int (i % j)) := if_pos h
theorem binop_fdiv {i j : Int} (h : 0 < j) (h2 : j < 1073741824) : binop .fdiv (.int i) (.int j) = some (.int (i / j)) := if_pos ⟨h, h2⟩
theorem binop_app (h : a.length + b.length ≤ line) : binop .add (.str a) (.str b) = some (.str (a ++ b)) := if_pos h
theorem binop_mul (h : small i = true) : binop .mul (.int i) (.int j) = some (.int (i * j)) := by
  show (if (small i || small j) = true then some (D.int (i * j)) else none) = _
  rw [h, Bool.true_or]
  exact if_pos rfl
end
section
variable {G : Glob} {cf : Nat → List D → Option D} {env : Env}
@[simp] theorem ex_asgT {fr : Bool} {i : Nat} {e : E} : ex G cf (.asg fr i e) env = (ev G cf e env).bind fun d => if fr then (if d.noLck then (setE env i d.frz).map .nx else none) else (setE env i d).map .nx := by rw [ex]
@[simp] theorem ex_asgTup {is : List Nat} {e : E} : ex G cf (.asgT is e) env = (ev G cf e env).bind fun d => match d with
    | .tup l => (setEs is l env).map .nx
    | .lst f l => if D.isFrzL l then (setEs is l env).map .nx else none
    | _ => none := by rw [ex] <;> rfl
@[simp] theorem ex_aug {i : Nat} {o : BO} {e : E} : ex G cf (.aug i o e) env = (getE env i).bind fun x => (ev G cf e env).bind fun y => (augop o x y).bind fun z => (setE env i z).map .nx := by rw [ex]
@[simp] theorem ex_app {i : Nat} {e : E} : ex G cf (.app i e) env = (ev G cf e env).bind fun d => match getE env i with
    | some (.lst .own l) => if d.noLck ∧ l.length < line then some (.nx (env.set i (some (.lst .own (l ++ [d.frz]))))) else none
    | _ => none := by rw [ex] <;> rfl
@[simp] theorem ex_setI {i : Nat} {k e : E} : ex G cf (.setI i k e) env = (ev G cf e env).bind fun d => (ev G cf k env).bind fun j => match getE env i, j with
    | some (.lst .own l), .int j => (ixOf l.length j).bind fun j => if d.noLck ∧ D.isFrzL l then some (.nx (env.set i (some (.lst .own (l.set j d.frz))))) else none
    | _, _ => none := by rw [ex] <;> rfl
@[simp] theorem ex_ite {c : E} {a b : Ss} : ex G cf (.ite c a b) env = (asBl (ev G cf c env)).bind fun k => if k then exs G cf a env else exs G cf b env := by rw [ex]
theorem ex_for {lk : List Nat} {tg : Tg} {it : It} {b : Ss} : ex G cf (.for_ lk tg it b) env = (itemsS G cf lk it env).bind fun xs => (forL (fun x env1 => (bindT tg x env1).bind fun env2 => exs G cf b env2) xs (lockE lk 0 env)).map fun o => match o with
    | .nx e => .nx (unlockE lk 0 env e)
    | o => o := by rw [ex] <;> rfl
@[simp] theorem ex_ret {e : E} : ex G cf (.ret e) env = (ev G cf e env).bind fun d => if d.noLck then some (.rt d) else none := by rw [ex]
@[simp] theorem ex_retMv {i : Nat} : ex G cf (.retMv i) env = (getE env i).bind fun d => if d.noLck then some (.rt d) else none := by rw [ex]
@[simp] theorem ex_mv {i j : Nat} : ex G cf (.mv i j) env = (getE env j).bind fun d => if i ≠ j ∧ i < env.length ∧ d.noLck then some (.nx ((env.set j none).set i (some d))) else none := by rw [ex]
@[simp] theorem ex_retN : ex G cf .retN env = some (.rt .non) := by rw [ex]
@[simp] theorem ex_brk : ex G cf .brk env = some (.bk env) := by rw [ex]
@[simp] theorem ex_cnt : ex G cf .cnt env = some (.ct env) := by rw [ex]
@[simp] theorem ex_pass : ex G cf .pass env = some (.nx env) := by rw [ex]
@[simp] theorem ex_expr {e : E} : ex G cf (.expr e) env = (ev G cf e env).map fun _ => .nx env := by rw [ex]
@[simp] theorem ex_fz {i : Nat} : ex G cf (.fz i) env = (getE env i).bind fun d => if d.noLck then some (.nx (env.set i (some d.frz))) else none := by rw [ex]
@[simp] theorem exs_nil : exs G cf .nil env = some (.nx env) := by rw [exs]
/-- what follows a statement -/
def andThen (G : Glob) (cf : Nat → List D → Option D) (ss : Ss) : Out → Option Out
  | .nx e => exs G cf ss e
  | o => some o
@[simp] theorem andThen_nx {ss : Ss} {e : Env} : andThen G cf ss (.nx e) = exs G cf ss e := rfl
@[simp] theorem andThen_rt {ss : Ss} {d : D} : andThen G cf ss (.rt d) = some (.rt d) := rfl
@[simp] theorem andThen_bk {ss : Ss} {e : Env} : andThen G cf ss (.bk e) = some (.bk e) := rfl
@[simp] theorem andThen_ct {ss : Ss} {e : Env} : andThen G cf ss (.ct e) = some (.ct e) := rfl
@[simp] theorem exs_cons {s : S} {ss : Ss} : exs G cf (.cons s ss) env = (ex G cf s env).bind (andThen G cf ss) := by
  rw [exs]
  congr 1
@[simp] theorem getE_zero {o : Option D} {r : Env} : getE (o :: r) 0 = o := by unfold getE; cases o <;> rfl
@[simp] theorem getE_succ {o : Option D} {r : Env} {i : Nat} : getE (o :: r) (i + 1) = getE r i := by unfold getE; rw [List.getElem?_cons_succ]
theorem setE_ok {env : Env} {i : Nat} {d : D} (h : i < env.length) (n : d.noLck = true) : setE env i d = some (env.set i (some d)) := by unfold setE; rw [if_pos ⟨h, n⟩]
theorem setF_ok {env : Env} {i : Nat} {d : D} (h : i < env.length) (n : d.isFrz = true) : setF env i d = some (env.set i (some d)) := by unfold setF; rw [if_pos ⟨h, n⟩]
@[simp] theorem bindT_name {i : Nat} {d : D} : bindT (.name i) d env = setF env i d := rfl
@[simp] theorem bindT_tup {is : List Nat} {l : List D} : bindT (.tup is) (.tup l) env = setEs is l env := rfl
@[simp] theorem setEs_nil : setEs [] [] env = some env := rfl
@[simp] theorem setEs_cons {i : Nat} {is : List Nat} {d : D} {ds : List D} : setEs (i :: is) (d :: ds) env = (setF env i d).bind (setEs is ds) := rfl
@[simp] theorem forL_nil {f : D → Env → Option Out} : forL f [] env = some (.nx env) := rfl
theorem lockE_nil : ∀ (k : Nat) (env : Env), lockE [] k env = env
  | _, [] => rfl
  | k, o :: r => by simp [lockE, lockO, lockE_nil (k + 1) r]
theorem unlockE_nil : ∀ (k : Nat) (env env' : Env), env.length = env'.length → unlockE [] k env env' = env'
  | _, [], [], _ => rfl
  | _, [], _ :: _, h => by simp at h
  | _, _ :: _, [], h => by simp at h
  | k, o :: r, n :: s, h => by simp only [unlockE, unlO, List.contains_nil, Bool.false_eq_true, if_false, unlockE_nil (k + 1) r s (by simpa using h)]
/-- a loop that locks nothing, to its end -/
theorem for_nx {tg : Tg} {it : It} {b : Ss} {xs : List D} {e : Env} (hi : itemsS G cf [] it env = some xs) (h : forL (fun x env1 => (bindT tg x env1).bind fun env2 => exs G cf b env2) xs env = some (.nx e)) (hl : env.length = e.length) :
    ex G cf (.for_ [] tg it b) env = some (.nx e) := by
  rw [ex_for, hi, Option.bind_some, lockE_nil, h]
  simp only [Option.map_some, unlockE_nil 0 env e hl]
theorem for_rt {tg : Tg} {it : It} {b : Ss} {xs : List D} {d : D} (hi : itemsS G cf [] it env = some xs) (h : forL (fun x env1 => (bindT tg x env1).bind fun env2 => exs G cf b env2) xs env = some (.rt d)) :
    ex G cf (.for_ [] tg it b) env = some (.rt d) := by
  rw [ex_for, hi, Option.bind_some, lockE_nil, h]
  rfl
/-- a loop's turns: E b a the names at a turn, b what nobody asks for, a the state -/
theorem forL_fold {f : D → Env → Option Out} {α β γ : Type} (t : γ → D) (g : α → γ → α) (E : β → α → Env) : ∀ (l : List γ), (∀ b a y, y ∈ l → ∃ b', f (t y) (E b a) = some (.nx (E b' (g a y))) ∨ f (t y) (E b a) = some (.ct (E b' (g a y)))) → ∀ b a, ∃ b', forL f (l.map t) (E b a) = some (.nx (E b' (l.foldl g a)))
  | [], _, b, a => ⟨b, rfl⟩
  | y :: l, h, b, a => by
    obtain ⟨b1, h1⟩ := h b a y List.mem_cons_self
    obtain ⟨b2, h2⟩ := forL_fold t g E l (fun b a y hy => h b a y (List.mem_cons_of_mem _ hy)) b1 (g a y)
    refine ⟨b2, ?_⟩
    rcases h1 with h1 | h1 <;> simp only [List.map_cons, forL, h1, Option.bind_some, List.foldl_cons] <;> exact h2
/-- a loop that returns at the first item with p -/
theorem forL_any {f : D → Env → Option Out} {β γ : Type} (t : γ → D) (p : γ → Bool) (r : D) (E : β → Env) : ∀ (l : List γ), (∀ b y, y ∈ l → (p y = true → f (t y) (E b) = some (.rt r)) ∧ (p y = false → ∃ b', f (t y) (E b) = some (.nx (E b')))) →
    ∀ b, (l.any p = true → forL f (l.map t) (E b) = some (.rt r)) ∧ (l.any p = false → ∃ b', forL f (l.map t) (E b) = some (.nx (E b')))
  | [], _, b => ⟨fun h => by simp at h, fun _ => ⟨b, rfl⟩⟩
  | y :: l, h, b => by
    obtain ⟨h1, h2⟩ := h b y List.mem_cons_self
    have ih := forL_any t p r E l (fun b y hy => h b y (List.mem_cons_of_mem _ hy))
    cases q : p y with
    | true =>
      refine ⟨fun _ => ?_, fun h => by simp [q] at h⟩
      simp only [List.map_cons, forL, h1 q, Option.bind_some]
    | false =>
      obtain ⟨b', hb⟩ := h2 q
      refine ⟨fun z => ?_, fun z => ?_⟩
      · simp only [List.map_cons, forL, hb, Option.bind_some]
        exact (ih b').1 (by simpa [q] using z)
      · obtain ⟨b2, z2⟩ := (ih b').2 (by simpa [q] using z)
        exact ⟨b2, by simp only [List.map_cons, forL, hb, Option.bind_some]; exact z2⟩
theorem lcL_map {γ : Type} (t : γ → D) (F : D → Option (Option D)) (g : γ → Option D) : ∀ (l : List γ), (∀ y ∈ l, F (t y) = some (g y)) → lcL F (l.map t) = some (l.filterMap g)
  | [], _ => rfl
  | y :: l, h => by
    have h1 := h y List.mem_cons_self
    have h2 := lcL_map t F g l fun y hy => h y (List.mem_cons_of_mem _ hy)
    simp only [List.map_cons, lcL, h1, Option.bind_some, List.filterMap_cons]
    cases g y with
    | none => exact h2
    | some d => simp [h2]
theorem zipD_eq {s t : List Nat} : zipD (s.map fun c => .str [c]) (t.map fun c => .str [c]) = (s.zip t).map fun p => .tup [.str [p.1], .str [p.2]] := by
  induction s generalizing t with
  | nil => simp [zipD]
  | cons a s ih =>
    cases t with
    | nil => simp [zipD]
    | cons b t => simp [zipD, ih]
theorem rng_eq (n : Nat) : rng 0 n = (List.range n).map fun (k : Nat) => D.int k := by
  unfold rng
  simp
end
/-- a turn: on, out of the loop, out of the def -/
inductive Stp (α : Type) where
  | go (a : α) | stop (a : α) | ret (d : D)
def runL {α γ : Type} (g : α → γ → Stp α) : List γ → α → Stp α
  | [], a => .go a
  | y :: l, a => match g a y with
    | .go a' => runL g l a'
    | .stop a' => .stop a'
    | .ret d => .ret d
section
variable {G : Glob} {cf : Nat → List D → Option D}
/-- one turn of a loop -/
def lp (G : Glob) (cf : Nat → List D → Option D) (tg : Tg) (b : Ss) : D → Env → Option Out := fun x env1 => (bindT tg x env1).bind fun env2 => exs G cf b env2
def stpO {α β : Type} (E : β → α → Env) (r : Stp α) (o : Option Out) : Prop := match r with
  | .go a => (∃ b, o = some (.nx (E b a))) ∨ ∃ b, o = some (.ct (E b a))
  | .stop a => ∃ b, o = some (.bk (E b a))
  | .ret d => o = some (.rt d)
def endO {α β : Type} (E : β → α → Env) (r : Stp α) (o : Option Out) : Prop := match r with
  | .go a => ∃ b, o = some (.nx (E b a))
  | .stop a => ∃ b, o = some (.nx (E b a))
  | .ret d => o = some (.rt d)
/-- Inv: what stands ahead of turn i -/
theorem forL_run {f : D → Env → Option Out} {α β γ : Type} (t : γ → D) (g : α → γ → Stp α) (E : β → α → Env) (Inv : Nat → α → Prop) : ∀ (l : List γ) (k : Nat), (∀ i b a y, l[i]? = some y → Inv (k + i) a → stpO E (g a y) (f (t y) (E b a)) ∧ ∀ a', g a y = .go a' → Inv (k + i + 1) a') →
    ∀ b a, Inv k a → endO E (runL g l a) (forL f (l.map t) (E b a)) ∧ ∀ a', runL g l a = .go a' → Inv (k + l.length) a'
  | [], k, _, b, a, hI => ⟨⟨b, rfl⟩, fun a' e => by cases e; exact hI⟩
  | y :: l, k, h, b, a, hI => by
    obtain ⟨h1, h2⟩ := h 0 b a y rfl hI
    have ih := forL_run t g E Inv l (k + 1) fun i b a y hy hI => by
      have z := h (i + 1) b a y (by simpa using hy) (by rw [show k + (i + 1) = k + 1 + i by omega]; exact hI)
      rw [show k + (i + 1) = k + 1 + i by omega] at z
      exact z
    unfold runL
    cases q : g a y with
    | go a' =>
      rw [q] at h1
      have hI' := h2 a' q
      have fin := fun b' => ih b' a' hI'
      rw [show k + 1 + l.length = k + (y :: l).length by simp; omega] at fin
      rcases h1 with ⟨b', e⟩ | ⟨b', e⟩ <;> simp only [List.map_cons, forL, e, Option.bind_some] <;> exact fin b'
    | stop a' =>
      rw [q] at h1
      obtain ⟨b', e⟩ := h1
      simp only [List.map_cons, forL, e, Option.bind_some]
      exact ⟨⟨b', rfl⟩, fun a' e => by cases e⟩
    | ret d =>
      rw [q] at h1
      have e : f (t y) (E b a) = some (.rt d) := h1
      simp only [List.map_cons, forL, e, Option.bind_some]
      exact ⟨rfl, fun a' e => by cases e⟩
/-- a loop that locks nothing, by its turns -/
theorem for_run {α β γ : Type} {tg : Tg} {it : It} {body : Ss} (t : γ → D) (g : α → γ → Stp α) (E : β → α → Env) (Inv : Nat → α → Prop) (l : List γ) (b : β) (a : α) (hi : itemsS G cf [] it (E b a) = some (l.map t)) (hl : ∀ b' a', (E b' a').length = (E b a).length) (h0 : Inv 0 a)
    (h : ∀ i b a y, l[i]? = some y → Inv i a → stpO E (g a y) (lp G cf tg body (t y) (E b a)) ∧ ∀ a', g a y = .go a' → Inv (i + 1) a') : endO E (runL g l a) (ex G cf (.for_ [] tg it body) (E b a)) ∧ ∀ a', runL g l a = .go a' → Inv l.length a' := by
  obtain ⟨z, zi⟩ := forL_run (f := lp G cf tg body) t g E Inv l 0 (fun i b a y hy hI => by rw [Nat.zero_add] at hI ⊢; exact h i b a y hy hI) b a h0
  rw [Nat.zero_add] at zi
  refine ⟨?_, zi⟩
  cases q : runL g l a with
  | go a' =>
    rw [q] at z
    obtain ⟨b', e⟩ := z
    exact ⟨b', for_nx hi e (hl b' a').symm⟩
  | stop a' =>
    rw [q] at z
    obtain ⟨b', e⟩ := z
    exact ⟨b', for_nx hi e (hl b' a').symm⟩
  | ret d =>
    rw [q] at z
    exact for_rt hi z
theorem runL_go {α γ : Type} (g : α → γ → α) : ∀ (l : List γ) a, runL (fun a y => Stp.go (g a y)) l a = .go (l.foldl g a)
  | [], a => rfl
  | y :: l, a => runL_go g l (g a y)
/-- a loop without a return: the state is folded -/
theorem for_fold {α β γ : Type} {tg : Tg} {it : It} {body : Ss} (t : γ → D) (g : α → γ → α) (E : β → α → Env) (Inv : Nat → α → Prop) (l : List γ) (b : β) (a : α) (hi : itemsS G cf [] it (E b a) = some (l.map t)) (hl : ∀ b' a', (E b' a').length = (E b a).length) (h0 : Inv 0 a)
    (h : ∀ i b a y, l[i]? = some y → Inv i a → (∃ b', lp G cf tg body (t y) (E b a) = some (.nx (E b' (g a y)))) ∧ Inv (i + 1) (g a y)) : (∃ b', ex G cf (.for_ [] tg it body) (E b a) = some (.nx (E b' (l.foldl g a)))) ∧ Inv l.length (l.foldl g a) := by
  obtain ⟨z, zi⟩ := for_run (tg := tg) (body := body) t (fun a y => .go (g a y)) E Inv l b a hi hl h0 fun i b a y hy hI => ⟨.inl (h i b a y hy hI).1, fun a' e => by cases e; exact (h i b a y hy hI).2⟩
  rw [runL_go] at z
  exact ⟨z, zi _ (runL_go g l a)⟩
/-- a loop that returns at the first item with p -/
theorem for_any {β γ : Type} {tg : Tg} {it : It} {body : Ss} (t : γ → D) (p : γ → Bool) (r : D) (E : β → Env) (l : List γ) (b : β) (hi : itemsS G cf [] it (E b) = some (l.map t)) (hl : ∀ b', (E b').length = (E b).length)
    (h : ∀ b y, y ∈ l → (p y = true → lp G cf tg body (t y) (E b) = some (.rt r)) ∧ (p y = false → ∃ b', lp G cf tg body (t y) (E b) = some (.nx (E b')))) :
    (l.any p = true → ex G cf (.for_ [] tg it body) (E b) = some (.rt r)) ∧ (l.any p = false → ∃ b', ex G cf (.for_ [] tg it body) (E b) = some (.nx (E b'))) := by
  obtain ⟨z1, z2⟩ := forL_any (f := lp G cf tg body) t p r E l h b
  refine ⟨fun q => for_rt hi (z1 q), fun q => ?_⟩
  obtain ⟨b', e⟩ := z2 q
  exact ⟨b', for_nx hi e (hl b').symm⟩
/-- a comprehension -/
theorem ev_lcm {γ : Type} {elt : E} {tg : Tg} {it : It} {cond : E} {env : Env} (t : γ → D) (g : γ → Option D) (l : List γ) (hi : items G cf it env = some (l.map t)) (hl : l.length < line) (h : ∀ y ∈ l, lcF G cf elt tg cond env (t y) = some (g y)) :
    ev G cf (.lc elt tg it cond) env = some (.lst .own (l.filterMap g)) := by
  rw [ev_lc, hi, Option.bind_some, lcL_map t _ g l h, Option.bind_some, List.length_map, if_pos hl]
end
section
variable {G : Glob} {cf : Nat → List D → Option D} {env : Env} {lk : List Nat}
theorem fits_nat {w : Nat} (hw : w ≤ 1000000) : fits62 (w : Int) = true := by
  unfold fits62
  rw [Bool.and_eq_true, decide_eq_true_eq, decide_eq_true_eq]
  omega
theorem items_rng1_ok {a : E} {w : Nat} (h : ev G cf a env = some (.int w)) (hw : w ≤ 1000000) : items G cf (.rng1 a) env = some ((List.range w).map fun k : Nat => D.int k) := by
  rw [items_rng1, h, Option.bind_some, ← rng_eq]
  exact if_pos (fits_nat hw)
theorem itemsS_rng1 {a : E} : itemsS G cf lk (.rng1 a) env = items G cf (.rng1 a) env := by rw [itemsS]; intro e h; cases h
theorem itemsS_rng2 {a b : E} : itemsS G cf lk (.rng2 a b) env = items G cf (.rng2 a b) env := by rw [itemsS]; intro e h; cases h
theorem itemsS_zip {a b : E} : itemsS G cf lk (.zip a b) env = items G cf (.zip a b) env := by rw [itemsS]; intro e h; cases h
theorem itemsS_seq {a : E} : itemsS G cf lk (.seq a) env = items G cf (.seq a) (selE lk 0 env) := by rw [itemsS]
theorem for_rng {a : E} {w : Nat} (h : ev G cf a env = some (.int w)) (hw : w ≤ 1000000) : itemsS G cf lk (.rng1 a) env = some ((List.range w).map fun k : Nat => D.int k) := by rw [itemsS_rng1, items_rng1_ok h hw]
end
section
variable {G : Glob} {cf : Nat → List D → Option D} {env env' : Env} {s : S} {ss : Ss} {d : D}
theorem step_nx (h : ex G cf s env = some (.nx env')) : exs G cf (.cons s ss) env = exs G cf ss env' := by rw [exs_cons, h]; rfl
theorem step_rt (h : ex G cf s env = some (.rt d)) : exs G cf (.cons s ss) env = some (.rt d) := by rw [exs_cons, h]; rfl
theorem asg_frz {i : Nat} {e : E} (h : ev G cf e env = some d) (hi : i < env.length) (n : d.noLck = true) : ex G cf (.asg true i e) env = some (.nx (env.set i (some d.frz))) := by
  rw [ex_asgT, h, Option.bind_some, if_pos rfl, if_pos n, setE_ok hi (noLck_frz d)]
  rfl
theorem asg_own {i : Nat} {e : E} (h : ev G cf e env = some d) (hi : i < env.length) (n : d.noLck = true) : ex G cf (.asg false i e) env = some (.nx (env.set i (some d))) := by
  rw [ex_asgT, h, Option.bind_some, if_neg Bool.false_ne_true, setE_ok hi n]
  rfl
theorem ite_tt {c : E} {a b : Ss} (h : ev G cf c env = some (.bl true)) : ex G cf (.ite c a b) env = exs G cf a env := by rw [ex_ite, h, asBl_bl, Option.bind_some, if_pos rfl]
theorem ite_ff {c : E} {a b : Ss} (h : ev G cf c env = some (.bl false)) : ex G cf (.ite c a b) env = exs G cf b env := by rw [ex_ite, h, asBl_bl, Option.bind_some, if_neg Bool.false_ne_true]
theorem ite_skip {c : E} {a : Ss} (h : ev G cf c env = some (.bl false)) : ex G cf (.ite c a .nil) env = some (.nx env) := by rw [ite_ff h, exs_nil]
theorem ret_eq {e : E} (h : ev G cf e env = some d) (n : d.noLck = true) : ex G cf (.ret e) env = some (.rt d) := by rw [ex_ret, h, Option.bind_some, if_pos n]
end
mutual
theorem noOwn_of : ∀ d : D, d.isFrz = true → d.noOwn = true
  | .non, _ => rfl
  | .bl _, _ => rfl
  | .int _, _ => rfl
  | .str _, _ => rfl
  | .scr _, _ => rfl
  | .tup l, h => by simp only [D.isFrz] at h; simp only [D.noOwn]; exact noOwnL_of l h
  | .lst f l, h => by
    simp only [D.isFrz, Bool.and_eq_true, beq_iff_eq] at h
    simp only [D.noOwn, Bool.and_eq_true]; exact ⟨by rw [h.1]; rfl, noOwnL_of l h.2⟩
theorem noOwnL_of : ∀ ds : List D, D.isFrzL ds = true → D.noOwnL ds = true
  | [], _ => rfl
  | d :: ds, h => by
    simp only [D.isFrzL, Bool.and_eq_true] at h
    simp only [D.noOwnL, Bool.and_eq_true]; exact ⟨noOwn_of d h.1, noOwnL_of ds h.2⟩
end
section
variable {G : Glob} {cf : Nat → List D → Option D} {env : Env} {lk : List Nat}
theorem getE_get {i : Nat} {d : D} (h : getE env i = some d) : env[i]? = some (some d) := by
  unfold getE at h
  split at h
  · rename_i e; cases h; exact e
  · cases h
theorem getE_of {i : Nat} {d : D} (h : env[i]? = some (some d)) : getE env i = some d := by
  unfold getE
  rw [h]
theorem getE_sel {i : Nat} {d : D} (h : getE env i = some d) (no : d.noOwn = true) : getE (selE lk 0 env) i = some d := by
  refine getE_of ?_
  rw [selE_get, getE_get h, Option.map_some, Nat.zero_add]
  simp only [selO, no, Bool.or_true, if_true]
theorem frz_lock {l : List D} (hf : D.isFrzL l = true) : D.lock (.lst .frz l) = .lst .frz l := lock_of _ (by simp only [D.isFrz, Bool.and_eq_true]; exact ⟨rfl, hf⟩)
theorem ev_frz {i : Nat} {d : D} (h : getE env i = some d) (hf : d.isFrz = true) : ev G cf (.var i) env = some d := by rw [ev_var, h, Option.map_some, lock_of d hf]
theorem items_var {i : Nat} {l : List D} (h : getE env i = some (.lst .frz l)) (hf : D.isFrzL l = true) : items G cf (.seq (.var i)) env = some l := by
  rw [items_seq, ev_var, h, Option.map_some, frz_lock hf, Option.bind_some]
  rfl
theorem for_seq {i : Nat} {l : List D} (h : getE env i = some (.lst .frz l)) (hf : D.isFrzL l = true) : itemsS G cf lk (.seq (.var i)) env = some l := by
  rw [itemsS_seq]
  refine items_var (getE_sel h (noOwn_of _ ?_)) hf
  simp only [D.isFrz, Bool.and_eq_true]
  exact ⟨rfl, hf⟩
theorem strs_frz (l : List (List Nat)) : D.isFrzL (l.map .str) = true := frzL_map fun _ _ => rfl
theorem ints_frz (l : List Int) : D.isFrzL (l.map .int) = true := frzL_map fun _ _ => rfl
end
/-- a call by its def -/
theorem call_eq {G : Glob} {P : List Df} {n i : Nat} {ds : List D} (d : Df) (hd : P[i]? = some d) (hl : ds.length = d.pars) (hs : d.pars ≤ d.slots) (ok : ds.all D.okD = true) :
    call G P (n + 1) i ds = match exs G (call G P n) d.body (ds.map some ++ List.replicate (d.slots - d.pars) none) with
          | some (.nx _) => some .non
          | some (.rt v) => some (if d.fr then v.frz else v)
          | _ => none := by
  simp only [call, hd]
  rw [if_pos ⟨hl, hs, ok⟩] <;> rfl
theorem call_rt {G : Glob} {P : List Df} {n i : Nat} {ds : List D} {v : D} (d : Df) (hd : P[i]? = some d) (hl : ds.length = d.pars) (hs : d.pars ≤ d.slots) (ok : ds.all D.okD = true)
    (h : exs G (call G P n) d.body (ds.map some ++ List.replicate (d.slots - d.pars) none) = some (.rt v)) : call G P (n + 1) i ds = some (if d.fr then v.frz else v) := by
  rw [call_eq d hd hl hs ok, h]
end PV

set_option Elab.async false
set_option linter.all false
set_option maxRecDepth 100000
set_option maxHeartbeats 4000000
/-! PV, part R: typed mirrors of expressions and statements. -/
namespace PV
/-- how typed values stand as data -/
structure Cd (α : Type) where
  e : α → D
  fz : ∀ x, (e x).isFrz = true
section
variable {α β γ δ ε ζ : Type}
theorem Cd.lock (c : Cd α) (x : α) : (c.e x).lock = c.e x := lock_of _ (c.fz x)
theorem Cd.frz (c : Cd α) (x : α) : (c.e x).frz = c.e x := frz_of _ (c.fz x)
theorem Cd.nl (c : Cd α) (x : α) : (c.e x).noLck = true := noLck_of _ (c.fz x)
theorem Cd.mz (c : Cd α) (l : List α) : D.isFrzL (l.map c.e) = true := frzL_map fun x _ => c.fz x
theorem Cd.mf (c : Cd α) (l : List α) : D.frzL (l.map c.e) = l.map c.e := frzL_of _ (c.mz l)
theorem Cd.mn (c : Cd α) (l : List α) : D.noLckL (l.map c.e) = true := noLckL_of _ (c.mz l)
theorem Cd.ml (c : Cd α) (l : List α) : D.lockL (l.map c.e) = l.map c.e := lockL_of _ (c.mz l)
def cInt : Cd Int := ⟨.int, fun _ => rfl⟩
def cBool : Cd Bool := ⟨.bl, fun _ => rfl⟩
def cStr : Cd (List Nat) := ⟨.str, fun _ => rfl⟩
def cNon : Cd Unit := ⟨fun _ => .non, fun _ => rfl⟩
def cScr : Cd (List Int) := ⟨.scr, fun _ => rfl⟩
def cL (c : Cd α) : Cd (List α) := ⟨fun l => .lst .frz (l.map c.e), fun l => by rw [isFrz_lst, c.mz]; rfl⟩
def cT (c : Cd α) : Cd (List α) := ⟨fun l => .tup (l.map c.e), fun l => by rw [isFrz_tup, c.mz]⟩
def cO (c : Cd α) : Cd (Option α) := ⟨fun | none => .non | some x => c.e x, fun x => by cases x; rfl; exact c.fz _⟩
def cP (a : Cd α) (b : Cd β) : Cd (α × β) := ⟨fun p => .tup [a.e p.1, b.e p.2], fun p => by simp [a.fz, b.fz]⟩
def cP3 (a : Cd α) (b : Cd β) (c : Cd γ) : Cd (α × β × γ) := ⟨fun p => .tup [a.e p.1, b.e p.2.1, c.e p.2.2], fun p => by simp [a.fz, b.fz, c.fz]⟩
def cP4 (a : Cd α) (b : Cd β) (c : Cd γ) (d : Cd δ) : Cd (α × β × γ × δ) := ⟨fun p => .tup [a.e p.1, b.e p.2.1, c.e p.2.2.1, d.e p.2.2.2], fun p => by simp [a.fz, b.fz, c.fz, d.fz]⟩
def cP5 (a : Cd α) (b : Cd β) (c : Cd γ) (d : Cd δ) (e : Cd ε) : Cd (α × β × γ × δ × ε) := ⟨fun p => .tup [a.e p.1, b.e p.2.1, c.e p.2.2.1, d.e p.2.2.2.1, e.e p.2.2.2.2], fun p => by simp [a.fz, b.fz, c.fz, d.fz, e.fz]⟩
def cP6 (a : Cd α) (b : Cd β) (c : Cd γ) (d : Cd δ) (e : Cd ε) (f : Cd ζ) : Cd (α × β × γ × δ × ε × ζ) := ⟨fun p => .tup [a.e p.1, b.e p.2.1, c.e p.2.2.1, d.e p.2.2.2.1, e.e p.2.2.2.2.1, f.e p.2.2.2.2.2], fun p => by simp [a.fz, b.fz, c.fz, d.fz, e.fz, f.fz]⟩
def cQ (a : Cd α) (b : Cd β) : Cd (α × β) := ⟨fun p => .lst .frz [a.e p.1, b.e p.2], fun p => by simp [a.fz, b.fz]⟩
def cQ3 (a : Cd α) (b : Cd β) (c : Cd γ) : Cd (α × β × γ) := ⟨fun p => .lst .frz [a.e p.1, b.e p.2.1, c.e p.2.2], fun p => by simp [a.fz, b.fz, c.fz]⟩
def cQ4 (a : Cd α) (b : Cd β) (c : Cd γ) (d : Cd δ) : Cd (α × β × γ × δ) := ⟨fun p => .lst .frz [a.e p.1, b.e p.2.1, c.e p.2.2.1, d.e p.2.2.2], fun p => by simp [a.fz, b.fz, c.fz, d.fz]⟩
def cQ5 (a : Cd α) (b : Cd β) (c : Cd γ) (d : Cd δ) (e : Cd ε) : Cd (α × β × γ × δ × ε) := ⟨fun p => .lst .frz [a.e p.1, b.e p.2.1, c.e p.2.2.1, d.e p.2.2.2.1, e.e p.2.2.2.2], fun p => by simp [a.fz, b.fz, c.fz, d.fz, e.fz]⟩
def cQ6 (a : Cd α) (b : Cd β) (c : Cd γ) (d : Cd δ) (e : Cd ε) (f : Cd ζ) : Cd (α × β × γ × δ × ε × ζ) := ⟨fun p => .lst .frz [a.e p.1, b.e p.2.1, c.e p.2.2.1, d.e p.2.2.2.1, e.e p.2.2.2.2.1, f.e p.2.2.2.2.2], fun p => by simp [a.fz, b.fz, c.fz, d.fz, e.fz, f.fz]⟩
/-- data that == compares as the typed values: without bools -/
structure EqI [DecidableEq α] (c : Cd α) (k : Nat) : Prop where
  pl : ∀ x, (c.e x).plain = true
  dp : ∀ x, (c.e x).depth ≤ k
  nb : ∀ x, (c.e x).noBl = true
  bq : ∀ x y, (c.e x).beq (c.e y) = decide (x = y)
theorem plainL_map {c : Cd α} (h : ∀ x, (c.e x).plain = true) : ∀ l : List α, D.plainL (l.map c.e) = true
  | [] => rfl
  | a :: l => by simp only [List.map_cons, D.plainL, h, plainL_map h l, Bool.and_self]
theorem noBlL_map {c : Cd α} (h : ∀ x, (c.e x).noBl = true) : ∀ l : List α, D.noBlL (l.map c.e) = true
  | [] => rfl
  | a :: l => by simp only [List.map_cons, D.noBlL, h, noBlL_map h l, Bool.and_self]
theorem depthL_map {c : Cd α} {k : Nat} (h : ∀ x, (c.e x).depth ≤ k) : ∀ l : List α, D.depthL (l.map c.e) ≤ k
  | [] => by simp [D.depthL]
  | a :: l => by
    have := h a
    have := depthL_map h l
    simp only [List.map_cons, D.depthL]
    omega
theorem beqL_map [DecidableEq α] {c : Cd α} (h : ∀ x y, (c.e x).beq (c.e y) = decide (x = y)) : ∀ l m : List α, D.beqL (l.map c.e) (m.map c.e) = decide (l = m)
  | [], [] => by simp [D.beqL]
  | [], _ :: _ => by simp [D.beqL]
  | _ :: _, [] => by simp [D.beqL]
  | a :: l, b :: m => by simp only [List.map_cons, D.beqL, h, beqL_map h l m, List.cons.injEq, Bool.decide_and]
theorem eqInt : EqI cInt 0 := ⟨fun _ => rfl, fun _ => by simp [cInt, D.depth], fun _ => rfl, fun x y => by show D.beq (.int x) (.int y) = _; simp only [D.beq]; rw [Bool.eq_iff_iff]; simp⟩
theorem eqStr : EqI cStr 0 := ⟨fun _ => rfl, fun _ => by simp [cStr, D.depth], fun _ => rfl, fun x y => by show D.beq (.str x) (.str y) = _; simp only [D.beq]; rw [Bool.eq_iff_iff]; simp⟩
theorem eqL_ [DecidableEq α] {c : Cd α} {k : Nat} (h : EqI c k) : EqI (cL c) (k + 1) := ⟨fun x => plainL_map h.pl x, fun x => by show D.depthL _ + 1 ≤ _; have := depthL_map h.dp x; omega, fun x => noBlL_map h.nb x, fun x y => by show D.beq (.lst _ _) (.lst _ _) = _; simp only [D.beq]; exact beqL_map h.bq x y⟩
theorem eqT_ [DecidableEq α] {c : Cd α} {k : Nat} (h : EqI c k) : EqI (cT c) (k + 1) := ⟨fun x => plainL_map h.pl x, fun x => by show D.depthL _ + 1 ≤ _; have := depthL_map h.dp x; omega, fun x => noBlL_map h.nb x, fun x y => by show D.beq (.tup _) (.tup _) = _; simp only [D.beq]; exact beqL_map h.bq x y⟩
theorem eqP_ [DecidableEq α] [DecidableEq β] {a : Cd α} {b : Cd β} {k m : Nat} (h : EqI a k) (h' : EqI b m) : EqI (cP a b) (max k m + 1) := ⟨fun x => by show D.plainL [_, _] = true; simp only [D.plainL, h.pl, h'.pl, Bool.and_self], fun x => by
    show D.depthL [_, _] + 1 ≤ _
    have := h.dp x.1
    have := h'.dp x.2
    simp only [D.depthL]
    omega, fun x => by show D.noBlL [_, _] = true; simp only [D.noBlL, h.nb, h'.nb, Bool.and_self], fun x y => by
    show D.beq (.tup [_, _]) (.tup [_, _]) = _
    simp only [D.beq, D.beqL, h.bq, h'.bq, Bool.and_true, Prod.ext_iff, Bool.decide_and]⟩
theorem eqP3_ [DecidableEq α] [DecidableEq β] [DecidableEq γ] {a : Cd α} {b : Cd β} {c : Cd γ} {k m n : Nat} (h : EqI a k) (h' : EqI b m) (h2 : EqI c n) : EqI (cP3 a b c) (max k (max m n) + 1) := ⟨fun x => by show D.plainL [_, _, _] = true; simp only [D.plainL, h.pl, h'.pl, h2.pl, Bool.and_self], fun x => by
    show D.depthL [_, _, _] + 1 ≤ _
    have := h.dp x.1
    have := h'.dp x.2.1
    have := h2.dp x.2.2
    simp only [D.depthL]
    omega, fun x => by show D.noBlL [_, _, _] = true; simp only [D.noBlL, h.nb, h'.nb, h2.nb, Bool.and_self], fun x y => by
    show D.beq (.tup [_, _, _]) (.tup [_, _, _]) = _
    simp only [D.beq, D.beqL, h.bq, h'.bq, h2.bq, Bool.and_true, Prod.ext_iff, Bool.decide_and]⟩
theorem eqO_ [DecidableEq α] {c : Cd α} {k : Nat} (h : EqI c k) (hn : ∀ x, (c.e x).isNon = false) : EqI (cO c) k := ⟨fun x => by cases x; rfl; exact h.pl _, fun x => by cases x; simp [cO, D.depth]; exact h.dp _, fun x => by cases x; rfl; exact h.nb _, fun x y => by
    cases x with
    | none =>
      cases y with
      | none => rfl
      | some y =>
        show D.beq .non (c.e y) = decide (none = some y)
        have := hn y
        cases q : c.e y <;> rw [q] at this <;> simp [D.beq, D.isNon] at this ⊢
    | some x =>
      cases y with
      | none =>
        show D.beq (c.e x) .non = decide (some x = none)
        have := hn x
        cases q : c.e x <;> rw [q] at this <;> simp [D.beq, D.isNon] at this ⊢
      | some y =>
        show D.beq (c.e x) (c.e y) = _
        rw [h.bq]
        simp⟩
theorem eqop_I [DecidableEq α] {c : Cd α} {k : Nat} (h : EqI c k) (hk : k ≤ 60 := by decide) (x y : α) : eqop (c.e x) (c.e y) = some (decide (x = y)) := by
  have q : eqable (c.e x) (c.e y) = true := by
    unfold eqable
    have := h.dp x
    have := h.dp y
    simp only [h.pl, h.nb, Bool.and_self, Bool.true_and, Bool.true_or, Bool.and_true, Bool.and_eq_true, decide_eq_true_eq]
    omega
  have b := h.bq x y
  unfold eqop
  split
  · rename_i s t e1 e2
    rw [e1, e2] at b
    simp only [D.beq] at b
    rw [← b]
  · rw [if_pos q, b]
end
/-! ### the judgements -/
section
variable {G : Glob} {cf : Nat → List D → Option D}
abbrev P (G : Glob) (cf : Nat → List D → Option D) (e : E) (env : Env) (d : D) : Prop := ev G cf e env = some d
def Ev (G : Glob) (cf : Nat → List D → Option D) {α : Type} (e : E) (env : Env) (A : Option α) (c : α → D) : Prop := ∀ x, A = some x → ev G cf e env = some (c x)
def Args (G : Glob) (cf : Nat → List D → Option D) (es : Es) (env : Env) (ds : List D) : Prop := ∃ ds0, evs G cf es env = some ds0 ∧ ds0.all D.okD = true ∧ ds0.map D.frzA = ds
def Arg (G : Glob) (cf : Nat → List D → Option D) (e : E) (env : Env) (d : D) : Prop := ∃ d0, ev G cf e env = some d0 ∧ d0.okD = true ∧ d0.frzA = d
/-- an item of a display -/
def Itm (G : Glob) (cf : Nat → List D → Option D) (e : E) (env : Env) (d : D) : Prop := ∃ d0, ev G cf e env = some d0 ∧ d0.noLck = true ∧ d0.frz = d
def Itms (G : Glob) (cf : Nat → List D → Option D) (es : Es) (env : Env) (ds : List D) : Prop := ∃ ds0, evs G cf es env = some ds0 ∧ D.noLckL ds0 = true ∧ D.frzL ds0 = ds
variable {env : Env} {α β γ : Type} {c : Cd α} {d d' : D} {e e1 e2 : E} {es : Es} {f : Nat}
theorem Ev.pure {x : α} {c : α → D} (h : P G cf e env (c x)) : Ev G cf e env (some x) c := fun y hy => by cases hy; exact h
theorem Ev.hoist {A : Option α} {K : α → Option β} {c1 : α → D} {c2 : β → D} {e0 : E} (h : Ev G cf e0 env A c1) (k : ∀ x, P G cf e0 env (c1 x) → Ev G cf e env (K x) c2) : Ev G cf e env (A.bind K) c2 := fun y hy => by
  obtain ⟨x, hx, hy⟩ := Option.bind_eq_some_iff.mp hy
  exact k x (h x hx) y hy
theorem args_nil : Args G cf .nil env [] := ⟨[], by simp, rfl, rfl⟩
theorem args_cons {ds : List D} (h : Arg G cf e env d) (h' : Args G cf es env ds) : Args G cf (.cons e es) env (d :: ds) := by
  obtain ⟨d0, h1, h2, h3⟩ := h
  obtain ⟨ds0, g1, g2, g3⟩ := h'
  exact ⟨d0 :: ds0, by rw [evs_cons, h1, g1]; rfl, by rw [List.all_cons, h2, g2]; rfl, by rw [List.map_cons, h3, g3]⟩
theorem frzA_nl {d : D} (h : d.noLck = true) : d.frzA = d.frz := by unfold D.frzA; rw [if_pos h]
theorem arg_c {x : α} (h : P G cf e env (c.e x)) : Arg G cf e env (c.e x) := ⟨_, h, okD_nl (c.nl x), by rw [frzA_nl (c.nl x), c.frz]⟩
theorem nl_own {l : List α} : (D.lst .own (l.map c.e)).noLck = true := by rw [noLck_lst, c.mn]; rfl
theorem frz_own {f : Fl} {l : List α} : (D.lst f (l.map c.e)).frz = .lst .frz (l.map c.e) := by rw [frz_lst, c.mf]
theorem arg_own {l : List α} (h : P G cf e env (.lst .own (l.map c.e))) : Arg G cf e env (.lst .frz (l.map c.e)) := ⟨_, h, okD_nl nl_own, by rw [frzA_nl nl_own, frz_own]⟩
theorem noOwnL_map (c : Cd α) (l : List α) : D.noOwnL (l.map c.e) = true := noOwnL_of _ (c.mz l)
theorem arg_fl {fl : Fl} {l : List α} (hf : fl.lock = fl) (h : P G cf e env (.lst fl (l.map c.e))) : Arg G cf e env (.lst fl (l.map c.e)) := by
  cases fl with
  | own => cases hf
  | frz => exact ⟨_, h, okD_nl (by rw [noLck_lst, c.mn]; rfl), by rw [frzA_nl (by rw [noLck_lst, c.mn]; rfl), frz_own]⟩
  | lck =>
    refine ⟨_, h, okD_no ?_, ?_⟩
    · simp only [D.noOwn, noOwnL_map c l]; rfl
    · unfold D.frzA
      rw [if_neg]
      rw [noLck_lst]
      simp
theorem itms_nil : Itms G cf .nil env [] := ⟨[], by simp, rfl, rfl⟩
theorem itms_cons {ds : List D} (h : Itm G cf e env d) (h' : Itms G cf es env ds) : Itms G cf (.cons e es) env (d :: ds) := by
  obtain ⟨d0, h1, h2, h3⟩ := h
  obtain ⟨ds0, g1, g2, g3⟩ := h'
  exact ⟨d0 :: ds0, by rw [evs_cons, h1, g1]; rfl, by rw [noLckL_cons, h2, g2]; rfl, by rw [frzL_cons, h3, g3]⟩
theorem itm_c {x : α} (h : P G cf e env (c.e x)) : Itm G cf e env (c.e x) := ⟨_, h, c.nl x, c.frz x⟩
theorem itm_own {l : List α} (h : P G cf e env (.lst .own (l.map c.e))) : Itm G cf e env (.lst .frz (l.map c.e)) := ⟨_, h, nl_own, frz_own⟩
theorem P_tup {ds : List D} (h : Itms G cf es env ds) (hl : ds.length ≤ 1000) : P G cf (.tup es) env (.tup ds) := by
  obtain ⟨ds0, h1, h2, h3⟩ := h
  have len : ∀ l : List D, (D.frzL l).length = l.length := by
    intro l
    induction l with
    | nil => rfl
    | cons d l ih => simp [ih]
  unfold P
  rw [ev_tup, h1, Option.bind_some, if_pos ⟨h2, by rw [← len ds0, h3]; unfold line; omega⟩, h3]
theorem P_lst {ds : List D} (h : Itms G cf es env ds) (hl : ds.length ≤ 1000) : P G cf (.lst es) env (.lst .own ds) := by
  obtain ⟨ds0, h1, h2, h3⟩ := h
  have len : ∀ l : List D, (D.frzL l).length = l.length := by
    intro l
    induction l with
    | nil => rfl
    | cons d l ih => simp [ih]
  unfold P
  rw [ev_lst, h1, Option.bind_some, if_pos ⟨h2, by rw [← len ds0, h3]; unfold line; omega⟩, h3]
theorem itmM_nil {c : Cd α} : Itms G cf .nil env (([] : List α).map c.e) := itms_nil
theorem itmM_cons {c : Cd α} {x : α} {l : List α} (h : Itm G cf e env (c.e x)) (h' : Itms G cf es env (l.map c.e)) : Itms G cf (.cons e es) env ((x :: l).map c.e) := itms_cons h h'
theorem P_tupM {c : Cd α} {l : List α} (h : Itms G cf es env (l.map c.e)) (hl : l.length ≤ 1000) : P G cf (.tup es) env (.tup (l.map c.e)) := P_tup h (by rw [List.length_map]; exact hl)
theorem P_lstM {c : Cd α} {l : List α} (h : Itms G cf es env (l.map c.e)) (hl : l.length ≤ 1000) : P G cf (.lst es) env (.lst .own (l.map c.e)) := P_lst h (by rw [List.length_map]; exact hl)
/-! ### variables, constants -/
theorem P_var {i : Nat} (h : getE env i = some d) (hl : d.lock = d') : P G cf (.var i) env d' := by unfold P; rw [ev_var, h, Option.map_some, hl]
theorem P_varC {i : Nat} {x : α} (h : getE env i = some (c.e x)) : P G cf (.var i) env (c.e x) := P_var h (c.lock x)
theorem P_varO {i : Nat} {l : List α} (h : getE env i = some (.lst .own (l.map c.e))) : P G cf (.var i) env (.lst .lck (l.map c.e)) := P_var h (by simp only [D.lock, c.ml, Fl.lock])
theorem P_varF {i : Nat} {fl : Fl} {l : List α} (hf : fl.lock = fl) (h : getE env i = some (.lst fl (l.map c.e))) : P G cf (.var i) env (.lst fl (l.map c.e)) := P_var h (by simp only [D.lock, c.ml, hf])
theorem P_int {i : Int} : P G cf (.int i) env (cInt.e i) := ev_int
theorem P_bl {b : Bool} : P G cf (.bl b) env (cBool.e b) := ev_bl
theorem P_str {s : List Nat} : P G cf (.str s) env (cStr.e s) := ev_str
theorem P_non : P G cf .non env (cNon.e ()) := ev_non
/-! ### numbers -/
variable {i j : Int} {s t : List Nat} {a b : E}
theorem P_add (ha : P G cf a env (cInt.e i)) (hb : P G cf b env (cInt.e j)) : P G cf (.bin .add a b) env (cInt.e (i + j)) := by unfold P at *; rw [ev_bin, ha, hb]; rfl
theorem P_sub (ha : P G cf a env (cInt.e i)) (hb : P G cf b env (cInt.e j)) : P G cf (.bin .sub a b) env (cInt.e (i - j)) := by unfold P at *; rw [ev_bin, ha, hb]; rfl
theorem P_neg (ha : P G cf a env (cInt.e i)) : P G cf (.neg a) env (cInt.e (-i)) := by unfold P at *; rw [ev_neg, ha]; rfl
theorem P_mulL (ha : P G cf a env (cInt.e i)) (hb : P G cf b env (cInt.e j)) (h : small i = true) : P G cf (.bin .mul a b) env (cInt.e (i * j)) := by unfold P at *; rw [ev_bin, ha, hb]; exact binop_mul h
theorem P_mulR (ha : P G cf a env (cInt.e i)) (hb : P G cf b env (cInt.e j)) (h : small j = true) : P G cf (.bin .mul a b) env (cInt.e (i * j)) := by
  unfold P at *; rw [ev_bin, ha, hb]
  show (if (small i || small j) = true then some (D.int (i * j)) else none) = _
  rw [h, Bool.or_true]
  exact if_pos rfl
def mulO (i j : Int) : Option Int := if small i || small j then some (i * j) else none
theorem M_mul (ha : P G cf a env (cInt.e i)) (hb : P G cf b env (cInt.e j)) : Ev G cf (.bin .mul a b) env (mulO i j) cInt.e := fun x hx => by
  unfold P at ha hb; rw [ev_bin, ha, hb]
  unfold mulO at hx
  show (if (small i || small j) = true then some (D.int (i * j)) else none) = _
  split at hx
  · rename_i q; cases hx; rw [if_pos q]; rfl
  · cases hx
theorem P_mod (ha : P G cf a env (cInt.e i)) (hb : P G cf b env (cInt.e j)) (h : 0 < j) : P G cf (.bin .mod a b) env (cInt.e (i % j)) := by unfold P at *; rw [ev_bin, ha, hb]; exact binop_mod h
theorem P_fdiv (ha : P G cf a env (cInt.e i)) (hb : P G cf b env (cInt.e j)) (h : 0 < j) (h' : j < 1073741824) : P G cf (.bin .fdiv a b) env (cInt.e (i / j)) := by unfold P at *; rw [ev_bin, ha, hb]; exact binop_fdiv h h'
def modO (i j : Int) : Option Int := if 0 < j then some (i % j) else none
def divO (i j : Int) : Option Int := if 0 < j ∧ j < 1073741824 then some (i / j) else none
theorem M_mod (ha : P G cf a env (cInt.e i)) (hb : P G cf b env (cInt.e j)) : Ev G cf (.bin .mod a b) env (modO i j) cInt.e := fun x hx => by
  unfold modO at hx
  split at hx
  · rename_i q; cases hx; exact P_mod ha hb q
  · cases hx
theorem M_fdiv (ha : P G cf a env (cInt.e i)) (hb : P G cf b env (cInt.e j)) : Ev G cf (.bin .fdiv a b) env (divO i j) cInt.e := fun x hx => by
  unfold divO at hx
  split at hx
  · rename_i q; cases hx; exact P_fdiv ha hb q.1 q.2
  · cases hx
theorem P_pow {k : Int} (ha : P G cf a env (cInt.e i)) (hb : P G cf b env (cInt.e j)) (h : binop .pow (.int i) (.int j) = some (.int k)) : P G cf (.bin .pow a b) env (cInt.e k) := by unfold P at *; rw [ev_bin, ha, hb]; exact h
theorem P_lt (ha : P G cf a env (cInt.e i)) (hb : P G cf b env (cInt.e j)) : P G cf (.cmp .lt a b) env (cBool.e (decide (i < j))) := by unfold P at *; rw [ev_cmp, ha, hb]; rfl
theorem P_le (ha : P G cf a env (cInt.e i)) (hb : P G cf b env (cInt.e j)) : P G cf (.cmp .le a b) env (cBool.e (decide (i ≤ j))) := by unfold P at *; rw [ev_cmp, ha, hb]; rfl
theorem P_gt (ha : P G cf a env (cInt.e i)) (hb : P G cf b env (cInt.e j)) : P G cf (.cmp .gt a b) env (cBool.e (decide (j < i))) := by unfold P at *; rw [ev_cmp, ha, hb]; rfl
theorem P_ge (ha : P G cf a env (cInt.e i)) (hb : P G cf b env (cInt.e j)) : P G cf (.cmp .ge a b) env (cBool.e (decide (j ≤ i))) := by unfold P at *; rw [ev_cmp, ha, hb]; rfl
/-! ### equality -/
theorem P_eq [DecidableEq α] {k : Nat} {x y : α} (q : EqI c k) (ha : P G cf a env (c.e x)) (hb : P G cf b env (c.e y)) (hk : k ≤ 60 := by decide) : P G cf (.cmp .eq a b) env (cBool.e (decide (x = y))) := by
  unfold P at *; rw [ev_cmp, ha, hb, Option.bind_some, Option.bind_some, cmpop, eqop_I q hk] <;> rfl
theorem P_ne [DecidableEq α] {k : Nat} {x y : α} (q : EqI c k) (ha : P G cf a env (c.e x)) (hb : P G cf b env (c.e y)) (hk : k ≤ 60 := by decide) : P G cf (.cmp .ne a b) env (cBool.e (!decide (x = y))) := by
  unfold P at *; rw [ev_cmp, ha, hb, Option.bind_some, Option.bind_some, cmpop, eqop_I q hk] <;> rfl
theorem eqop_L [DecidableEq α] {k : Nat} {f g : Fl} {l m : List α} (q : EqI c k) (hk : k < 60) : eqop (.lst f (l.map c.e)) (.lst g (m.map c.e)) = some (decide (l = m)) := by
  have h := eqop_I (eqL_ q) hk l m
  exact h
theorem P_eqL [DecidableEq α] {k : Nat} {f g : Fl} {l m : List α} (q : EqI c k) (ha : P G cf a env (.lst f (l.map c.e))) (hb : P G cf b env (.lst g (m.map c.e))) (hk : k < 60 := by decide) : P G cf (.cmp .eq a b) env (cBool.e (decide (l = m))) := by
  unfold P at *; rw [ev_cmp, ha, hb, Option.bind_some, Option.bind_some, cmpop, eqop_L q hk] <;> rfl
theorem P_neL [DecidableEq α] {k : Nat} {f g : Fl} {l m : List α} (q : EqI c k) (ha : P G cf a env (.lst f (l.map c.e))) (hb : P G cf b env (.lst g (m.map c.e))) (hk : k < 60 := by decide) : P G cf (.cmp .ne a b) env (cBool.e (!decide (l = m))) := by
  unfold P at *; rw [ev_cmp, ha, hb, Option.bind_some, Option.bind_some, cmpop, eqop_L q hk] <;> rfl
theorem eqop_bl (x y : Bool) : eqop (.bl x) (.bl y) = some (decide (x = y)) := by cases x <;> cases y <;> rfl
theorem P_eqB {x y : Bool} (ha : P G cf a env (cBool.e x)) (hb : P G cf b env (cBool.e y)) : P G cf (.cmp .eq a b) env (cBool.e (decide (x = y))) := by
  unfold P at *; rw [ev_cmp, ha, hb]; show (cmpop .eq (.bl x) (.bl y)).map D.bl = _; rw [cmpop, eqop_bl]; rfl
theorem P_neB {x y : Bool} (ha : P G cf a env (cBool.e x)) (hb : P G cf b env (cBool.e y)) : P G cf (.cmp .ne a b) env (cBool.e (!decide (x = y))) := by
  unfold P at *; rw [ev_cmp, ha, hb]; show (cmpop .ne (.bl x) (.bl y)).map D.bl = _; rw [cmpop, eqop_bl]; rfl
def inB [DecidableEq α] (x : α) (l : List α) : Bool := decide (x ∈ l)
@[simp] theorem inB_iff [DecidableEq α] {x : α} {l : List α} : inB x l = true ↔ x ∈ l := by unfold inB; exact decide_eq_true_iff
theorem any_I [DecidableEq α] {k : Nat} (q : EqI c k) (x : α) : ∀ l : List α, ((l.map c.e).any fun z => z.beq (c.e x)) = inB x l
  | [] => by simp [inB]
  | y :: l => by
    simp only [List.map_cons, List.any_cons, q.bq, any_I q x l, inB, List.mem_cons, Bool.decide_or]
    congr 1
    exact decide_eq_decide.mpr eq_comm
theorem inop_L [DecidableEq α] {k : Nat} {f : Fl} {l : List α} {x : α} (q : EqI c k) (hk : k < 60) : inop (c.e x) (.lst f (l.map c.e)) = some (inB x l) := by
  have h : eqable (c.e x) (.lst f (l.map c.e)) = true := by
    unfold eqable
    have h1 := q.dp x
    have h2 := depthL_map q.dp l
    simp only [D.plain, D.noBl, D.depth, q.pl, q.nb, plainL_map q.pl l, noBlL_map q.nb l, Bool.and_self, Bool.true_and, Bool.true_or, Bool.and_true, Bool.and_eq_true, decide_eq_true_eq]
    exact ⟨by omega, decide_eq_true (by omega)⟩
  simp only [inop]
  rw [if_pos h, any_I q]
theorem P_inL [DecidableEq α] {k : Nat} {f : Fl} {l : List α} {x : α} (q : EqI c k) (ha : P G cf a env (c.e x)) (hb : P G cf b env (.lst f (l.map c.e))) (hk : k < 60 := by decide) : P G cf (.cmp .inn a b) env (cBool.e (inB x l)) := by
  unfold P at *; rw [ev_cmp, ha, hb, Option.bind_some, Option.bind_some, cmpop, inop_L q hk] <;> rfl
theorem P_ninL [DecidableEq α] {k : Nat} {f : Fl} {l : List α} {x : α} (q : EqI c k) (ha : P G cf a env (c.e x)) (hb : P G cf b env (.lst f (l.map c.e))) (hk : k < 60 := by decide) : P G cf (.cmp .nin a b) env (cBool.e (!inB x l)) := by
  unfold P at *; rw [ev_cmp, ha, hb, Option.bind_some, Option.bind_some, cmpop, inop_L q hk] <;> rfl
theorem inop_T [DecidableEq α] {l : List α} {x : α} (q : EqI c 0) : inop (c.e x) (.tup (l.map c.e)) = some (inB x l) := by
  have d0 := Nat.le_zero.mp (q.dp x)
  have dl := Nat.le_zero.mp (depthL_map q.dp l)
  have h : eqable (c.e x) (.tup (l.map c.e)) = true := by
    unfold eqable
    simp only [D.plain, D.noBl, D.depth, q.pl, q.nb, plainL_map q.pl l, noBlL_map q.nb l, Bool.and_self, Bool.true_and, Bool.true_or, Bool.and_true, d0, dl]
    rfl
  simp only [inop]
  rw [if_pos ⟨d0, dl, h⟩, any_I q]
theorem P_inT [DecidableEq α] {l : List α} {x : α} (q : EqI c 0) (ha : P G cf a env (c.e x)) (hb : P G cf b env (.tup (l.map c.e))) : P G cf (.cmp .inn a b) env (cBool.e (inB x l)) := by
  unfold P at *; rw [ev_cmp, ha, hb, Option.bind_some, Option.bind_some, cmpop, inop_T q] <;> rfl
theorem P_ninT [DecidableEq α] {l : List α} {x : α} (q : EqI c 0) (ha : P G cf a env (c.e x)) (hb : P G cf b env (.tup (l.map c.e))) : P G cf (.cmp .nin a b) env (cBool.e (!inB x l)) := by
  unfold P at *; rw [ev_cmp, ha, hb, Option.bind_some, Option.bind_some, cmpop, inop_T q] <;> rfl
def inS (s t : List Nat) : Option Bool := match s with
  | [c] => some (decide (c ∈ t))
  | _ => none
theorem M_inS (ha : P G cf a env (cStr.e s)) (hb : P G cf b env (cStr.e t)) : Ev G cf (.cmp .inn a b) env (inS s t) cBool.e := fun x hx => by
  unfold inS at hx
  split at hx
  · cases hx; unfold P at ha hb; rw [ev_cmp, ha, hb]; rfl
  · cases hx
theorem M_ninS (ha : P G cf a env (cStr.e s)) (hb : P G cf b env (cStr.e t)) : Ev G cf (.cmp .nin a b) env ((inS s t).map (!·)) cBool.e := fun x hx => by
  unfold inS at hx
  split at hx
  · cases hx; unfold P at ha hb; rw [ev_cmp, ha, hb]; rfl
  · cases hx
/-! ### bools -/
variable {x y z : Bool}
theorem P_not (ha : P G cf a env (cBool.e x)) : P G cf (.not a) env (cBool.e (!x)) := by unfold P at *; rw [ev_not, ha]; rfl
theorem P_and (ha : P G cf a env (cBool.e x)) (hb : P G cf b env (cBool.e y)) : P G cf (.and a b) env (cBool.e (x && y)) := by unfold P at *; rw [ev_and, ha]; show (if x = true then _ else _) = _; cases x; rfl; exact hb
theorem P_or (ha : P G cf a env (cBool.e x)) (hb : P G cf b env (cBool.e y)) : P G cf (.or a b) env (cBool.e (x || y)) := by unfold P at *; rw [ev_or, ha]; show (if x = true then _ else _) = _; cases x; exact hb; rfl
theorem M_and {B : Option Bool} (ha : P G cf a env (cBool.e x)) (hb : Ev G cf b env B cBool.e) : Ev G cf (.and a b) env (if x then B else some false) cBool.e := fun r hr => by
  unfold P at ha; rw [ev_and, ha]; show (if x = true then _ else _) = _
  cases x
  · cases hr; rfl
  · exact hb r hr
theorem M_or {B : Option Bool} (ha : P G cf a env (cBool.e x)) (hb : Ev G cf b env B cBool.e) : Ev G cf (.or a b) env (if x then some true else B) cBool.e := fun r hr => by
  unfold P at ha; rw [ev_or, ha]; show (if x = true then _ else _) = _
  cases x
  · exact hb r hr
  · cases hr; rfl
theorem P_ite {c0 : E} {p q : α} {cc : α → D} (hc : P G cf c0 env (cBool.e x)) (ha : P G cf a env (cc p)) (hb : P G cf b env (cc q)) : P G cf (.ite c0 a b) env (cc (if x then p else q)) := by
  unfold P at *; rw [ev_ite, hc]; show (if x = true then _ else _) = _; cases x; exact hb; exact ha
theorem M_ite {c0 : E} {A B : Option α} {cc : α → D} (hc : P G cf c0 env (cBool.e x)) (ha : Ev G cf a env A cc) (hb : Ev G cf b env B cc) : Ev G cf (.ite c0 a b) env (if x then A else B) cc := fun r hr => by
  unfold P at hc; rw [ev_ite, hc]; show (if x = true then _ else _) = _
  cases x
  · exact hb r hr
  · exact ha r hr
theorem P_cmp2 {o p : CO} {e0 : E} {d1 d2 d3 : D} (ha : P G cf a env d1) (hb : P G cf b env d2) (hc : P G cf e0 env d3) (h1 : cmpop o d1 d2 = some x) (h2 : cmpop p d2 d3 = some y) : P G cf (.cmp2 o p a b e0) env (cBool.e (x && y)) := by
  unfold P at *
  have : ev G cf (.cmp2 o p a b e0) env = (ev G cf a env).bind fun x => (ev G cf b env).bind fun y => (cmpop o x y).bind fun k => if k then (ev G cf e0 env).bind fun z => (cmpop p y z).map .bl else some (.bl false) := by rw [ev]
  rw [this, ha, hb, Option.bind_some, Option.bind_some, h1, Option.bind_some]
  cases x
  · rfl
  · rw [if_pos rfl, hc, Option.bind_some, h2]; rfl
theorem P_isN {n : Bool} {o : Option α} (hn : ∀ x, (c.e x).isNon = false) (ha : P G cf a env ((cO c).e o)) : P G cf (.isN n a) env (cBool.e (if n then o.isSome else o.isNone)) := by
  unfold P at *; rw [ev_isN, ha]
  cases o with
  | none => cases n <;> rfl
  | some v => show some (D.bl (if n then !(c.e v).isNon else (c.e v).isNon)) = _; rw [hn]; cases n <;> rfl
theorem P_isNf {n : Bool} {d : D} (hn : d.isNon = false) (ha : P G cf a env d) : P G cf (.isN n a) env (cBool.e n) := by
  unfold P at *; rw [ev_isN, ha]; show some (D.bl (if n then !d.isNon else d.isNon)) = _; rw [hn]; cases n <;> rfl
theorem P_isNt {n : Bool} (ha : P G cf a env .non) : P G cf (.isN n a) env (cBool.e (!n)) := by
  unfold P at *; rw [ev_isN, ha]; cases n <;> rfl
theorem P_isB {n k : Bool} (ha : P G cf a env (cBool.e x)) : P G cf (.isB n k a) env (cBool.e (if n then !decide (x = k) else decide (x = k))) := by
  unfold P at *; rw [ev_isB, ha]; rfl
theorem P_inst {t : BT} {k : Bool} (ha : P G cf a env d) (h : d.isInst t = some k) : P G cf (.inst t a) env (cBool.e k) := by
  unfold P at *; rw [ev_inst, ha, Option.bind_some, h]; rfl
/-- a value that may be None, used as a value -/
theorem M_un {o : Option α} (ha : P G cf a env ((cO c).e o)) : Ev G cf a env o c.e := fun r hr => by subst hr; exact ha
theorem P_some {v : α} (ha : P G cf a env (c.e v)) : P G cf a env ((cO c).e (some v)) := ha
theorem P_none (c : Cd α) (ha : P G cf a env (cNon.e ())) : P G cf a env ((cO c).e none) := ha
/-! ### subscripts, slices -/
theorem getI_map {l : List α} {f : α → D} {i : Int} : getI (l.map f) i = (getI l i).map f := atI_map f l i
theorem M_idxL {f : Fl} {l : List α} (ha : P G cf a env (.lst f (l.map c.e))) (hb : P G cf b env (cInt.e i)) : Ev G cf (.idx a b) env (getI l i) c.e := fun r hr => by
  unfold P at ha hb; rw [ev_idx, ha, hb]; show getI (l.map c.e) i = _; rw [getI_map, hr]; rfl
theorem M_idxT {l : List α} (ha : P G cf a env (.tup (l.map c.e))) (hb : P G cf b env (cInt.e i)) : Ev G cf (.idx a b) env (getI l i) c.e := fun r hr => by
  unfold P at ha hb; rw [ev_idx, ha, hb]; show getI (l.map c.e) i = _; rw [getI_map, hr]; rfl
theorem M_idxS (ha : P G cf a env (cStr.e s)) (hb : P G cf b env (cInt.e i)) : Ev G cf (.idx a b) env ((getI s i).map fun c => [c]) cStr.e := fun r hr => by
  unfold P at ha hb; rw [ev_idx, ha, hb]; show (getI s i).map (fun c => D.str [c]) = _
  cases q : getI s i with
  | none => rw [q] at hr; cases hr
  | some v => rw [q] at hr; cases hr; rfl
theorem M_idxR {l : List Int} (ha : P G cf a env (cScr.e l)) (hb : P G cf b env (cInt.e i)) : Ev G cf (.idx a b) env (getI l i) cInt.e := fun r hr => by
  unfold P at ha hb; rw [ev_idx, ha, hb]; show (getI l i).map D.int = _; rw [hr]; rfl
/-- a place that is written, of a tuple or list of a written length -/
theorem P_idxK {l : List D} {f : Fl} (ha : P G cf a env (.lst f l)) (hb : P G cf b env (cInt.e i)) (h : getI l i = some d) : P G cf (.idx a b) env d := by
  unfold P at *; rw [ev_idx, ha, hb]; exact h
theorem P_idxKT {l : List D} (ha : P G cf a env (.tup l)) (hb : P G cf b env (cInt.e i)) (h : getI l i = some d) : P G cf (.idx a b) env d := by
  unfold P at *; rw [ev_idx, ha, hb]; exact h
def Bnd (G : Glob) (cf : Nat → List D → Option D) (env : Env) (e : E) (o : Option Int) : Prop := asP e (ev G cf e env) = some o
theorem bnd_no : Bnd G cf env .nop none := rfl
theorem bnd_at (hn : e.isNop = false) (h : P G cf e env (cInt.e i)) : Bnd G cf env e (some i) := by unfold P at h; unfold Bnd; rw [h]; exact asP_int hn
variable {lo hi : E} {u v : Option Int}
theorem P_slcL {f : Fl} {l : List α} (ha : P G cf a env (.lst f (l.map c.e))) (h1 : Bnd G cf env lo u) (h2 : Bnd G cf env hi v) : P G cf (.slc a lo hi) env (.lst .own ((cut l u v).map c.e)) := by
  unfold P Bnd at *; rw [ev_slc, ha, Option.bind_some, h1, Option.bind_some, h2, Option.bind_some]
  show (if D.isFrzL (l.map c.e) = true then some (D.lst .own (cut (l.map c.e) u v)) else none) = _
  rw [if_pos (c.mz l)]
  simp [cut]
theorem P_slcT {l : List α} (ha : P G cf a env (.tup (l.map c.e))) (h1 : Bnd G cf env lo u) (h2 : Bnd G cf env hi v) : P G cf (.slc a lo hi) env (.tup ((cut l u v).map c.e)) := by
  unfold P Bnd at *; rw [ev_slc, ha, Option.bind_some, h1, Option.bind_some, h2, Option.bind_some]
  show some (D.tup (cut (l.map c.e) u v)) = _
  simp [cut]
theorem P_slcS (ha : P G cf a env (cStr.e s)) (h1 : Bnd G cf env lo u) (h2 : Bnd G cf env hi v) : P G cf (.slc a lo hi) env (cStr.e (cut s u v)) := by
  unfold P Bnd at *; rw [ev_slc, ha, Option.bind_some, h1, Option.bind_some, h2]; rfl
theorem P_rev {f : Fl} {l : List α} (ha : P G cf a env (.lst f (l.map c.e))) : P G cf (.rev a) env (.lst .own (l.reverse.map c.e)) := by
  unfold P at *; rw [ev_rev, ha]
  show (if D.isFrzL (l.map c.e) = true then some (D.lst .own (l.map c.e).reverse) else none) = _
  rw [if_pos (c.mz l), List.map_reverse]
/-! ### texts, lists put together -/
def catS (s t : List Nat) : Option (List Nat) := if s.length + t.length ≤ line then some (s ++ t) else none
def catL (l m : List α) : Option (List α) := if l.length + m.length ≤ line then some (l ++ m) else none
theorem M_catS (ha : P G cf a env (cStr.e s)) (hb : P G cf b env (cStr.e t)) : Ev G cf (.bin .add a b) env (catS s t) cStr.e := fun r hr => by
  unfold P at ha hb; rw [ev_bin, ha, hb]
  show (if s.length + t.length ≤ line then some (D.str (s ++ t)) else none) = _
  unfold catS at hr
  split at hr
  · rename_i q; cases hr; rw [if_pos q]; rfl
  · cases hr
theorem M_catL {f g : Fl} {l m : List α} (ha : P G cf a env (.lst f (l.map c.e))) (hb : P G cf b env (.lst g (m.map c.e))) : Ev G cf (.bin .add a b) env (catL l m) (fun z => .lst .own (z.map c.e)) := fun r hr => by
  unfold P at ha hb; rw [ev_bin, ha, hb]
  show (if (l.map c.e).length + (m.map c.e).length ≤ line ∧ D.isFrzL (l.map c.e) = true ∧ D.isFrzL (m.map c.e) = true then some (D.lst .own (l.map c.e ++ m.map c.e)) else none) = _
  unfold catL at hr
  split at hr
  · rename_i q; cases hr; rw [if_pos ⟨by simpa using q, c.mz l, c.mz m⟩]; simp
  · cases hr
theorem M_catT {l m : List α} (ha : P G cf a env (.tup (l.map c.e))) (hb : P G cf b env (.tup (m.map c.e))) : Ev G cf (.bin .add a b) env (catL l m) (cT c).e := fun r hr => by
  unfold P at ha hb; rw [ev_bin, ha, hb]
  show (if (l.map c.e).length + (m.map c.e).length ≤ line then some (D.tup (l.map c.e ++ m.map c.e)) else none) = _
  unfold catL at hr
  split at hr
  · rename_i q; cases hr; rw [if_pos (by simpa using q), ← List.map_append]; rfl
  · cases hr
def repS (c : Nat) (n : Int) : Option (List Nat) := if -1000000 ≤ n ∧ n ≤ 1000000 then some (List.replicate n.toNat c) else none
theorem M_mulS {k : Nat} (ha : P G cf a env (cStr.e [k])) (hb : P G cf b env (cInt.e i)) : Ev G cf (.bin .mul a b) env (repS k i) cStr.e := fun r hr => by
  unfold P at ha hb; rw [ev_bin, ha, hb]
  show (if -1000000 ≤ i ∧ i ≤ 1000000 then some (D.str (List.replicate i.toNat k)) else none) = _
  unfold repS at hr
  split at hr
  · rename_i q; cases hr; rw [if_pos q]; rfl
  · cases hr
def joinG (s : List Nat) (ys : List (List Nat)) : Option (List Nat) := if (ys.map List.length).sum + ys.length * s.length ≤ line then some (TL.joinL s ys) else none
theorem asStrs_c : ∀ l : List (List Nat), asStrs (l.map cStr.e) = some l
  | [] => rfl
  | a :: l => by show (asStrs (l.map cStr.e)).map (a :: ·) = _; rw [asStrs_c l]; rfl
theorem ev_mth1 {m : MT} : ev G cf (.mth m a (.cons b .nil)) env = (ev G cf a env).bind fun x => (ev G cf b env).bind fun y => mtop m x [y] := by
  rw [ev]
  cases ev G cf a env <;> simp
  cases ev G cf b env <;> simp
theorem M_join {f : Fl} {l : List (List Nat)} (ha : P G cf a env (cStr.e s)) (hb : P G cf b env (.lst f (l.map cStr.e))) : Ev G cf (.mth .join a (.cons b .nil)) env (joinG s l) cStr.e := fun r hr => by
  unfold P at ha hb; rw [ev_mth1, ha, hb]
  show joinO s (l.map cStr.e) = _
  unfold joinO
  rw [asStrs_c, Option.bind_some]
  unfold joinG at hr
  split at hr
  · rename_i q; cases hr; rw [if_pos q]; rfl
  · cases hr
theorem M_joinT {l : List (List Nat)} (ha : P G cf a env (cStr.e s)) (hb : P G cf b env (.tup (l.map cStr.e))) : Ev G cf (.mth .join a (.cons b .nil)) env (joinG s l) cStr.e := fun r hr => by
  unfold P at ha hb; rw [ev_mth1, ha, hb]
  show joinO s (l.map cStr.e) = _
  unfold joinO
  rw [asStrs_c, Option.bind_some]
  unfold joinG at hr
  split at hr
  · rename_i q; cases hr; rw [if_pos q]; rfl
  · cases hr
theorem P_count {k : Nat} (ha : P G cf a env (cStr.e s)) (hb : P G cf b env (cStr.e [k])) : P G cf (.mth .count a (.cons b .nil)) env (cInt.e (s.count k)) := by
  unfold P at *; rw [ev_mth1, ha, hb]; rfl
/-! ### built-in functions -/
theorem ev_bi1 {k : BI} : ev G cf (.bi k (.cons a .nil)) env = (ev G cf a env).bind fun x => biop k [x] := by
  rw [ev_bi, evs_cons]
  cases ev G cf a env <;> simp
theorem ev_bi2 {k : BI} : ev G cf (.bi k (.cons a (.cons b .nil))) env = (ev G cf a env).bind fun x => (ev G cf b env).bind fun y => biop k [x, y] := by
  rw [ev_bi, evs_cons, evs_cons]
  cases ev G cf a env <;> simp
  cases ev G cf b env <;> simp
theorem P_lenL {f : Fl} {l : List α} (ha : P G cf a env (.lst f (l.map c.e))) : P G cf (.bi .len (.cons a .nil)) env (cInt.e (l.length : Int)) := by
  unfold P at *; rw [ev_bi1, ha]; show some (D.int ((l.map c.e).length : Int)) = _; rw [List.length_map]; rfl
theorem P_lenT {l : List α} (ha : P G cf a env (.tup (l.map c.e))) : P G cf (.bi .len (.cons a .nil)) env (cInt.e (l.length : Int)) := by
  unfold P at *; rw [ev_bi1, ha]; show some (D.int ((l.map c.e).length : Int)) = _; rw [List.length_map]; rfl
theorem P_lenS (ha : P G cf a env (cStr.e s)) : P G cf (.bi .len (.cons a .nil)) env (cInt.e (s.length : Int)) := by unfold P at *; rw [ev_bi1, ha]; rfl
theorem P_lenR {l : List Int} (ha : P G cf a env (cScr.e l)) : P G cf (.bi .len (.cons a .nil)) env (cInt.e (l.length : Int)) := by unfold P at *; rw [ev_bi1, ha]; rfl
theorem P_lenK {l : List D} {k : Nat} (ha : P G cf a env (.tup l)) (h : l.length = k) : P G cf (.bi .len (.cons a .nil)) env (cInt.e (k : Int)) := by unfold P at *; rw [ev_bi1, ha]; subst h; rfl
theorem P_lenKL {l : List D} {f : Fl} {k : Nat} (ha : P G cf a env (.lst f l)) (h : l.length = k) : P G cf (.bi .len (.cons a .nil)) env (cInt.e (k : Int)) := by unfold P at *; rw [ev_bi1, ha]; subst h; rfl
def b2i (b : Bool) : Int := if b then 1 else 0
theorem P_intB (ha : P G cf a env (cBool.e x)) : P G cf (.bi .int (.cons a .nil)) env (cInt.e (b2i x)) := by unfold P at *; rw [ev_bi1, ha]; rfl
theorem P_intI (ha : P G cf a env (cInt.e i)) : P G cf (.bi .int (.cons a .nil)) env (cInt.e i) := by unfold P at *; rw [ev_bi1, ha]; rfl
theorem P_listL {f : Fl} {l : List α} (ha : P G cf a env (.lst f (l.map c.e))) : P G cf (.bi .list (.cons a .nil)) env (.lst .own (l.map c.e)) := by
  unfold P at *; rw [ev_bi1, ha]; exact if_pos (c.mz l)
theorem P_listT {l : List α} (ha : P G cf a env (.tup (l.map c.e))) : P G cf (.bi .list (.cons a .nil)) env (.lst .own (l.map c.e)) := by unfold P at *; rw [ev_bi1, ha]; rfl
theorem P_tupL {f : Fl} {l : List α} (ha : P G cf a env (.lst f (l.map c.e))) : P G cf (.bi .tuple (.cons a .nil)) env ((cT c).e l) := by
  unfold P at *; rw [ev_bi1, ha]; exact if_pos (c.mz l)
theorem P_tupT {l : List α} (ha : P G cf a env (.tup (l.map c.e))) : P G cf (.bi .tuple (.cons a .nil)) env ((cT c).e l) := by unfold P at *; rw [ev_bi1, ha]; rfl
theorem asInts_c : ∀ l : List Int, asInts (l.map cInt.e) = some l
  | [] => rfl
  | a :: l => by show (asInts (l.map cInt.e)).map (a :: ·) = _; rw [asInts_c l]; rfl
theorem P_sortI {f : Fl} {l : List Int} (ha : P G cf a env (.lst f (l.map cInt.e))) : P G cf (.bi .sorted (.cons a .nil)) env (.lst .own ((sortI l).map cInt.e)) := by
  unfold P at *; rw [ev_bi1, ha]; show (match asInts (l.map cInt.e) with
    | some ns => some (D.lst .own ((sortI ns).map .int))
    | none => _) = _
  rw [asInts_c]; rfl
/-- data that sorted orders by le -/
structure SrC (c : Cd α) (le : α → α → Bool) : Prop where
  pl : ∀ x, (c.e x).plain = true
  dp : ∀ x, (c.e x).depth ≤ 60
  al : ∀ x y, PySem.W.alike (c.e x).py (c.e y).py = true
  kd : (∀ x, ∃ a l, c.e x = .tup (a :: l)) ∨ ∀ x, ∃ s, c.e x = .str s
  le : ∀ x y, leD (c.e x) (c.e y) = le x y
theorem M_sort {c : Cd α} {le : α → α → Bool} (q : SrC c le) {f : Fl} {l : List α} (ha : P G cf a env (.lst f (l.map c.e))) : P G cf (.bi .sorted (.cons a .nil)) env (.lst .own ((l.mergeSort le).map c.e)) := by
  unfold P at *; rw [ev_bi1, ha]; show (match asInts (l.map c.e) with
    | some ns => some (D.lst .own ((sortI ns).map .int))
    | none => if D.isFrzL (l.map c.e) && sortable (l.map c.e) then some (D.lst .own ((l.map c.e).mergeSort leD)) else none) = _
  cases l with
  | nil => simp [asInts, sortI]
  | cons x l =>
    have h : asInts ((x :: l).map c.e) = none := by
      rw [List.map_cons]
      rcases q.kd with k | k
      · obtain ⟨a, b, e⟩ := k x; rw [e]; rfl
      · obtain ⟨s, e⟩ := k x; rw [e]; rfl
    rw [h]
    have s : sortable ((x :: l).map c.e) = true := by
      unfold sortable
      simp only [Bool.and_eq_true, decide_eq_true_eq, Bool.or_eq_true]
      refine ⟨⟨⟨plainL_map q.pl _, ?_⟩, depthL_map q.dp _⟩, ?_⟩
      · rw [List.all_map, List.all_eq_true]
        intro y _
        rw [Function.comp_apply, List.all_map, List.all_eq_true]
        intro z _
        exact q.al y z
      · rcases q.kd with k | k
        · refine .inl ?_
          rw [List.all_map, List.all_eq_true]
          intro y _
          obtain ⟨a, b, e⟩ := k y
          rw [Function.comp_apply, e]
        · refine .inr ?_
          rw [List.all_map, List.all_eq_true]
          intro y _
          obtain ⟨a, e⟩ := k y
          rw [Function.comp_apply, e]
    simp only [c.mz, s, Bool.and_self, if_true]
    congr 2
    exact (List.map_mergeSort (f := c.e) fun a _ b _ => (q.le a b).symm).symm
def leS (a b : List Nat) : Bool := decide (a ≤ b)
theorem srStr : SrC cStr leS := ⟨fun _ => rfl, fun _ => by simp [cStr, D.depth], fun x y => by show PySem.W.alike (D.py (.str x)) (D.py (.str y)) = true; simp [D.py, PySem.W.alike], .inr fun x => ⟨x, rfl⟩, fun x y => by
  have := congrFun (congrFun (PySem.W.dataLe_str (β := List Nat) (fun b => sOf b)) x) y
  have e : leD (cStr.e x) (cStr.e y) = PySem.W.dataLe false (fun b : List Nat => PySem.PyData.str (sOf b)) x y := by
    show PySem.W.dataLe false D.py (.str x) (.str y) = _
    simp only [PySem.W.dataLe, PySem.W.sortLe, D.py]
  rw [e, this]
  exact decide_eq_decide.mpr (by simp [sOf])⟩
def leII (p q : Int × Int) : Bool := decide (p.1 < q.1 ∨ (p.1 = q.1 ∧ p.2 ≤ q.2))
theorem srII : SrC (cP cInt cInt) leII := ⟨fun _ => rfl, fun _ => by simp [cP, cInt, D.depth, D.depthL], fun x y => by show PySem.W.alike (D.py (.tup [.int _, .int _])) (D.py (.tup [.int _, .int _])) = true; simp [D.py, D.pyL, PySem.W.alike, PySem.W.alikeAll], .inl fun x => ⟨_, _, rfl⟩, fun x y => by
  have := congrFun (congrFun (PySem.W.dataLe_ii (β := Int × Int) (fun b => b.1) (fun b => b.2)) x) y
  have e : leD ((cP cInt cInt).e x) ((cP cInt cInt).e y) = PySem.W.dataLe false (fun b : Int × Int => PySem.PyData.tuple [.int b.1, .int b.2]) x y := by
    show PySem.W.dataLe false D.py (.tup [.int x.1, .int x.2]) (.tup [.int y.1, .int y.2]) = _
    simp only [PySem.W.dataLe, PySem.W.sortLe, D.py, D.pyL]
  rw [e, this]
  rfl⟩
theorem P_sum {f : Fl} {l : List Int} (ha : P G cf a env (.lst f (l.map cInt.e))) : P G cf (.bi .sum (.cons a .nil)) env (cInt.e l.sum) := by
  unfold P at *; rw [ev_bi1, ha]; show (asInts (l.map cInt.e)).map (fun ns => D.int ns.sum) = _; rw [asInts_c]; rfl
def maxO (l : List Int) : Option Int := if l = [] then none else some (maxI l)
def minO (l : List Int) : Option Int := if l = [] then none else some (minI l)
theorem M_max {f : Fl} {l : List Int} (ha : P G cf a env (.lst f (l.map cInt.e))) : Ev G cf (.bi .max (.cons a .nil)) env (maxO l) cInt.e := fun r hr => by
  unfold P at ha; rw [ev_bi1, ha]; show (asInts (l.map cInt.e)).bind (fun ns => if ns = [] then none else some (D.int (maxI ns))) = _
  rw [asInts_c, Option.bind_some]
  unfold maxO at hr
  split at hr
  · cases hr
  · rename_i q; cases hr; rw [if_neg q]; rfl
theorem M_min {f : Fl} {l : List Int} (ha : P G cf a env (.lst f (l.map cInt.e))) : Ev G cf (.bi .min (.cons a .nil)) env (minO l) cInt.e := fun r hr => by
  unfold P at ha; rw [ev_bi1, ha]; show (asInts (l.map cInt.e)).bind (fun ns => if ns = [] then none else some (D.int (minI ns))) = _
  rw [asInts_c, Option.bind_some]
  unfold minO at hr
  split at hr
  · cases hr
  · rename_i q; cases hr; rw [if_neg q]; rfl
theorem P_max2 (ha : P G cf a env (cInt.e i)) (hb : P G cf b env (cInt.e j)) : P G cf (.bi .max (.cons a (.cons b .nil))) env (cInt.e (if j > i then j else i)) := by unfold P at *; rw [ev_bi2, ha, hb]; rfl
theorem P_min2 (ha : P G cf a env (cInt.e i)) (hb : P G cf b env (cInt.e j)) : P G cf (.bi .min (.cons a (.cons b .nil))) env (cInt.e (if j < i then j else i)) := by unfold P at *; rw [ev_bi2, ha, hb]; rfl
/-! ### calls -/
theorem M_call {M : Option α} {cc : α → D} {ds : List D} (ha : Args G cf es env ds) (h : ∀ r, M = some r → cf f ds = some (cc r)) : Ev G cf (.call f es) env M cc := fun r hr => by
  obtain ⟨ds0, h1, h2, h3⟩ := ha
  rw [ev_call, h1, Option.bind_some, if_pos h2, h3]
  exact h r hr
/-! ### what is walked -/
def Itr (G : Glob) (cf : Nat → List D → Option D) (it : It) (env : Env) (A : Option (List α)) (c : α → D) : Prop := ∀ l, A = some l → items G cf it env = some (l.map c)
def ItrS (G : Glob) (cf : Nat → List D → Option D) (it : It) (env : Env) (A : Option (List α)) (c : α → D) : Prop := ∀ l, A = some l → itemsS G cf [] it env = some (l.map c)
theorem It_lst {l : List α} {f : Fl} (hf : f ≠ .own) (h : P G cf a env (.lst f (l.map c.e))) : Itr G cf (.seq a) env (some l) c.e := fun r hr => by
  cases hr
  unfold P at h
  rw [items_seq, h, Option.bind_some]
  show (if f = .own then _ else some (l.map c.e)) = _
  rw [if_neg hf]
theorem It_own {l : List α} (h : P G cf a env (.lst .own (l.map c.e))) : Itr G cf (.seq a) env (some l) c.e := fun r hr => by
  cases hr
  unfold P at h
  rw [items_seq, h, Option.bind_some]
  show (if D.noLckL (l.map c.e) = true then some (D.frzL (l.map c.e)) else none) = _
  rw [if_pos (c.mn l), c.mf]
theorem It_tup {l : List α} (h : P G cf a env (.tup (l.map c.e))) : Itr G cf (.seq a) env (some l) c.e := fun r hr => by
  cases hr
  unfold P at h
  rw [items_seq, h]; rfl
theorem It_str (h : P G cf a env (cStr.e s)) : Itr G cf (.seq a) env (some (s.map fun c => [c])) cStr.e := fun r hr => by
  cases hr
  unfold P at h
  rw [items_seq, h]
  show some (s.map fun c => D.str [c]) = _
  rw [List.map_map]; rfl
def rngI (a b : Int) : List Int := (List.range (b - a).toNat).map fun (k : Nat) => a + k
def rngO (a b : Int) : Option (List Int) := if fits62 a && fits62 b then some (rngI a b) else none
theorem It_rng1 (h : P G cf a env (cInt.e i)) : Itr G cf (.rng1 a) env (rngO 0 i) cInt.e := fun r hr => by
  unfold P at h
  rw [items_rng1, h, Option.bind_some]
  unfold rngO at hr
  split at hr
  · rename_i q
    cases hr
    show (if fits62 i = true then some (rng 0 i) else none) = _
    rw [Bool.and_eq_true] at q
    rw [if_pos q.2]
    unfold rng rngI
    rw [List.map_map]; rfl
  · cases hr
theorem It_rng2 (h : P G cf a env (cInt.e i)) (h' : P G cf b env (cInt.e j)) : Itr G cf (.rng2 a b) env (rngO i j) cInt.e := fun r hr => by
  unfold P at h h'
  rw [items_rng2, h, h', Option.bind_some, Option.bind_some]
  unfold rngO at hr
  split at hr
  · rename_i q
    cases hr
    show (if (fits62 i && fits62 j) = true then some (rng i j) else none) = _
    rw [if_pos q]
    unfold rng rngI
    rw [List.map_map]; rfl
  · cases hr
theorem zipD_c : ∀ s t : List Nat, zipD (s.map fun c => .str [c]) (t.map fun c => .str [c]) = ((s.zip t).map fun p => ([p.1], [p.2])).map (cP cStr cStr).e
  | [], _ => by simp [zipD]
  | _ :: _, [] => by simp [zipD]
  | a :: s, b :: t => by simp only [List.map_cons, zipD, zipD_c s t, List.zip_cons_cons]; rfl
theorem It_zip (h : P G cf a env (cStr.e s)) (h' : P G cf b env (cStr.e t)) : Itr G cf (.zip a b) env (some ((s.zip t).map fun p => ([p.1], [p.2]))) (cP cStr cStr).e := fun r hr => by
  cases hr
  unfold P at h h'
  rw [items_zip, h, h', Option.bind_some, Option.bind_some]
  show some (zipD (s.map fun c => .str [c]) (t.map fun c => .str [c])) = _
  rw [zipD_c]
theorem Itr.hoist {A : Option α} {K : α → Option (List β)} {c1 : α → D} {c2 : β → D} {it : It} {e0 : E} (h : Ev G cf e0 env A c1) (k : ∀ x, P G cf e0 env (c1 x) → Itr G cf it env (K x) c2) : Itr G cf it env (A.bind K) c2 := fun y hy => by
  obtain ⟨x, hx, hy⟩ := Option.bind_eq_some_iff.mp hy
  exact k x (h x hx) y hy
/-! ### comprehensions -/
def lcO (l : List α) (f : α → Option (Option β)) : Option (List β) := match l with
  | [] => some []
  | x :: r => (f x).bind fun o => match o with
    | none => lcO r f
    | some d => (lcO r f).map (d :: ·)
def lcG (l : List α) (f : α → Option (Option β)) : Option (List β) := if l.length < line then lcO l f else none
/-- without a test or anything that may fail -/
def mapO (l : List α) (g : α → β) : Option (List β) := if l.length < line then some (l.map g) else none
def filO (l : List α) (p : α → Bool) (g : α → β) : Option (List β) := if l.length < line then some ((l.filter p).map g) else none
theorem lcL_O {cb : β → D} {ca : α → D} {F : D → Option (Option D)} : ∀ (l : List α) {f : α → Option (Option β)} {r : List β}, (∀ x ∈ l, ∀ o, f x = some o → F (ca x) = some (o.map cb)) → lcO l f = some r → lcL F (l.map ca) = some (r.map cb)
  | [], f, r, _, h => by simp only [lcO, Option.some.injEq] at h; subst h; rfl
  | x :: l, f, r, hF, h => by
    simp only [lcO, Option.bind_eq_some_iff] at h
    obtain ⟨o, ho, h⟩ := h
    have e := hF x List.mem_cons_self o ho
    have ih := fun r h => lcL_O (cb := cb) (ca := ca) (F := F) l (f := f) (r := r) (fun y hy => hF y (List.mem_cons_of_mem _ hy)) h
    simp only [List.map_cons, lcL, e, Option.bind_some]
    cases o with
    | none => exact ih r h
    | some d =>
      simp only [Option.map_eq_some_iff] at h
      obtain ⟨r', hr', rfl⟩ := h
      rw [Option.map_some]
      simp only [ih r' hr', Option.map_some, List.map_cons]
def lcF' (G : Glob) (cf : Nat → List D → Option D) (elt : E) (tg : Tg) (cond : E) (env : Env) (x : D) : Option (Option D) := (bindT tg x env).bind fun env1 =>
        (asC cond (ev G cf cond env1)).bind fun k => if k then (ev G cf elt env1).bind fun d => if d.noLck then some (some d.frz) else none else some none
theorem M_lcG {it : It} {tg : Tg} {elt cond : E} {A : Option (List α)} {ca : α → D} {cb : β → D} {f : α → Option (Option β)} (hi : Itr G cf it env A ca) (h : ∀ x o, f x = some o → lcF' G cf elt tg cond env (ca x) = some (o.map cb)) :
    Ev G cf (.lc elt tg it cond) env (A.bind fun l => lcG l f) (fun z => .lst .own (z.map cb)) := fun r hr => by
  obtain ⟨l, hl, hr⟩ := Option.bind_eq_some_iff.mp hr
  unfold lcG at hr
  split at hr
  · rename_i q
    have : ev G cf (.lc elt tg it cond) env = (items G cf it env).bind fun xs => (lcL (lcF' G cf elt tg cond env) xs).bind fun ds => if xs.length < line then some (.lst .own ds) else none := by rw [ev]; rfl
    rw [this, hi l hl, Option.bind_some, lcL_O l (fun x _ => h x) hr, Option.bind_some, List.length_map, if_pos q]
  · cases hr
/-- one turn of a comprehension -/
theorem lcF_of {tg : Tg} {elt cond : E} {env1 : Env} {x : D} {B : Option Bool} {Y : Option β} {d : β → D} {cb : β → D} (h1 : bindT tg x env = some env1) (h2 : ∀ k, B = some k → asC cond (ev G cf cond env1) = some k)
    (h3 : Ev G cf elt env1 Y d) (h4 : ∀ y, (d y).noLck = true ∧ (d y).frz = cb y) : ∀ o, (B.bind fun k => if k then Y.map some else some none) = some o → lcF' G cf elt tg cond env x = some (o.map cb) := fun o ho => by
  obtain ⟨k, hk, ho⟩ := Option.bind_eq_some_iff.mp ho
  unfold lcF'
  rw [h1, Option.bind_some, h2 k hk, Option.bind_some]
  cases k with
  | false => cases ho; rfl
  | true =>
    rw [if_pos rfl] at ho ⊢
    obtain ⟨y, hy, rfl⟩ := Option.map_eq_some_iff.mp ho
    rw [h3 y hy, Option.bind_some, if_pos (h4 y).1, (h4 y).2]
    rfl
theorem cond_no {o : Option D} : ∀ k, some true = some k → asC .nop o = some k := fun k h => by cases h; rfl
theorem cond_at {B : Option Bool} {cond : E} (hn : cond.isNop = false) (h : Ev G cf cond env B cBool.e) : ∀ k, B = some k → asC cond (ev G cf cond env) = some k := fun k hk => by rw [asC_val hn, h k hk]; rfl
theorem item_c (c : Cd α) : ∀ y, (c.e y).noLck = true ∧ (c.e y).frz = c.e y := fun y => ⟨c.nl y, c.frz y⟩
theorem item_own (c : Cd α) : ∀ y : List α, (D.lst .own (y.map c.e)).noLck = true ∧ (D.lst .own (y.map c.e)).frz = (cL c).e y := fun y => ⟨nl_own, frz_own⟩
/-! ### any, all -/
def anyO (l : List α) (f : α → Option Bool) : Option Bool := match l with
  | [] => some false
  | x :: r => (f x).bind fun b => if b then some true else anyO r f
def allO (l : List α) (f : α → Option Bool) : Option Bool := match l with
  | [] => some true
  | x :: r => (f x).bind fun b => if b then allO r f else some false
theorem anyL_O {ca : α → D} {F : D → Option Bool} : ∀ (l : List α) {f : α → Option Bool} {r : Bool}, (∀ x b, f x = some b → F (ca x) = some b) → anyO l f = some r → anyL F (l.map ca) = some r
  | [], f, r, _, h => h
  | x :: l, f, r, hF, h => by
    simp only [anyO, Option.bind_eq_some_iff] at h
    obtain ⟨b, hb, h⟩ := h
    simp only [List.map_cons, anyL, hF x b hb, Option.bind_some]
    cases b with
    | true => exact h
    | false => exact anyL_O l hF h
theorem allL_O {ca : α → D} {F : D → Option Bool} : ∀ (l : List α) {f : α → Option Bool} {r : Bool}, (∀ x b, f x = some b → F (ca x) = some b) → allO l f = some r → allL F (l.map ca) = some r
  | [], f, r, _, h => h
  | x :: l, f, r, hF, h => by
    simp only [allO, Option.bind_eq_some_iff] at h
    obtain ⟨b, hb, h⟩ := h
    simp only [List.map_cons, allL, hF x b hb, Option.bind_some]
    cases b with
    | true => exact allL_O l hF h
    | false => exact h
theorem M_any {it : It} {tg : Tg} {elt : E} {A : Option (List α)} {ca : α → D} {f : α → Option Bool} (hi : Itr G cf it env A ca) (h : ∀ x, ∃ env1, bindT tg (ca x) env = some env1 ∧ Ev G cf elt env1 (f x) cBool.e) :
    Ev G cf (.gen false elt tg it) env (A.bind fun l => anyO l f) cBool.e := fun r hr => by
  obtain ⟨l, hl, hr⟩ := Option.bind_eq_some_iff.mp hr
  rw [ev, hi l hl, Option.bind_some, if_neg Bool.false_ne_true, anyL_O l (fun x b hb => by
    obtain ⟨env1, h1, h2⟩ := h x
    rw [h1, Option.bind_some, h2 b hb]; rfl) hr]
  rfl
theorem M_all {it : It} {tg : Tg} {elt : E} {A : Option (List α)} {ca : α → D} {f : α → Option Bool} (hi : Itr G cf it env A ca) (h : ∀ x, ∃ env1, bindT tg (ca x) env = some env1 ∧ Ev G cf elt env1 (f x) cBool.e) :
    Ev G cf (.gen true elt tg it) env (A.bind fun l => allO l f) cBool.e := fun r hr => by
  obtain ⟨l, hl, hr⟩ := Option.bind_eq_some_iff.mp hr
  rw [ev, hi l hl, Option.bind_some, if_pos rfl, allL_O l (fun x b hb => by
    obtain ⟨env1, h1, h2⟩ := h x
    rw [h1, Option.bind_some, h2 b hb]; rfl) hr]
  rfl
theorem bind_name {k : Nat} {d : D} {env1 : Env} (hd : d.isFrz = true) (h : env.set k (some d) = env1) (hl : k < env.length) : bindT (.name k) d env = some env1 := by
  show setF env k d = _
  unfold setF
  rw [if_pos ⟨hl, hd⟩, h]
end
end PV

set_option Elab.async false
set_option linter.all false
set_option maxRecDepth 100000
set_option maxHeartbeats 4000000
/-! PV, part S: typed mirrors of statements, loops, defs. -/
namespace PV
section
variable {G : Glob} {cf : Nat → List D → Option D} {env : Env} {α β γ σ ρ ω μ : Type} {c : Cd α} {d d' : D} {e : E} {ss a b : Ss} {i : Nat}
def Bx (G : Glob) (cf : Nat → List D → Option D) (ss : Ss) (env : Env) (X : Option ω) (O : ω → Out → Prop) : Prop := ∀ r, X = some r → ∃ o, exs G cf ss env = some o ∧ O r o
def Out.isNx : Out → Bool
  | .nx _ => true
  | _ => false
/-- a block's end that is not its last row -/
def Ex (O : ω → Out → Prop) (r : ω) (o : Out) : Prop := O r o ∧ o.isNx = false
/-- a block that is left at its last row -/
def Jn (E : β → μ → Env) (m : μ) (o : Out) : Prop := ∃ b, o = .nx (E b m)
def Jm (E : β → μ → Env) (O : ω → Out → Prop) : Sum μ ω → Out → Prop
  | .inl m, o => ∃ b, o = .nx (E b m)
  | .inr r, o => O r o ∧ o.isNx = false
/-- a turn -/
inductive LR (σ ρ : Type) where
  | go (s : σ) | stop (s : σ) | ret (r : ρ)
def Lf (E : β → σ → Env) (s : σ) (o : Out) : Prop := ∃ b, o = .nx (E b s) ∨ o = .ct (E b s)
def Lr (E : β → σ → Env) (O : ρ → Out → Prop) : LR σ ρ → Out → Prop
  | .go s, o => ∃ b, o = .nx (E b s) ∨ o = .ct (E b s)
  | .stop s, o => ∃ b, o = .bk (E b s)
  | .ret r, o => O r o
/-- what a def hands back -/
def Rt (c : ρ → D) (r : ρ) (o : Out) : Prop := ∃ d, o = .rt d ∧ d.frz = c r
def RtO (c : ρ → D) (r : ρ) (o : Out) : Prop := o = .rt (c r)
def RtN (c : ρ → D) (r : ρ) (o : Out) : Prop := (∃ d, o = .rt d ∧ d.frz = c r) ∨ ((∃ e, o = .nx e) ∧ c r = .non)
variable {O : ω → Out → Prop}
theorem Bx.hoist {A : Option α} {K : α → Option ω} {c1 : α → D} (h : Ev G cf e env A c1) (k : ∀ x, P G cf e env (c1 x) → Bx G cf ss env (K x) O) : Bx G cf ss env (A.bind K) O := fun y hy => by
  obtain ⟨x, hx, hy⟩ := Option.bind_eq_some_iff.mp hy
  exact k x (h x hx) y hy
/-- a part that is only reckoned -/
theorem Bx.bind {A : Option α} {K : α → Option ω} (k : ∀ x, A = some x → Bx G cf ss env (K x) O) : Bx G cf ss env (A.bind K) O := fun y hy => by
  obtain ⟨x, hx, hy⟩ := Option.bind_eq_some_iff.mp hy
  exact k x hx y hy
theorem Bx.some_ {r : ω} (k : Bx G cf ss env (some r) O) : Bx G cf ss env (some r) O := k
theorem B_nil {r : ω} (h : O r (.nx env)) : Bx G cf .nil env (some r) O := fun y hy => by cases hy; exact ⟨_, exs_nil, h⟩
theorem B_step {s : S} {env' : Env} {X : Option ω} (h : ex G cf s env = some (.nx env')) (k : Bx G cf ss env' X O) : Bx G cf (.cons s ss) env X O := fun r hr => by
  obtain ⟨o, h1, h2⟩ := k r hr
  exact ⟨o, by rw [step_nx h]; exact h1, h2⟩
theorem B_asg {A : Option α} {K : α → Option ω} {c0 : α → D} (c1 : α → D) (h : Ev G cf e env A c0) (hf : ∀ x, (c0 x).noLck = true ∧ (c0 x).frz = c1 x) (hi : i < env.length) (k : ∀ x, Bx G cf ss (env.set i (some (c1 x))) (K x) O) :
    Bx G cf (.cons (.asg true i e) ss) env (A.bind K) O := fun y hy => by
  obtain ⟨x, hx, hy⟩ := Option.bind_eq_some_iff.mp hy
  exact B_step (by rw [asg_frz (h x hx) hi (hf x).1, (hf x).2]) (k x) y hy
theorem B_asgO {A : Option α} {K : α → Option ω} {c0 : α → D} (h : Ev G cf e env A c0) (hf : ∀ x, (c0 x).noLck = true) (hi : i < env.length) (k : ∀ x, Bx G cf ss (env.set i (some (c0 x))) (K x) O) :
    Bx G cf (.cons (.asg false i e) ss) env (A.bind K) O := fun y hy => by
  obtain ⟨x, hx, hy⟩ := Option.bind_eq_some_iff.mp hy
  exact B_step (asg_own (h x hx) hi (hf x)) (k x) y hy
theorem sEs_nil : setEs [] [] env = some env := rfl
theorem sEs_cons {is : List Nat} {ds : List D} {env' : Env} (hz : d.isFrz = true) (hi : i < env.length) (h : setEs is ds (env.set i (some d)) = some env') : setEs (i :: is) (d :: ds) env = some env' := by
  unfold setEs setF
  rw [if_pos ⟨hi, hz⟩, Option.bind_some, h]
/-- a, b = e -/
theorem B_asgT {is : List Nat} {A : Option α} {K : α → Option ω} {c0 : α → D} {ds : α → List D} {env' : α → Env} (h : Ev G cf e env A c0) (hd : ∀ x, c0 x = .tup (ds x)) (hs : ∀ x, setEs is (ds x) env = some (env' x)) (k : ∀ x, Bx G cf ss (env' x) (K x) O) :
    Bx G cf (.cons (.asgT is e) ss) env (A.bind K) O := fun y hy => by
  obtain ⟨x, hx, hy⟩ := Option.bind_eq_some_iff.mp hy
  refine B_step ?_ (k x) y hy
  rw [ex_asgTup, h x hx, hd x, Option.bind_some]
  simp only [hs x, Option.map_some]
theorem B_asgL {is : List Nat} {A : Option α} {K : α → Option ω} {c0 : α → D} {f : Fl} {ds : α → List D} {env' : α → Env} (h : Ev G cf e env A c0) (hd : ∀ x, c0 x = .lst f (ds x)) (hz : ∀ x, D.isFrzL (ds x) = true) (hs : ∀ x, setEs is (ds x) env = some (env' x)) (k : ∀ x, Bx G cf ss (env' x) (K x) O) :
    Bx G cf (.cons (.asgT is e) ss) env (A.bind K) O := fun y hy => by
  obtain ⟨x, hx, hy⟩ := Option.bind_eq_some_iff.mp hy
  refine B_step ?_ (k x) y hy
  rw [ex_asgTup, h x hx, hd x, Option.bind_some]
  simp only [hz x, hs x, if_true, Option.map_some]
theorem B_augA {x : Int} {A : Option Int} {K : Int → Option ω} (hx : getE env i = some (cInt.e x)) (h : Ev G cf e env A cInt.e) (hi : i < env.length) (k : ∀ y, Bx G cf ss (env.set i (some (cInt.e (x + y)))) (K y) O) : Bx G cf (.cons (.aug i .add e) ss) env (A.bind K) O := fun y hy => by
  obtain ⟨z, hz, hy⟩ := Option.bind_eq_some_iff.mp hy
  refine B_step ?_ (k z) y hy
  rw [ex_aug, hx, Option.bind_some, h z hz, Option.bind_some]
  show (some (D.int (x + z))).bind _ = _
  rw [Option.bind_some, setE_ok hi rfl]; rfl
theorem B_augS {x : Int} {A : Option Int} {K : Int → Option ω} (hx : getE env i = some (cInt.e x)) (h : Ev G cf e env A cInt.e) (hi : i < env.length) (k : ∀ y, Bx G cf ss (env.set i (some (cInt.e (x - y)))) (K y) O) : Bx G cf (.cons (.aug i .sub e) ss) env (A.bind K) O := fun y hy => by
  obtain ⟨z, hz, hy⟩ := Option.bind_eq_some_iff.mp hy
  refine B_step ?_ (k z) y hy
  rw [ex_aug, hx, Option.bind_some, h z hz, Option.bind_some]
  show (some (D.int (x - z))).bind _ = _
  rw [Option.bind_some, setE_ok hi rfl]; rfl
def appG (l : List α) (x : α) : Option (List α) := if l.length < line then some (l ++ [x]) else none
theorem B_app {l : List α} {A : Option α} {K : List α → Option ω} {c0 : α → D} (hx : getE env i = some (.lst .own (l.map c.e))) (h : Ev G cf e env A c0) (hf : ∀ x, (c0 x).noLck = true ∧ (c0 x).frz = c.e x) (k : ∀ l', Bx G cf ss (env.set i (some (.lst .own (l'.map c.e)))) (K l') O) :
    Bx G cf (.cons (.app i e) ss) env (A.bind fun x => (appG l x).bind K) O := fun y hy => by
  obtain ⟨x, hxx, hy⟩ := Option.bind_eq_some_iff.mp hy
  obtain ⟨l', hl, hy⟩ := Option.bind_eq_some_iff.mp hy
  unfold appG at hl
  split at hl
  · rename_i q
    cases hl
    refine B_step ?_ (k _) y hy
    rw [ex_app, h x hxx, Option.bind_some, hx]
    simp only [(hf x).1, List.length_map, q, and_self, if_true, (hf x).2, List.map_append, List.map_cons, List.map_nil]
  · cases hl
def setG (l : List α) (j : Int) (x : α) : Option (List α) := (L2.ixN l.length j).map fun n => l.set n x
theorem B_setI {l : List α} {A : Option α} {B : Option Int} {ke : E} {K : List α → Option ω} {c0 : α → D} (hx : getE env i = some (.lst .own (l.map c.e))) (h : Ev G cf e env A c0) (hf : ∀ x, (c0 x).noLck = true ∧ (c0 x).frz = c.e x) (hk : Ev G cf ke env B cInt.e)
    (k : ∀ l', Bx G cf ss (env.set i (some (.lst .own (l'.map c.e)))) (K l') O) : Bx G cf (.cons (.setI i ke e) ss) env (A.bind fun x => B.bind fun j => (setG l j x).bind K) O := fun y hy => by
  obtain ⟨x, hxx, hy⟩ := Option.bind_eq_some_iff.mp hy
  obtain ⟨j, hj, hy⟩ := Option.bind_eq_some_iff.mp hy
  obtain ⟨l', hl, hy⟩ := Option.bind_eq_some_iff.mp hy
  unfold setG at hl
  obtain ⟨n, hn, rfl⟩ := Option.map_eq_some_iff.mp hl
  refine B_step ?_ (k _) y hy
  rw [ex_setI, h x hxx, Option.bind_some, hk j hj, Option.bind_some, hx]
  show (ixOf (l.map c.e).length j).bind _ = _
  rw [List.length_map, show ixOf l.length j = some n from hn, Option.bind_some, if_pos ⟨(hf x).1, c.mz l⟩, (hf x).2, List.map_set]
/-! ### if -/
variable {ce : E} {C : Option Bool}
theorem exs_rest {s : S} {o : Out} (h : ex G cf s env = some o) (n : o.isNx = false) : exs G cf (.cons s ss) env = some o := by
  rw [exs_cons, h]
  cases o <;> first | rfl | cases n
/-- the first branch leaves -/
theorem B_ite1 {T R : Option ω} (hc : Ev G cf ce env C cBool.e) (ha : Bx G cf a env T (Ex O)) (hr : Bx G cf ss env R O) : Bx G cf (.cons (.ite ce a .nil) ss) env (C.bind fun k => if k then T else R) O := fun y hy => by
  obtain ⟨k, hk, hy⟩ := Option.bind_eq_some_iff.mp hy
  have h := hc k hk
  cases k with
  | true =>
    obtain ⟨o, h1, h2, h3⟩ := ha y hy
    exact ⟨o, exs_rest (by rw [ite_tt h, h1]) h3, h2⟩
  | false => exact B_step (ite_skip h) hr y hy
/-- both leave -/
theorem B_ite2 {T R : Option ω} (hc : Ev G cf ce env C cBool.e) (ha : Bx G cf a env T (Ex O)) (hb : Bx G cf b env R (Ex O)) : Bx G cf (.cons (.ite ce a b) ss) env (C.bind fun k => if k then T else R) O := fun y hy => by
  obtain ⟨k, hk, hy⟩ := Option.bind_eq_some_iff.mp hy
  have h := hc k hk
  cases k with
  | true =>
    obtain ⟨o, h1, h2, h3⟩ := ha y hy
    exact ⟨o, exs_rest (by rw [ite_tt h, h1]) h3, h2⟩
  | false =>
    obtain ⟨o, h1, h2, h3⟩ := hb y hy
    exact ⟨o, exs_rest (by rw [ite_ff h, h1]) h3, h2⟩
/-- the first branch leaves, the other goes on -/
theorem B_ite3 {T : Option ω} {R : Option μ} {K : μ → Option ω} (E : β → μ → Env) (hc : Ev G cf ce env C cBool.e) (ha : Bx G cf a env T (Ex O)) (hb : Bx G cf b env R (Jn E)) (k : ∀ b m, Bx G cf ss (E b m) (K m) O) :
    Bx G cf (.cons (.ite ce a b) ss) env (C.bind fun k => if k then T else R.bind K) O := fun y hy => by
  obtain ⟨q, hk, hy⟩ := Option.bind_eq_some_iff.mp hy
  have h := hc q hk
  cases q with
  | true =>
    obtain ⟨o, h1, h2, h3⟩ := ha y hy
    exact ⟨o, exs_rest (by rw [ite_tt h, h1]) h3, h2⟩
  | false =>
    obtain ⟨m, hm, hy⟩ := Option.bind_eq_some_iff.mp hy
    obtain ⟨o, h1, b, rfl⟩ := hb m hm
    exact B_step (by rw [ite_ff h, h1]) (k b m) y hy
/-- the second leaves -/
theorem B_ite4 {T : Option μ} {R : Option ω} {K : μ → Option ω} (E : β → μ → Env) (hc : Ev G cf ce env C cBool.e) (ha : Bx G cf a env T (Jn E)) (hb : Bx G cf b env R (Ex O)) (k : ∀ b m, Bx G cf ss (E b m) (K m) O) :
    Bx G cf (.cons (.ite ce a b) ss) env (C.bind fun k => if k then T.bind K else R) O := fun y hy => by
  obtain ⟨q, hk, hy⟩ := Option.bind_eq_some_iff.mp hy
  have h := hc q hk
  cases q with
  | true =>
    obtain ⟨m, hm, hy⟩ := Option.bind_eq_some_iff.mp hy
    obtain ⟨o, h1, b, rfl⟩ := ha m hm
    exact B_step (by rw [ite_tt h, h1]) (k b m) y hy
  | false =>
    obtain ⟨o, h1, h2, h3⟩ := hb y hy
    exact ⟨o, exs_rest (by rw [ite_ff h, h1]) h3, h2⟩
/-- both go on -/
theorem B_iteJ {T R : Option μ} {K : μ → Option ω} (E : β → μ → Env) (hc : Ev G cf ce env C cBool.e) (ha : Bx G cf a env T (Jn E)) (hb : Bx G cf b env R (Jn E)) (k : ∀ b m, Bx G cf ss (E b m) (K m) O) :
    Bx G cf (.cons (.ite ce a b) ss) env (C.bind fun k => (if k then T else R).bind K) O := fun y hy => by
  obtain ⟨q, hk, hy⟩ := Option.bind_eq_some_iff.mp hy
  obtain ⟨m, hm, hz⟩ := Option.bind_eq_some_iff.mp hy
  have h := hc q hk
  cases q with
  | true =>
    obtain ⟨o, h1, b, rfl⟩ := ha m hm
    exact B_step (by rw [ite_tt h, h1]) (k b m) y hz
  | false =>
    obtain ⟨o, h1, b, rfl⟩ := hb m hm
    exact B_step (by rw [ite_ff h, h1]) (k b m) y hz
/-- whatever they do -/
theorem B_iteM {T R : Option (Sum μ ω)} {K : μ → Option ω} (E : β → μ → Env) (hc : Ev G cf ce env C cBool.e) (ha : Bx G cf a env T (Jm E O)) (hb : Bx G cf b env R (Jm E O)) (k : ∀ b m, Bx G cf ss (E b m) (K m) O) :
    Bx G cf (.cons (.ite ce a b) ss) env (C.bind fun k => (if k then T else R).bind (Sum.elim K some)) O := fun y hy => by
  obtain ⟨q, hk, hy⟩ := Option.bind_eq_some_iff.mp hy
  obtain ⟨m, hm, hy⟩ := Option.bind_eq_some_iff.mp hy
  have h := hc q hk
  have fin : ∀ o, ex G cf (.ite ce a b) env = some o → Jm E O m o → ∃ o, exs G cf (.cons (.ite ce a b) ss) env = some o ∧ O y o := fun o ho hj => by
    cases m with
    | inl m =>
      obtain ⟨b, rfl⟩ := hj
      exact B_step ho (k b m) y hy
    | inr w =>
      obtain ⟨h1, h2⟩ := hj
      cases hy
      exact ⟨o, exs_rest ho h2, h1⟩
  cases q with
  | true =>
    obtain ⟨o, h1, h2⟩ := ha m hm
    exact fin o (by rw [ite_tt h, h1]) h2
  | false =>
    obtain ⟨o, h1, h2⟩ := hb m hm
    exact fin o (by rw [ite_ff h, h1]) h2
/-! ### for -/
def foldO (l : List γ) (s : σ) (f : σ → γ → Option σ) : Option σ := match l with
  | [] => some s
  | x :: r => (f s x).bind fun s' => foldO r s' f
def loopR (l : List γ) (s : σ) (f : σ → γ → Option (LR σ ρ)) : Option (Sum σ ρ) := match l with
  | [] => some (.inl s)
  | x :: r => (f s x).bind fun q => match q with
    | .go s' => loopR r s' f
    | .stop s' => some (.inl s')
    | .ret w => some (.inr w)
theorem forL_O {tg : Tg} {body : Ss} {E : β → σ → Env} {t : γ → D} {f : σ → γ → Option σ} (hb : ∀ b s y s', f s y = some s' → ∃ o, lp G cf tg body (t y) (E b s) = some o ∧ Lf E s' o) : ∀ (l : List γ) (b : β) (s r : σ), foldO l s f = some r → ∃ b', forL (lp G cf tg body) (l.map t) (E b s) = some (.nx (E b' r))
  | [], b, s, r, h => by simp only [foldO, Option.some.injEq] at h; subst h; exact ⟨b, rfl⟩
  | y :: l, b, s, r, h => by
    simp only [foldO, Option.bind_eq_some_iff] at h
    obtain ⟨s', h1, h2⟩ := h
    obtain ⟨o, h3, b1, h4⟩ := hb b s y s' h1
    obtain ⟨b2, h5⟩ := forL_O hb l b1 s' r h2
    refine ⟨b2, ?_⟩
    rcases h4 with rfl | rfl <;> simp only [List.map_cons, forL, h3, Option.bind_some, h5]
theorem forL_R {tg : Tg} {body : Ss} {E : β → σ → Env} {t : γ → D} {f : σ → γ → Option (LR σ ρ)} {O' : ρ → Out → Prop} (hr : ∀ r o, O' r o → ∃ d, o = .rt d) (hb : ∀ b s y q, f s y = some q → ∃ o, lp G cf tg body (t y) (E b s) = some o ∧ Lr E O' q o) : ∀ (l : List γ) (b : β) (s : σ) (r : Sum σ ρ), loopR l s f = some r →
    ∃ o, forL (lp G cf tg body) (l.map t) (E b s) = some o ∧ match r with
      | .inl s' => ∃ b', o = .nx (E b' s')
      | .inr w => O' w o
  | [], b, s, r, h => by simp only [loopR, Option.some.injEq] at h; subst h; exact ⟨_, rfl, b, rfl⟩
  | y :: l, b, s, r, h => by
    simp only [loopR, Option.bind_eq_some_iff] at h
    obtain ⟨q, h1, h2⟩ := h
    obtain ⟨o, h3, h4⟩ := hb b s y q h1
    cases q with
    | go s' =>
      obtain ⟨b1, h4⟩ := h4
      obtain ⟨o2, h5, h6⟩ := forL_R hr hb l b1 s' r h2
      refine ⟨o2, ?_, h6⟩
      rcases h4 with rfl | rfl <;> simp only [List.map_cons, forL, h3, Option.bind_some, h5]
    | stop s' =>
      obtain ⟨b1, rfl⟩ := h4
      cases h2
      exact ⟨.nx (E b1 s'), by simp only [List.map_cons, forL, h3, Option.bind_some], b1, rfl⟩
    | ret w =>
      cases h2
      obtain ⟨d, rfl⟩ := hr w o h4
      exact ⟨_, by simp only [List.map_cons, forL, h3, Option.bind_some], h4⟩
theorem It_seqS {a : E} {A : Option (List α)} {t : α → D} (h : Itr G cf (.seq a) (selE [] 0 env) A t) : ItrS G cf (.seq a) env A t := fun l hl => by rw [itemsS_seq]; exact h l hl
theorem It_r1S {a : E} {A : Option (List α)} {t : α → D} (h : Itr G cf (.rng1 a) env A t) : ItrS G cf (.rng1 a) env A t := fun l hl => by rw [itemsS_rng1]; exact h l hl
theorem It_r2S {a b : E} {A : Option (List α)} {t : α → D} (h : Itr G cf (.rng2 a b) env A t) : ItrS G cf (.rng2 a b) env A t := fun l hl => by rw [itemsS_rng2]; exact h l hl
theorem It_zS {a b : E} {A : Option (List α)} {t : α → D} (h : Itr G cf (.zip a b) env A t) : ItrS G cf (.zip a b) env A t := fun l hl => by rw [itemsS_zip]; exact h l hl
theorem getE_selC {x : α} {lk : List Nat} (h : getE env i = some (c.e x)) : getE (selE lk 0 env) i = some (c.e x) := getE_sel h (noOwn_of _ (c.fz x))
theorem getE_selF {l : List α} {fl : Fl} {lk : List Nat} (hf : fl.lock = fl) (h : getE env i = some (.lst fl (l.map c.e))) : getE (selE lk 0 env) i = some (.lst fl (l.map c.e)) := getE_sel h (by
  simp only [D.noOwn, noOwnL_map c l, Bool.and_true]
  cases fl <;> first | rfl | cases hf)
theorem B_for {tg : Tg} {it : It} {body : Ss} {E : β → σ → Env} {t : γ → D} {A : Option (List γ)} {f : σ → γ → Option σ} {K : σ → Option ω} {b0 : β} {s0 : σ} {E1 : β → σ → γ → Env} (hi : ItrS G cf it (E b0 s0) A t) (hl : ∀ b s, (E b s).length = (E b0 s0).length)
    (h1 : ∀ b s y, bindT tg (t y) (E b s) = some (E1 b s y)) (h2 : ∀ b s y, Bx G cf body (E1 b s y) (f s y) (Lf E)) (k : ∀ b s, Bx G cf ss (E b s) (K s) O) : Bx G cf (.cons (.for_ [] tg it body) ss) (E b0 s0) (A.bind fun l => (foldO l s0 f).bind K) O := fun y hy => by
  obtain ⟨l, hl0, hy⟩ := Option.bind_eq_some_iff.mp hy
  obtain ⟨s, hs, hy⟩ := Option.bind_eq_some_iff.mp hy
  obtain ⟨b, hb⟩ := forL_O (G := G) (cf := cf) (tg := tg) (body := body) (E := E) (t := t) (f := f) (fun b s y s' h => by
    obtain ⟨o, q1, q2⟩ := h2 b s y s' h
    exact ⟨o, by unfold lp; rw [h1 b s y]; exact q1, q2⟩) l b0 s0 s hs
  exact B_step (for_nx (hi l hl0) hb (hl b s).symm) (k b s) y hy
theorem B_forR {tg : Tg} {it : It} {body : Ss} {E : β → σ → Env} {t : γ → D} {A : Option (List γ)} {f : σ → γ → Option (LR σ ρ)} {K : σ → Option ω} {inj : ρ → ω} {b0 : β} {s0 : σ} {E1 : β → σ → γ → Env} {O' : ρ → Out → Prop} (hr : ∀ r o, O' r o → ∃ d, o = .rt d) (hO : ∀ r o, O' r o → O (inj r) o) (hi : ItrS G cf it (E b0 s0) A t) (hl : ∀ b s, (E b s).length = (E b0 s0).length)
    (h1 : ∀ b s y, bindT tg (t y) (E b s) = some (E1 b s y)) (h2 : ∀ b s y, Bx G cf body (E1 b s y) (f s y) (Lr E O')) (k : ∀ b s, Bx G cf ss (E b s) (K s) O) : Bx G cf (.cons (.for_ [] tg it body) ss) (E b0 s0) (A.bind fun l => (loopR l s0 f).bind (Sum.elim K fun r => some (inj r))) O := fun y hy => by
  obtain ⟨l, hl0, hy⟩ := Option.bind_eq_some_iff.mp hy
  obtain ⟨s, hs, hy⟩ := Option.bind_eq_some_iff.mp hy
  obtain ⟨o, ho, hq⟩ := forL_R (G := G) (cf := cf) (tg := tg) (body := body) (E := E) (t := t) (f := f) hr (fun b s y s' h => by
    obtain ⟨o, q1, q2⟩ := h2 b s y s' h
    exact ⟨o, by unfold lp; rw [h1 b s y]; exact q1, q2⟩) l b0 s0 s hs
  cases s with
  | inl s' =>
    obtain ⟨b, rfl⟩ := hq
    exact B_step (for_nx (hi l hl0) ho (hl b s').symm) (k b s') y hy
  | inr w =>
    cases hy
    have hq' : O' w o := hq
    obtain ⟨d, rfl⟩ := hr w o hq'
    exact ⟨_, by rw [step_rt (for_rt (hi l hl0) ho)], hO w _ hq'⟩
/-! ### while -/
def whileO (n : Nat) (c : σ → Option Bool) (f : σ → Option σ) (s : σ) : Option σ := match n with
  | 0 => none
  | n + 1 => (c s).bind fun k => if k then (f s).bind fun s' => whileO n c f s' else some s
def whileR (n : Nat) (c : σ → Option Bool) (f : σ → Option (LR σ ρ)) (s : σ) : Option (Sum σ ρ) := match n with
  | 0 => none
  | n + 1 => (c s).bind fun k => if k then (f s).bind fun q => match q with
    | .go s' => whileR n c f s'
    | .stop s' => some (.inl s')
    | .ret w => some (.inr w)
    else some (.inl s)
theorem whileL_O {body : Ss} {E : β → σ → Env} {cs : σ → Option Bool} {f : σ → Option σ} (hc : ∀ b s, Ev G cf ce (E b s) (cs s) cBool.e) (hb : ∀ b s, Bx G cf body (E b s) (f s) (Lf E)) : ∀ (n : Nat) (b : β) (s r : σ), whileO n cs f s = some r →
    ∃ b', whileL (fun e => asBl (ev G cf ce e)) (fun e => exs G cf body e) n (E b s) = some (.nx (E b' r))
  | 0, b, s, r, h => by simp [whileO] at h
  | n + 1, b, s, r, h => by
    simp only [whileO, Option.bind_eq_some_iff] at h
    obtain ⟨k, hk, h⟩ := h
    have e := hc b s k hk
    simp only [whileL, e]
    show ∃ b', (some k).bind _ = _
    rw [Option.bind_some]
    cases k with
    | false => cases h; exact ⟨b, rfl⟩
    | true =>
      rw [if_pos rfl] at h ⊢
      obtain ⟨s', h1, h2⟩ := Option.bind_eq_some_iff.mp h
      obtain ⟨o, h3, b1, h4⟩ := hb b s s' h1
      obtain ⟨b2, h5⟩ := whileL_O hc hb n b1 s' r h2
      refine ⟨b2, ?_⟩
      rcases h4 with rfl | rfl <;> rw [h3, Option.bind_some] <;> exact h5
theorem whileL_R {body : Ss} {E : β → σ → Env} {cs : σ → Option Bool} {f : σ → Option (LR σ ρ)} {O' : ρ → Out → Prop} (hr : ∀ r o, O' r o → ∃ d, o = .rt d) (hc : ∀ b s, Ev G cf ce (E b s) (cs s) cBool.e) (hb : ∀ b s, Bx G cf body (E b s) (f s) (Lr E O')) : ∀ (n : Nat) (b : β) (s : σ) (r : Sum σ ρ), whileR n cs f s = some r →
    ∃ o, whileL (fun e => asBl (ev G cf ce e)) (fun e => exs G cf body e) n (E b s) = some o ∧ match r with
      | .inl s' => ∃ b', o = .nx (E b' s')
      | .inr w => O' w o
  | 0, b, s, r, h => by simp [whileR] at h
  | n + 1, b, s, r, h => by
    simp only [whileR, Option.bind_eq_some_iff] at h
    obtain ⟨k, hk, h⟩ := h
    have e := hc b s k hk
    simp only [whileL, e]
    show ∃ o, (some k).bind _ = _ ∧ _
    rw [Option.bind_some]
    cases k with
    | false => cases h; exact ⟨_, rfl, b, rfl⟩
    | true =>
      rw [if_pos rfl] at h ⊢
      obtain ⟨q, h1, h2⟩ := Option.bind_eq_some_iff.mp h
      obtain ⟨o, h3, h4⟩ := hb b s q h1
      cases q with
      | go s' =>
        obtain ⟨b1, h4⟩ := h4
        obtain ⟨o2, h5, h6⟩ := whileL_R hr hc hb n b1 s' r h2
        refine ⟨o2, ?_, h6⟩
        rcases h4 with rfl | rfl <;> rw [h3, Option.bind_some] <;> exact h5
      | stop s' =>
        obtain ⟨b1, rfl⟩ := h4
        cases h2
        exact ⟨.nx (E b1 s'), by rw [h3, Option.bind_some], b1, rfl⟩
      | ret w =>
        cases h2
        obtain ⟨d, rfl⟩ := hr w o h4
        exact ⟨_, by rw [h3, Option.bind_some], h4⟩
theorem ex_while {body : Ss} : ex G cf (.while_ ce body) env = whileL (fun e => asBl (ev G cf ce e)) (fun e => exs G cf body e) turns env := by rw [ex]
theorem B_while {body : Ss} {E : β → σ → Env} {cs : σ → Option Bool} {f : σ → Option σ} {K : σ → Option ω} {b0 : β} {s0 : σ} (hc : ∀ b s, Ev G cf ce (E b s) (cs s) cBool.e) (hb : ∀ b s, Bx G cf body (E b s) (f s) (Lf E)) (k : ∀ b s, Bx G cf ss (E b s) (K s) O) :
    Bx G cf (.cons (.while_ ce body) ss) (E b0 s0) ((whileO turns cs f s0).bind K) O := fun y hy => by
  obtain ⟨s, hs, hy⟩ := Option.bind_eq_some_iff.mp hy
  obtain ⟨b, h⟩ := whileL_O hc hb turns b0 s0 s hs
  exact B_step (by rw [ex_while, h]) (k b s) y hy
theorem B_whileR {body : Ss} {E : β → σ → Env} {cs : σ → Option Bool} {f : σ → Option (LR σ ρ)} {K : σ → Option ω} {inj : ρ → ω} {b0 : β} {s0 : σ} {O' : ρ → Out → Prop} (hr : ∀ r o, O' r o → ∃ d, o = .rt d) (hO : ∀ r o, O' r o → O (inj r) o) (hc : ∀ b s, Ev G cf ce (E b s) (cs s) cBool.e) (hb : ∀ b s, Bx G cf body (E b s) (f s) (Lr E O')) (k : ∀ b s, Bx G cf ss (E b s) (K s) O) :
    Bx G cf (.cons (.while_ ce body) ss) (E b0 s0) ((whileR turns cs f s0).bind (Sum.elim K fun r => some (inj r))) O := fun y hy => by
  obtain ⟨s, hs, hy⟩ := Option.bind_eq_some_iff.mp hy
  obtain ⟨o, h, hq⟩ := whileL_R hr hc hb turns b0 s0 s hs
  cases s with
  | inl s' =>
    obtain ⟨b, rfl⟩ := hq
    exact B_step (by rw [ex_while, h]) (k b s') y hy
  | inr w =>
    cases hy
    have hq' : O' w o := hq
    obtain ⟨d, rfl⟩ := hr w o hq'
    exact ⟨_, by rw [step_rt (by rw [ex_while, h])], hO w _ hq'⟩
/-! ### the end of a block -/
theorem B_ret {A : Option α} {c0 : α → D} {g : α → ω} (h : Ev G cf e env A c0) (hn : ∀ x, (c0 x).noLck = true) (hO : ∀ x, O (g x) (.rt (c0 x))) : Bx G cf (.cons (.ret e) ss) env (A.bind fun x => some (g x)) O := fun y hy => by
  obtain ⟨x, hx, hy⟩ := Option.bind_eq_some_iff.mp hy
  cases hy
  exact ⟨_, step_rt (ret_eq (h x hx) (hn x)), hO x⟩
/-- a list display that is new -/
def ownE (d : D) : D := match d with
  | .lst _ l => .lst .own l
  | d => d
theorem ownE_ok : ∀ {d : D}, d.isFrz = true → (ownE d).noLck = true ∧ (ownE d).frz = d
  | .non, _ => ⟨rfl, rfl⟩
  | .bl _, _ => ⟨rfl, rfl⟩
  | .int _, _ => ⟨rfl, rfl⟩
  | .str _, _ => ⟨rfl, rfl⟩
  | .scr _, _ => ⟨rfl, rfl⟩
  | .tup l, h => ⟨noLck_of _ h, frz_of _ h⟩
  | .lst f l, h => by
    have z := noLck_of _ h
    have y := frz_of _ h
    simp only [isFrz_lst, Bool.and_eq_true, beq_iff_eq] at h
    simp only [noLck_lst, Bool.and_eq_true] at z
    refine ⟨?_, ?_⟩
    · show D.noLck (.lst .own l) = true
      rw [noLck_lst, z.2]; rfl
    · show D.frz (.lst .own l) = _
      rw [frz_lst, ← frz_lst (f := f)]
      exact y
theorem item_ownE (c : Cd α) : ∀ z, (ownE (c.e z)).noLck = true ∧ (ownE (c.e z)).frz = c.e z := fun z => ownE_ok (c.fz z)
theorem fz_nil : D.isFrzL [] = true := rfl
theorem fz_cons {ds : List D} (h : d.isFrz = true) (h' : D.isFrzL ds = true) : D.isFrzL (d :: ds) = true := by rw [isFrzL_cons, h, h']; rfl
theorem B_cast {env' : Env} {X : Option ω} (h : env = env') (k : Bx G cf ss env' X O) : Bx G cf ss env X O := h ▸ k
theorem map_some {c : Cd α} {l : List α} : List.map (cO c).e (List.map some l) = List.map c.e l := by
  rw [List.map_map]
  rfl
theorem B_mv {j : Nat} {l : List α} {K : Option ω} (h : getE env j = some (.lst .own (l.map c.e))) (hij : i ≠ j) (hi : i < env.length) (k : Bx G cf ss ((env.set j none).set i (some (.lst .own (l.map c.e)))) K O) : Bx G cf (.cons (.mv i j) ss) env K O := by
  refine B_step ?_ k
  rw [ex_mv, h, Option.bind_some, if_pos ⟨hij, hi, nl_own⟩]
theorem B_retMv {r : ω} (h : getE env i = some d) (hn : d.noLck = true) (hO : O r (.rt d)) : Bx G cf (.cons (.retMv i) ss) env (some r) O := fun y hy => by
  cases hy
  exact ⟨_, step_rt (by rw [ex_retMv, h, Option.bind_some, if_pos hn]), hO⟩
theorem B_retN {r : ω} (hO : O r (.rt .non)) : Bx G cf (.cons .retN ss) env (some r) O := fun y hy => by
  cases hy
  exact ⟨_, step_rt ex_retN, hO⟩
theorem B_brk {r : ω} (hO : O r (.bk env)) : Bx G cf (.cons .brk ss) env (some r) O := fun y hy => by
  cases hy
  exact ⟨_, exs_rest ex_brk rfl, hO⟩
theorem B_cnt {r : ω} (hO : O r (.ct env)) : Bx G cf (.cons .cnt ss) env (some r) O := fun y hy => by
  cases hy
  exact ⟨_, exs_rest ex_cnt rfl, hO⟩
theorem B_expr {A : Option α} {c0 : α → D} {K : Option ω} (h : Ev G cf e env A c0) (k : Bx G cf ss env K O) : Bx G cf (.cons (.expr e) ss) env (A.bind fun _ => K) O := fun y hy => by
  obtain ⟨x, hx, hy⟩ := Option.bind_eq_some_iff.mp hy
  exact B_step (by rw [ex_expr, h x hx]; rfl) k y hy
theorem B_pass {K : Option ω} (k : Bx G cf ss env K O) : Bx G cf (.cons .pass ss) env K O := B_step ex_pass k
theorem B_fz {l : List α} {K : Option ω} (h : getE env i = some (.lst .own (l.map c.e))) (k : Bx G cf ss (env.set i (some ((cL c).e l))) K O) : Bx G cf (.cons (.fz i) ss) env K O := by
  refine B_step ?_ k
  rw [ex_fz, h, Option.bind_some, if_pos nl_own, frz_own]
  rfl
/-! ### a def -/
theorem all_nil : ([] : List D).all D.okD = true := rfl
theorem all_cons {ds : List D} (h : d.okD = true) (h' : ds.all D.okD = true) : (d :: ds).all D.okD = true := by rw [List.all_cons, h, h']; rfl
theorem ok_c {x : α} : (c.e x).okD = true := okD_nl (c.nl x)
theorem ok_fl {fl : Fl} {l : List α} (hf : fl.lock = fl) : (D.lst fl (l.map c.e)).okD = true := by
  cases fl with
  | own => cases hf
  | frz => exact okD_nl (by rw [noLck_lst, c.mn]; rfl)
  | lck => exact okD_no (by simp only [D.noOwn, noOwnL_map c l]; rfl)
theorem call_Bx {Pr : List Df} {n : Nat} {ds : List D} {df : Df} {X : Option ρ} {cc : ρ → D} (hd : Pr[i]? = some df) (hl : ds.length = df.pars) (hs : df.pars ≤ df.slots) (ok : ds.all D.okD = true) (hf : df.fr = true)
    (h : Bx G (call G Pr n) df.body (ds.map some ++ List.replicate (df.slots - df.pars) none) X (Rt cc)) : ∀ r, X = some r → call G Pr (n + 1) i ds = some (cc r) := fun r hr => by
  obtain ⟨o, h1, d, rfl, h3⟩ := h r hr
  rw [call_rt df hd hl hs ok h1, if_pos hf, h3]
theorem call_BxO {Pr : List Df} {n : Nat} {ds : List D} {df : Df} {X : Option ρ} {cc : ρ → D} (hd : Pr[i]? = some df) (hl : ds.length = df.pars) (hs : df.pars ≤ df.slots) (ok : ds.all D.okD = true) (hf : df.fr = false)
    (h : Bx G (call G Pr n) df.body (ds.map some ++ List.replicate (df.slots - df.pars) none) X (RtO cc)) : ∀ r, X = some r → call G Pr (n + 1) i ds = some (cc r) := fun r hr => by
  obtain ⟨o, h1, h2⟩ := h r hr
  have h2 : o = .rt (cc r) := h2
  subst h2
  rw [call_rt df hd hl hs ok h1, if_neg (by rw [hf]; simp)]
theorem call_BxN {Pr : List Df} {n : Nat} {ds : List D} {df : Df} {X : Option ρ} {cc : ρ → D} (hd : Pr[i]? = some df) (hl : ds.length = df.pars) (hs : df.pars ≤ df.slots) (ok : ds.all D.okD = true) (hf : df.fr = true)
    (h : Bx G (call G Pr n) df.body (ds.map some ++ List.replicate (df.slots - df.pars) none) X (RtN cc)) : ∀ r, X = some r → call G Pr (n + 1) i ds = some (cc r) := fun r hr => by
  obtain ⟨o, h1, h2⟩ := h r hr
  rcases h2 with ⟨d, rfl, h3⟩ | ⟨⟨e, rfl⟩, h3⟩
  · rw [call_rt df hd hl hs ok h1, if_pos hf, h3]
  · rw [call_eq df hd hl hs ok, h1, h3]
theorem lt_ {a b : Nat} (h : Nat.ble (a + 1) b = true) : a < b := Nat.le_of_ble_eq_true h
theorem bind_tup {is : List Nat} {l : List D} {env1 : Env} (h : d = .tup l) (h' : setEs is l env = some env1) : bindT (.tup is) d env = some env1 := by subst h; exact h'
theorem fl_ne {f : Fl} (h : f.lock = f) : f ≠ .own := by
  rintro rfl
  cases h
theorem rt_c (cc : Cd ρ) (r : ρ) : Rt cc.e r (.rt (cc.e r)) := ⟨_, rfl, cc.frz r⟩
theorem rt_f {cc : ρ → D} {r : ρ} {d : D} (h : d.frz = cc r) : Rt cc r (.rt d) := ⟨_, rfl, h⟩
theorem Rt.is {cc : ρ → D} : ∀ r o, Rt cc r o → ∃ d, o = .rt d := fun r o ⟨d, h, _⟩ => ⟨d, h⟩
theorem RtO.is {cc : ρ → D} : ∀ r o, RtO cc r o → ∃ d, o = .rt d := fun r o h => ⟨_, h⟩
end
end PV

/-! plain mathematics of cubes: no program here -/
namespace Cub
def Sg (c : Nat) : Prop := c = 48 ∨ c = 49 ∨ c = 45
def isInZ : List Nat → List Nat → Bool
  | c :: cs, x :: xs => (c == 45 || c == x) && isInZ cs xs
  | _, _ => true
def insP (p : Nat × Nat) : Bool := p.2 != 45 && p.1 != p.2
def isInside (a b : List Nat) : Bool := !(a.zip b).any insP
def Code (x : List Nat) : Prop := ∀ y ∈ x, y = 48 ∨ y = 49
def Cube (x : List Nat) : Prop := ∀ y ∈ x, Sg y
def isIn (c x : List Nat) : Bool := !((List.range x.length).any fun k => c.getD k 0 != 45 && c.getD k 0 != x.getD k 0)
theorem isIn_eq : ∀ (c x : List Nat), c.length = x.length → isIn c x = isInZ c x
  | [], [], _ => by simp [isIn, isInZ]
  | [], _ :: _, h => by simp at h
  | _ :: _, [], h => by simp at h
  | c :: cs, x :: xs, h => by
    have ih := isIn_eq cs xs (by simpa using h)
    unfold isIn at ih ⊢
    rw [List.length_cons, List.range_succ_eq_map, List.any_cons, List.any_map]
    simp only [isInZ, ← ih, Function.comp_def, List.getD_cons_zero, List.getD_cons_succ, Bool.not_or]
    congr 1
    cases h1 : (c == 45) <;> cases h2 : (c == x) <;> simp_all [bne]
theorem inside_in : ∀ (a b x : List Nat), a.length = b.length → b.length = x.length → isInside a b = true → isInZ a x = true → isInZ b x = true
  | [], [], _, _, _, _, _ => by simp [isInZ]
  | a :: as, b :: bs, [], _, h, _, _ => by simp at h
  | a :: as, b :: bs, x :: xs, h1, h2, hi, h => by
    simp only [isInside, List.zip_cons_cons, List.any_cons, Bool.not_or, Bool.and_eq_true] at hi
    simp only [isInZ, Bool.and_eq_true] at h ⊢
    refine ⟨?_, inside_in as bs xs (by simpa using h1) (by simpa using h2) hi.2 h.2⟩
    have z := hi.1
    simp only [insP, Bool.not_and, Bool.or_eq_true, Bool.not_eq_true', bne_eq_false_iff_eq, beq_iff_eq] at z h ⊢
    rcases z with z | z
    · exact .inl z
    · rw [← z]; exact h.1
  | [], _ :: _, _, h, _, _, _ => by simp at h
  | _ :: _, [], _, h, _, _, _ => by simp at h
theorem some_code : ∀ (a : List Nat), Cube a → ∃ x, x.length = a.length ∧ Code x ∧ isInZ a x = true
  | [], _ => ⟨[], rfl, fun y h => (by cases h), rfl⟩
  | a :: as, h => by
    obtain ⟨x, h1, h2, h3⟩ := some_code as fun y hy => h y (List.mem_cons_of_mem _ hy)
    rcases h a List.mem_cons_self with z | z | z
    · exact ⟨48 :: x, by simp [h1], fun y hy => (List.mem_cons.mp hy).elim (fun e => .inl e) (h2 y), by simp [isInZ, z, h3]⟩
    · exact ⟨49 :: x, by simp [h1], fun y hy => (List.mem_cons.mp hy).elim (fun e => .inr e) (h2 y), by simp [isInZ, z, h3]⟩
    · exact ⟨48 :: x, by simp [h1], fun y hy => (List.mem_cons.mp hy).elim (fun e => .inl e) (h2 y), by simp [isInZ, z, h3]⟩
theorem not_inside : ∀ (a b : List Nat), a.length = b.length → Cube a → Cube b → isInside a b = false → ∃ x, x.length = a.length ∧ Code x ∧ isInZ a x = true ∧ isInZ b x = false
  | [], [], _, _, _, h => by simp [isInside] at h
  | a :: as, b :: bs, hl, ha, hb, h => by
    have ha' : Cube as := fun y hy => ha y (List.mem_cons_of_mem _ hy)
    have hb' : Cube bs := fun y hy => hb y (List.mem_cons_of_mem _ hy)
    by_cases q : insP (a, b) = true
    · obtain ⟨x, h1, h2, h3⟩ := some_code as ha'
      simp only [insP, Bool.and_eq_true, bne_iff_ne, ne_eq] at q
      -- a sign that differs from b's
      obtain ⟨s, s1, s2, s3⟩ : ∃ s, (s = 48 ∨ s = 49) ∧ (a = 45 ∨ a = s) ∧ b ≠ s := by
        rcases ha a List.mem_cons_self with z | z | z
        · exact ⟨48, .inl rfl, .inr z, fun e => q.2 (by rw [z, e])⟩
        · exact ⟨49, .inr rfl, .inr z, fun e => q.2 (by rw [z, e])⟩
        · rcases hb b List.mem_cons_self with w | w | w
          · exact ⟨49, .inr rfl, .inl z, by omega⟩
          · exact ⟨48, .inl rfl, .inl z, by omega⟩
          · exact absurd w q.1
      refine ⟨s :: x, by simp [h1], fun y hy => (List.mem_cons.mp hy).elim (fun e => e ▸ s1) (h2 y), ?_, ?_⟩
      · simp only [isInZ, h3, Bool.and_true, Bool.or_eq_true, beq_iff_eq]; exact s2
      · simp [isInZ, q.1, s3]
    · have h' : isInside as bs = false := by
        simp only [isInside, List.zip_cons_cons, List.any_cons] at h ⊢
        simp only [Bool.not_eq_true] at q
        rw [q] at h
        simpa using h
      obtain ⟨x, h1, h2, h3, h4⟩ := not_inside as bs (by simpa using hl) ha' hb' h'
      rcases ha a List.mem_cons_self with z | z | z
      · exact ⟨48 :: x, by simp [h1], fun y hy => (List.mem_cons.mp hy).elim (fun e => .inl e) (h2 y), by simp [isInZ, z, h3], by simp [isInZ, h4]⟩
      · exact ⟨49 :: x, by simp [h1], fun y hy => (List.mem_cons.mp hy).elim (fun e => .inr e) (h2 y), by simp [isInZ, z, h3], by simp [isInZ, h4]⟩
      · exact ⟨48 :: x, by simp [h1], fun y hy => (List.mem_cons.mp hy).elim (fun e => .inl e) (h2 y), by simp [isInZ, z, h3], by simp [isInZ, h4]⟩
  | [], _ :: _, h, _, _, _ => by simp at h
  | _ :: _, [], h, _, _, _ => by simp at h
theorem inside_self (a : List Nat) : isInside a a = true := by
  unfold isInside
  rw [Bool.not_eq_true', List.any_eq_false]
  intro p hp
  have : p.1 = p.2 := by
    induction a with
    | nil => simp at hp
    | cons x xs ih =>
      simp only [List.zip_cons_cons, List.mem_cons] at hp
      rcases hp with rfl | hp
      · rfl
      · exact ih hp
  simp [insP, this]
/-! meets -/
def meetZ : List Nat → List Nat → Option (List Nat)
  | a :: as, b :: bs => if a = 45 then (meetZ as bs).map (b :: ·) else if b = 45 ∨ b = a then (meetZ as bs).map (a :: ·) else none
  | _, _ => some []
theorem meet_none : ∀ (a b x : List Nat), a.length = b.length → b.length = x.length → meetZ a b = none → (isInZ a x && isInZ b x) = false
  | [], [], _, _, _, h => by simp [meetZ] at h
  | a :: as, b :: bs, [], _, h, _ => by simp at h
  | a :: as, b :: bs, x :: xs, h1, h2, h => by
    have ih := meet_none as bs xs (by simpa using h1) (by simpa using h2)
    simp only [isInZ]
    by_cases z : a = 45
    · rw [meetZ, if_pos z, Option.map_eq_none_iff] at h
      have := ih h
      cases p : isInZ as xs <;> cases q : isInZ bs xs <;> simp_all
    · by_cases w : b = 45 ∨ b = a
      · rw [meetZ, if_neg z, if_pos w, Option.map_eq_none_iff] at h
        have := ih h
        cases p : isInZ as xs <;> cases q : isInZ bs xs <;> simp_all
      · simp only [not_or] at w
        by_cases e1 : a = x
        · have : b ≠ x := by rw [← e1]; exact w.2
          simp [w.1, this]
        · simp [z, e1]
  | [], _ :: _, _, h, _, _ => by simp at h
  | _ :: _, [], _, h, _, _ => by simp at h
theorem meet_some : ∀ (a b m : List Nat), a.length = b.length → Cube a → Cube b → meetZ a b = some m → m.length = a.length ∧ Cube m ∧ ∀ x : List Nat, x.length = a.length → isInZ m x = (isInZ a x && isInZ b x)
  | [], [], m, _, _, _, h => by
    simp only [meetZ, Option.some.injEq] at h
    subst h
    exact ⟨rfl, fun y h => (by cases h), fun x _ => by cases x <;> simp [isInZ]⟩
  | a :: as, b :: bs, m, hl, ha, hb, h => by
    have ha' : Cube as := fun y hy => ha y (List.mem_cons_of_mem _ hy)
    have hb' : Cube bs := fun y hy => hb y (List.mem_cons_of_mem _ hy)
    by_cases z : a = 45
    · rw [meetZ, if_pos z, Option.map_eq_some_iff] at h
      obtain ⟨m', h, rfl⟩ := h
      obtain ⟨i1, i2, i3⟩ := meet_some as bs m' (by simpa using hl) ha' hb' h
      refine ⟨by simp [i1], fun y hy => (List.mem_cons.mp hy).elim (fun e => e ▸ hb b List.mem_cons_self) (i2 y), fun x hx => ?_⟩
      cases x with
      | nil => simp at hx
      | cons x xs =>
        simp only [isInZ, i3 xs (by simpa using hx)]
        cases (b == 45 || b == x) <;> cases isInZ as xs <;> simp [z]
    · by_cases w : b = 45 ∨ b = a
      · rw [meetZ, if_neg z, if_pos w, Option.map_eq_some_iff] at h
        obtain ⟨m', h, rfl⟩ := h
        obtain ⟨i1, i2, i3⟩ := meet_some as bs m' (by simpa using hl) ha' hb' h
        refine ⟨by simp [i1], fun y hy => (List.mem_cons.mp hy).elim (fun e => e ▸ ha a List.mem_cons_self) (i2 y), fun x hx => ?_⟩
        cases x with
        | nil => simp at hx
        | cons x xs =>
          simp only [isInZ, i3 xs (by simpa using hx)]
          rcases w with w | w
          · subst w
            cases (a == 45 || a == x) <;> cases isInZ as xs <;> cases isInZ bs xs <;> rfl
          · subst w
            cases (b == 45 || b == x) <;> cases isInZ as xs <;> cases isInZ bs xs <;> rfl
      · rw [meetZ, if_neg z, if_neg w] at h
        cases h
  | [], _ :: _, _, h, _, _, _ => by simp at h
  | _ :: _, [], _, h, _, _, _ => by simp at h
/-! all codes -/
def bit (d : Int) : Nat := if d % 2 = 0 then 48 else 49
def codeOf (d : Int) : Nat → List Nat → List Nat
  | 0, t => t
  | w + 1, t => codeOf (d / 2) w (bit d :: t)
def codes (w : Nat) : List (List Nat) := (List.range (2 ^ w)).map fun k : Nat => codeOf k w []
theorem codeOf_code (w : Nat) : ∀ (d : Int) (t : List Nat), Code t → Code (codeOf d w t) := by
  induction w with
  | zero => intro d t h; exact h
  | succ w ih =>
    intro d t h
    refine ih _ _ fun y hy => ?_
    rcases List.mem_cons.mp hy with e | e
    · rw [e]; unfold bit; split <;> simp
    · exact h y e
theorem codeOf_len (d : Int) (w : Nat) (t : List Nat) : (codeOf d w t).length = w + t.length := by
  induction w generalizing d t with
  | zero => simp [codeOf]
  | succ w ih => simp [codeOf, ih]; omega
theorem codeOf_onto : ∀ (w : Nat) (x t : List Nat), x.length = w → Code x → ∃ k : Nat, k < 2 ^ w ∧ codeOf k w t = x ++ t := by
  intro w
  induction w with
  | zero =>
    intro x t h _
    have : x = [] := List.length_eq_zero_iff.mp h
    subst this
    exact ⟨0, by simp, rfl⟩
  | succ w ih =>
    intro x t h hx
    have hne : x ≠ [] := fun e => by rw [e] at h; simp at h
    have e := List.dropLast_concat_getLast hne
    have hl : x.dropLast.length = w := by rw [List.length_dropLast, h]; rfl
    obtain ⟨k, k1, k2⟩ := ih x.dropLast (x.getLast hne :: t) hl fun y hy => hx y (List.dropLast_subset _ hy)
    have last := hx _ (List.getLast_mem hne)
    have fin : ∀ b : Nat, b < 2 → x.getLast hne = 48 + b → ∃ k : Nat, k < 2 ^ (w + 1) ∧ codeOf k (w + 1) t = x ++ t := fun b hb hg => by
      refine ⟨2 * k + b, by rw [Nat.pow_succ]; omega, ?_⟩
      have d1 : (((2 * k + b : Nat) : Int)) / 2 = (k : Int) := by omega
      have d2 : bit ((2 * k + b : Nat) : Int) = x.getLast hne := by
        unfold bit
        rw [hg]
        have : b = 0 ∨ b = 1 := by omega
        rcases this with h | h <;> subst h
        · rw [if_pos (by omega)]
        · rw [if_neg (by omega)]
      rw [codeOf, d1, d2, k2]
      conv => rhs; rw [← e]
      simp
    rcases last with z | z
    · exact fin 0 (by omega) z
    · exact fin 1 (by omega) z
theorem mem_codes {w : Nat} {x : List Nat} : x ∈ codes w ↔ x.length = w ∧ Code x := by
  unfold codes
  rw [List.mem_map]
  constructor
  · rintro ⟨k, _, rfl⟩
    exact ⟨by simp [codeOf_len], codeOf_code w _ _ fun y hy => by cases hy⟩
  · rintro ⟨h1, h2⟩
    obtain ⟨k, k1, k2⟩ := codeOf_onto w x [] h1 h2
    exact ⟨k, List.mem_range.mpr k1, by rw [k2, List.append_nil]⟩
/-! hulls -/
theorem isIn_iff (c x : List Nat) : isIn c x = true ↔ ∀ k, k < x.length → c.getD k 0 = 45 ∨ c.getD k 0 = x.getD k 0 := by
  unfold isIn
  rw [Bool.not_eq_true', List.any_eq_false]
  constructor
  · intro h k hk
    have := h k (List.mem_range.mpr hk)
    rw [Bool.not_eq_true, Bool.and_eq_false_iff, bne_eq_false_iff_eq, bne_eq_false_iff_eq] at this
    exact this
  · intro h k hk
    rw [Bool.not_eq_true, Bool.and_eq_false_iff, bne_eq_false_iff_eq, bne_eq_false_iff_eq]
    exact h k (List.mem_range.mp hk)
def hull2 (t x : List Nat) : List Nat := (t.zip x).map fun p => if p.1 = p.2 then p.1 else 45
def hullL (t : List Nat) (cs : List (List Nat)) : List Nat := cs.foldl hull2 t
theorem hull2_len (t x : List Nat) (h : t.length = x.length) : (hull2 t x).length = t.length := by simp [hull2]; omega
theorem hullL_len : ∀ (cs : List (List Nat)) (t : List Nat), (∀ c ∈ cs, c.length = t.length) → (hullL t cs).length = t.length
  | [], t, _ => rfl
  | x :: cs, t, h => by
    have h1 := h x List.mem_cons_self
    have h2 := hull2_len t x h1.symm
    show (hullL (hull2 t x) cs).length = _
    rw [hullL_len cs _ fun c hc => by rw [h2]; exact h c (List.mem_cons_of_mem _ hc), h2]
theorem hull2_getD (t x : List Nat) (h : t.length = x.length) {k : Nat} (hk : k < t.length) : (hull2 t x).getD k 0 = if t.getD k 0 = x.getD k 0 then t.getD k 0 else 45 := by
  have h1 : k < (t.zip x).length := by rw [List.length_zip]; omega
  have h2 : k < x.length := by omega
  unfold hull2
  rw [List.getD_eq_getElem?_getD, List.getElem?_map, List.getElem?_eq_getElem h1, List.getElem_zip, List.getD_eq_getElem?_getD, List.getD_eq_getElem?_getD, List.getElem?_eq_getElem hk, List.getElem?_eq_getElem h2]
  rfl
theorem hullL_getD : ∀ (cs : List (List Nat)) (t : List Nat), (∀ c ∈ cs, c.length = t.length) → ∀ {k : Nat}, k < t.length → ((∀ c ∈ cs, c.getD k 0 = t.getD k 0) → (hullL t cs).getD k 0 = t.getD k 0) ∧ ((¬ ∀ c ∈ cs, c.getD k 0 = t.getD k 0) → (hullL t cs).getD k 0 = 45)
  | [], t, _, k, hk => ⟨fun _ => rfl, fun h => absurd (fun c hc => by cases hc) h⟩
  | x :: cs, t, h, k, hk => by
    have h1 := h x List.mem_cons_self
    have h2 := hull2_len t x h1.symm
    have g := hull2_getD t x h1.symm hk
    obtain ⟨i1, i2⟩ := hullL_getD cs (hull2 t x) (fun c hc => by rw [h2]; exact h c (List.mem_cons_of_mem _ hc)) (k := k) (by omega)
    by_cases e : t.getD k 0 = x.getD k 0
    · rw [if_pos e] at g
      rw [g] at i1 i2
      refine ⟨fun z => i1 fun c hc => z c (List.mem_cons_of_mem _ hc), fun z => i2 fun y => z fun c hc => ?_⟩
      rcases List.mem_cons.mp hc with q | q
      · rw [q, e]
      · exact y c q
    · rw [if_neg e] at g
      rw [g] at i1 i2
      refine ⟨fun z => absurd (z x List.mem_cons_self).symm e, fun _ => ?_⟩
      by_cases y : ∀ c ∈ cs, c.getD k 0 = 45
      · exact i1 y
      · exact i2 y
theorem hullL_cube : ∀ (cs : List (List Nat)) (t : List Nat), Cube t → Cube (hullL t cs)
  | [], t, h => h
  | x :: cs, t, h => hullL_cube cs (hull2 t x) fun y hy => by
    unfold hull2 at hy
    obtain ⟨p, hp, rfl⟩ := List.mem_map.mp hy
    split
    · exact h _ (List.of_mem_zip hp).1
    · exact .inr (.inr rfl)
/-- what lies in the hull lies in every cube over all the codes -/
theorem hull_least {c0 : List Nat} {cs : List (List Nat)} {w : Nat} (hl : ∀ c ∈ c0 :: cs, c.length = w) (hc : ∀ c ∈ c0 :: cs, Code c) {o x : List Nat} (hx : x.length = w) (ho : ∀ c ∈ c0 :: cs, isIn o c = true) (h : isIn (hullL c0 (c0 :: cs)) x = true) : isIn o x = true := by
  have l0 := hl c0 List.mem_cons_self
  rw [isIn_iff] at h ⊢
  intro k hk
  by_cases e : o.getD k 0 = 45
  · exact .inl e
  · have all : ∀ c ∈ c0 :: cs, c.getD k 0 = o.getD k 0 := fun c hc' => by
      have := (isIn_iff o c).mp (ho c hc') k (by rw [hl c hc']; omega)
      exact (this.resolve_left e).symm
    have a0 := all c0 List.mem_cons_self
    have hh := (hullL_getD (c0 :: cs) c0 (fun c hc' => by rw [hl c hc', l0]) (k := k) (by omega)).1 fun c hc' => by rw [all c hc', a0]
    rcases h k hk with z | z
    · rw [hh, a0] at z
      exact absurd z e
    · rw [hh, a0] at z
      exact .inr z
end Cub

set_option Elab.async false
set_option linter.all false
set_option maxRecDepth 100000
set_option maxHeartbeats 4000000
/-! PV, part T: what the mirrors' words give. -/
namespace PV
section
variable {α β γ σ ρ : Type}
theorem fits_nat' {w : Nat} (hw : w ≤ 1000000) : fits62 (w : Int) = true := fits_nat hw
theorem rngO_nat {n : Nat} (h : n ≤ 1000000) : rngO 0 (n : Int) = some ((List.range n).map fun k : Nat => (k : Int)) := by
  unfold rngO
  rw [if_pos (by rw [fits_nat h]; rfl)]
  unfold rngI
  simp
theorem rngO_nat2 {m n : Nat} (h : m ≤ 1000000) (h' : n ≤ 1000000) : rngO (m : Int) (n : Int) = some ((List.range (n - m)).map fun k : Nat => ((m + k : Nat) : Int)) := by
  unfold rngO
  rw [if_pos (by rw [fits_nat h, fits_nat h']; rfl)]
  unfold rngI
  rw [show ((n : Int) - (m : Int)).toNat = n - m by omega]
  simp
/-- as rngO_nat, for a number that is given otherwise -/
theorem rngO_of {i : Int} {n : Nat} (e : i = n) (h : n ≤ 1000000) : rngO 0 i = some ((List.range n).map fun k : Nat => (k : Int)) := by rw [e, rngO_nat h]
theorem getI_nat {l : List α} {k : Nat} (h : k < l.length) : getI l (k : Int) = some l[k] := by
  unfold getI L2.atI
  have : L2.ixN l.length (k : Int) = some k := by
    unfold L2.ixN
    simp [h]
  rw [this]
  simp [h]
theorem getI_getD {l : List α} {k : Nat} (d : α) (h : k < l.length) : getI l (k : Int) = some (l.getD k d) := by
  rw [getI_nat h]
  simp [h]
theorem getI_of {l : List α} {i : Int} {k : Nat} (d : α) (e : i = k) (h : k < l.length) : getI l i = some (l.getD k d) := by rw [e, getI_getD d h]
theorem getI_neg1 {l : List α} (d : α) (h : 0 < l.length) : getI l (-1) = some (l.getD (l.length - 1) d) := by
  unfold getI L2.atI
  have : L2.ixN l.length (-1) = some (l.length - 1) := by
    unfold L2.ixN
    simp
    omega
  rw [this]
  simp [show l.length - 1 < l.length by omega]
theorem ixN_nat {n k : Nat} (h : k < n) : L2.ixN n (k : Int) = some k := by
  unfold L2.ixN
  simp [h]
theorem setG_nat {l : List α} {k : Nat} {x : α} (h : k < l.length) : setG l (k : Int) x = some (l.set k x) := by
  unfold setG
  rw [ixN_nat h]
  rfl
theorem catS_ok {s t : List Nat} (h : s.length + t.length ≤ 1000000) : catS s t = some (s ++ t) := if_pos (by unfold line; omega)
theorem catL_ok {l m : List α} (h : l.length + m.length ≤ 1000000) : catL l m = some (l ++ m) := if_pos (by unfold line; omega)
theorem appG_ok {l : List α} {x : α} (h : l.length ≤ 1000000) : appG l x = some (l ++ [x]) := if_pos (by unfold line; omega)
theorem repS_ok {c : Nat} {n : Nat} (h : n ≤ 1000000) : repS c (n : Int) = some (List.replicate n c) := by
  unfold repS
  rw [if_pos (by omega)]
  rfl
theorem mulO_L {i j : Int} (h : -1000000000000 ≤ i) (h' : i ≤ 1000000000000) : mulO i j = some (i * j) := by
  unfold mulO
  rw [if_pos]
  unfold small
  rw [Bool.or_eq_true, Bool.and_eq_true, decide_eq_true_eq, decide_eq_true_eq]
  omega
theorem mulO_R {i j : Int} (h : -1000000000000 ≤ j) (h' : j ≤ 1000000000000) : mulO i j = some (i * j) := by
  unfold mulO
  rw [if_pos]
  unfold small
  rw [Bool.or_eq_true, Bool.and_eq_true, Bool.and_eq_true, decide_eq_true_eq, decide_eq_true_eq, decide_eq_true_eq, decide_eq_true_eq]
  omega
theorem modO_ok {i j : Int} (h : 0 < j) : modO i j = some (i % j) := if_pos h
theorem divO_ok {i j : Int} (h : 0 < j) (h' : j < 1073741824) : divO i j = some (i / j) := if_pos ⟨h, h'⟩
theorem cut_to {c : List α} {k : Nat} (h : k ≤ c.length) : cut c none (some (k : Int)) = c.take k := by
  unfold cut
  rw [HT.sIx_none, HT.sIx_nat, Nat.min_eq_left h]
  simp
theorem cut_from {c : List α} {k : Nat} (h : k ≤ c.length) : cut c (some (k : Int)) none = c.drop k := by
  unfold cut
  rw [HT.sIx_none, HT.sIx_nat, Nat.min_eq_left h]
  rw [List.take_of_length_le (by simp)]
theorem cut_to' {c : List α} {k : Nat} : cut c none (some (k : Int)) = c.take k := by
  unfold cut
  rw [HT.sIx_none, HT.sIx_nat]
  simp [List.take_eq_take_iff]
theorem cut_from' {c : List α} {k : Nat} : cut c (some (k : Int)) none = c.drop k := by
  unfold cut
  rw [HT.sIx_none, HT.sIx_nat]
  by_cases h : k ≤ c.length
  · rw [Nat.min_eq_left h, List.take_of_length_le (by simp)]
  · rw [Nat.min_eq_right (by omega)]
    simp
    omega
/-! ### loops -/
theorem foldO_ok {f : σ → γ → Option σ} (g : σ → γ → σ) (Inv : Nat → σ → Prop) : ∀ (l : List γ) (k : Nat) (s : σ), Inv k s → (∀ i s y, l[i]? = some y → Inv (k + i) s → f s y = some (g s y) ∧ Inv (k + i + 1) (g s y)) → foldO l s f = some (l.foldl g s) ∧ Inv (k + l.length) (l.foldl g s)
  | [], k, s, h, _ => ⟨rfl, h⟩
  | y :: l, k, s, h, hf => by
    obtain ⟨h1, h2⟩ := hf 0 s y rfl h
    obtain ⟨i1, i2⟩ := foldO_ok g Inv l (k + 1) (g s y) h2 fun i s z hz hi => by
      have := hf (i + 1) s z (by simpa using hz) (by rw [show k + (i + 1) = k + 1 + i by omega]; exact hi)
      rw [show k + (i + 1) = k + 1 + i by omega] at this
      exact this
    refine ⟨?_, ?_⟩
    · show (f s y).bind _ = _
      rw [h1, Option.bind_some, List.foldl_cons]
      exact i1
    · rw [List.foldl_cons, show k + (y :: l).length = k + 1 + l.length by simp; omega]
      exact i2
/-- from 0 on -/
theorem foldO_inv {f : σ → γ → Option σ} (g : σ → γ → σ) (Inv : Nat → σ → Prop) (l : List γ) (s : σ) (h0 : Inv 0 s) (hf : ∀ i s y, l[i]? = some y → Inv i s → f s y = some (g s y) ∧ Inv (i + 1) (g s y)) : foldO l s f = some (l.foldl g s) ∧ Inv l.length (l.foldl g s) := by
  have := foldO_ok (f := f) g Inv l 0 s h0 fun i s y hy hi => by rw [Nat.zero_add] at hi ⊢; exact hf i s y hy hi
  rw [Nat.zero_add] at this
  exact this
theorem foldO_eq {f : σ → γ → Option σ} (g : σ → γ → σ) (l : List γ) (s : σ) (hf : ∀ s y, y ∈ l → f s y = some (g s y)) : foldO l s f = some (l.foldl g s) :=
  (foldO_inv (f := f) g (fun _ _ => True) l s trivial fun i s y hy _ => ⟨hf s y (List.mem_of_getElem? hy), trivial⟩).1
/-- a loop that looks for an item -/
theorem loopR_any {f : Unit → γ → Option (LR Unit ρ)} (p : γ → Bool) (r : γ → ρ) : ∀ (l : List γ), (∀ y ∈ l, f () y = some (if p y then .ret (r y) else .go ())) → loopR l () f = some (match l.find? p with
    | some y => .inr (r y)
    | none => .inl ())
  | [], _ => rfl
  | y :: l, h => by
    have h1 := h y List.mem_cons_self
    have ih := loopR_any p r l fun z hz => h z (List.mem_cons_of_mem _ hz)
    show (f () y).bind _ = _
    rw [h1, Option.bind_some, List.find?_cons]
    cases p y with
    | true => rfl
    | false => exact ih
/-- a loop that looks whether some item has p -/
theorem loopR_some {f : Unit → γ → Option (LR Unit ρ)} (p : γ → Bool) (r : ρ) (l : List γ) (h : ∀ y ∈ l, f () y = some (if p y then .ret r else .go ())) : loopR l () f = some (if l.any p then .inr r else .inl ()) := by
  rw [loopR_any (f := f) p (fun _ => r) l h]
  cases q : l.find? p with
  | none =>
    rw [if_neg]
    rw [List.find?_eq_none] at q
    rw [List.any_eq_true]
    rintro ⟨y, hy, z⟩
    exact q y hy z
  | some y =>
    rw [if_pos]
    exact List.any_eq_true.mpr ⟨y, List.mem_of_find?_eq_some q, List.find?_some q⟩
/-- nothing is found -/
theorem loopR_none {f : Unit → γ → Option (LR Unit ρ)} (l : List γ) (h : ∀ y ∈ l, f () y = some (.go ())) : loopR l () f = some (.inl ()) := by
  induction l with
  | nil => rfl
  | cons y l ih =>
    show (f () y).bind _ = _
    rw [h y List.mem_cons_self, Option.bind_some]
    exact ih fun z hz => h z (List.mem_cons_of_mem _ hz)
/-- a loop that never leaves -/
theorem loopR_go {f : σ → γ → Option (LR σ ρ)} (g : σ → γ → σ) (Inv : Nat → σ → Prop) : ∀ (l : List γ) (k : Nat) (s : σ), Inv k s → (∀ i s y, l[i]? = some y → Inv (k + i) s → f s y = some (.go (g s y)) ∧ Inv (k + i + 1) (g s y)) → loopR l s f = some (.inl (l.foldl g s)) ∧ Inv (k + l.length) (l.foldl g s)
  | [], k, s, h, _ => ⟨rfl, h⟩
  | y :: l, k, s, h, hf => by
    obtain ⟨h1, h2⟩ := hf 0 s y rfl h
    obtain ⟨i1, i2⟩ := loopR_go g Inv l (k + 1) (g s y) h2 fun i s z hz hi => by
      have := hf (i + 1) s z (by simpa using hz) (by rw [show k + (i + 1) = k + 1 + i by omega]; exact hi)
      rw [show k + (i + 1) = k + 1 + i by omega] at this
      exact this
    refine ⟨?_, ?_⟩
    · show (f s y).bind _ = _
      rw [h1, Option.bind_some, List.foldl_cons]
      exact i1
    · rw [List.foldl_cons, show k + (y :: l).length = k + 1 + l.length by simp; omega]
      exact i2
/-- a loop by its turns as a total function -/
def runT (g : σ → γ → LR σ ρ) : List γ → σ → Sum σ ρ
  | [], s => .inl s
  | y :: l, s => match g s y with
    | .go s' => runT g l s'
    | .stop s' => .inl s'
    | .ret r => .inr r
theorem loopR_run {f : σ → γ → Option (LR σ ρ)} (g : σ → γ → LR σ ρ) (Inv : Nat → σ → Prop) : ∀ (l : List γ) (k : Nat) (s : σ), Inv k s → (∀ i s y, l[i]? = some y → Inv (k + i) s → f s y = some (g s y) ∧ ∀ s', g s y = .go s' → Inv (k + i + 1) s') → loopR l s f = some (runT g l s)
  | [], k, s, h, _ => rfl
  | y :: l, k, s, h, hf => by
    obtain ⟨h1, h2⟩ := hf 0 s y rfl h
    show (f s y).bind _ = _
    rw [h1, Option.bind_some]
    unfold runT
    cases q : g s y with
    | go s' =>
      exact loopR_run g Inv l (k + 1) s' (h2 s' q) fun i s z hz hi => by
        have := hf (i + 1) s z (by simpa using hz) (by rw [show k + (i + 1) = k + 1 + i by omega]; exact hi)
        rw [show k + (i + 1) = k + 1 + i by omega] at this
        exact this
    | stop s' => rfl
    | ret r => rfl
/-! the same, ahead of what follows -/
theorem foldO_bind {ω : Type} {f : σ → γ → Option σ} {l : List γ} {s : σ} {K : σ → Option ω} {r : Option ω} (g : σ → γ → σ) (Inv : Nat → σ → Prop) (h0 : Inv 0 s) (hf : ∀ i s y, l[i]? = some y → Inv i s → f s y = some (g s y) ∧ Inv (i + 1) (g s y))
    (k : Inv l.length (l.foldl g s) → K (l.foldl g s) = r) : (foldO l s f).bind K = r := by
  obtain ⟨h1, h2⟩ := foldO_inv (f := f) g Inv l s h0 hf
  rw [h1, Option.bind_some]
  exact k h2
theorem some_bind {ω : Type} {f : Unit → γ → Option (LR Unit ρ)} {l : List γ} {K : Sum Unit ρ → Option ω} {r : Option ω} (p : γ → Bool) (q : ρ) (h : ∀ y ∈ l, f () y = some (if p y then .ret q else .go ())) (k1 : l.any p = true → K (.inr q) = r) (k2 : l.any p = false → K (.inl ()) = r) : (loopR l () f).bind K = r := by
  rw [loopR_some (f := f) p q l h, Option.bind_some]
  cases z : l.any p with
  | true => exact k1 z
  | false => exact k2 z
theorem none_bind {ω : Type} {f : Unit → γ → Option (LR Unit ρ)} {l : List γ} {K : Sum Unit ρ → Option ω} {r : Option ω} (h : ∀ y ∈ l, f () y = some (.go ())) (k : K (.inl ()) = r) : (loopR l () f).bind K = r := by
  rw [loopR_none (f := f) l h, Option.bind_some]
  exact k
theorem go_bind {ω : Type} {f : σ → γ → Option (LR σ ρ)} {l : List γ} {s : σ} {K : Sum σ ρ → Option ω} {r : Option ω} (g : σ → γ → σ) (Inv : Nat → σ → Prop) (h0 : Inv 0 s) (hf : ∀ i s y, l[i]? = some y → Inv i s → f s y = some (.go (g s y)) ∧ Inv (i + 1) (g s y))
    (k : Inv l.length (l.foldl g s) → K (.inl (l.foldl g s)) = r) : (loopR l s f).bind K = r := by
  have := loopR_go (f := f) g Inv l 0 s h0 fun i s y hy hi => by rw [Nat.zero_add] at hi ⊢; exact hf i s y hy hi
  rw [Nat.zero_add] at this
  rw [this.1, Option.bind_some]
  exact k this.2
/-! ### comprehensions -/
theorem lcO_map {f : α → Option (Option β)} (g : α → Option β) : ∀ (l : List α), (∀ y ∈ l, f y = some (g y)) → lcO l f = some (l.filterMap g)
  | [], _ => rfl
  | y :: l, h => by
    have h1 := h y List.mem_cons_self
    have ih := lcO_map g l fun z hz => h z (List.mem_cons_of_mem _ hz)
    show (f y).bind _ = _
    rw [h1, Option.bind_some, List.filterMap_cons]
    cases g y with
    | none => exact ih
    | some d => show (lcO l f).map _ = _; rw [ih]; rfl
theorem lcG_fm {f : α → Option (Option β)} (g : α → Option β) {l : List α} (hl : l.length ≤ 1000000) (h : ∀ y ∈ l, f y = some (g y)) : lcG l f = some (l.filterMap g) := by
  unfold lcG
  rw [if_pos (by unfold line; omega), lcO_map g l h]
theorem lcG_map {f : α → Option (Option β)} (g : α → β) {l : List α} (hl : l.length ≤ 1000000) (h : ∀ y ∈ l, f y = some (some (g y))) : lcG l f = some (l.map g) := by
  rw [lcG_fm (fun y => some (g y)) hl h]
  congr 1
  rw [← List.filterMap_eq_map]
  rfl
theorem lcG_filter {f : α → Option (Option α)} (p : α → Bool) {l : List α} (hl : l.length ≤ 1000000) (h : ∀ y ∈ l, f y = some (if p y then some y else none)) : lcG l f = some (l.filter p) := by
  rw [lcG_fm (fun y => if p y then some y else none) hl h, ← List.filterMap_eq_filter]
  rfl
theorem anyO_eq {f : α → Option Bool} (p : α → Bool) : ∀ (l : List α), (∀ y ∈ l, f y = some (p y)) → anyO l f = some (l.any p)
  | [], _ => rfl
  | y :: l, h => by
    have h1 := h y List.mem_cons_self
    have ih := anyO_eq p l fun z hz => h z (List.mem_cons_of_mem _ hz)
    show (f y).bind _ = _
    rw [h1, Option.bind_some, List.any_cons, ih]
    cases p y <;> rfl
theorem allO_eq {f : α → Option Bool} (p : α → Bool) : ∀ (l : List α), (∀ y ∈ l, f y = some (p y)) → allO l f = some (l.all p)
  | [], _ => rfl
  | y :: l, h => by
    have h1 := h y List.mem_cons_self
    have ih := allO_eq p l fun z hz => h z (List.mem_cons_of_mem _ hz)
    show (f y).bind _ = _
    rw [h1, Option.bind_some, List.all_cons, ih]
    cases p y <;> rfl
theorem any_range {n : Nat} {p : Int → Bool} : ((List.range n).map fun k : Nat => (k : Int)).any p = (List.range n).any fun k => p (k : Int) := by rw [List.any_map]; rfl
theorem mem_range_int {n : Nat} {y : Int} (h : y ∈ (List.range n).map fun k : Nat => (k : Int)) : ∃ k : Nat, k < n ∧ y = k := by
  obtain ⟨k, hk, rfl⟩ := List.mem_map.mp h
  exact ⟨k, List.mem_range.mp hk, rfl⟩
theorem foldl_range_int {n : Nat} (g : σ → Int → σ) (s : σ) : ((List.range n).map fun k : Nat => (k : Int)).foldl g s = (List.range n).foldl (fun s (k : Nat) => g s (k : Int)) s := by rw [List.foldl_map]
/-- a loop that appends under a test -/
theorem foldl_filter_app (p : γ → Bool) (g : γ → α) : ∀ (l : List γ) (acc : List α), l.foldl (fun acc y => if p y then acc ++ [g y] else acc) acc = acc ++ (l.filter p).map g
  | [], acc => by simp
  | y :: l, acc => by
    rw [List.foldl_cons, foldl_filter_app p g l]
    cases h : p y <;> simp [h]
theorem foldl_app (g : γ → α) : ∀ (l : List γ) (acc : List α), l.foldl (fun acc y => acc ++ [g y]) acc = acc ++ l.map g
  | [], acc => by simp
  | y :: l, acc => by
    rw [List.foldl_cons, foldl_app g l]
    simp
end
/-! ### cells, draws: the same in every law -/
def cell (ns : List Int) (k : Nat) : Int := ns.getD k 0
def drawMix (c : Int) (k : Nat) : Int :=
  let m1 := (c * 48271 + ((k : Int) + 1) * 69621) % 2147483647
  let m2 := (m1 * m1 + m1 * 16807 + (k : Int) * 7919) % 2147483629
  ((m2 * m2 + c + 13 * (k : Int)) % 2147483587) / 7 % 4096
def drawsG (c : Int) (s : List Int × Int) (k : Nat) : List Int × Int :=
  if 1000000000000000000 ≤ c ∧ 0 < s.2 then (s.1 ++ [s.2 % 4096], s.2 / 4096) else (s.1 ++ [drawMix c k], s.2)
def draws (c : Int) (n : Nat) : List Int := ((List.range n).foldl (drawsG c) ([], c)).1
theorem drawsG_inv (c : Int) : ∀ (l : List Nat) (s : List Int × Int), (∀ r ∈ s.1, 0 ≤ r ∧ r < 4096) → (l.foldl (drawsG c) s).1.length = s.1.length + l.length ∧ ∀ r ∈ (l.foldl (drawsG c) s).1, 0 ≤ r ∧ r < 4096
  | [], s, h => ⟨by simp, h⟩
  | k :: l, s, h => by
    rw [List.foldl_cons]
    have key : (drawsG c s k).1.length = s.1.length + 1 ∧ ∀ r ∈ (drawsG c s k).1, 0 ≤ r ∧ r < 4096 := by
      unfold drawsG
      split
      · refine ⟨by simp, fun r hr => ?_⟩
        rcases List.mem_append.mp hr with z | z
        · exact h r z
        · rw [List.mem_singleton.mp z]; omega
      · refine ⟨by simp, fun r hr => ?_⟩
        rcases List.mem_append.mp hr with z | z
        · exact h r z
        · rw [List.mem_singleton.mp z]
          have : ∀ x : Int, 0 ≤ x % 4096 ∧ x % 4096 < 4096 := fun x => by omega
          exact this _
    obtain ⟨i1, i2⟩ := drawsG_inv c l (drawsG c s k) key.2
    exact ⟨by rw [i1, key.1, List.length_cons]; omega, i2⟩
theorem draws_len (c : Int) (n : Nat) : (draws c n).length = n := by
  have := (drawsG_inv c (List.range n) ([], c) (fun r hr => by cases hr)).1
  simpa [draws] using this
theorem draws_mem (c : Int) (n : Nat) : ∀ r ∈ draws c n, 0 ≤ r ∧ r < 4096 := (drawsG_inv c (List.range n) ([], c) (fun r hr => by cases hr)).2
theorem draws_bnd (c : Int) (n k : Nat) : 0 ≤ (draws c n).getD k 0 ∧ (draws c n).getD k 0 < 4096 := by
  by_cases q : k < (draws c n).length
  · rw [List.getD_eq_getElem?_getD, List.getElem?_eq_getElem q, Option.getD_some]
    exact draws_mem c n _ (List.getElem_mem q)
  · rw [List.getD_eq_getElem?_getD, List.getElem?_eq_none (by omega)]; decide
/-- the k-th draw -/
theorem draws_at {c : Int} {n : Nat} {i : Int} (k : Nat) (e : i = k) (h : k < n) : getI (draws c n) i = some ((draws c n).getD k 0) := getI_of 0 e (by rw [draws_len]; exact h)
end PV

set_option Elab.async false
set_option linter.all false
set_option maxRecDepth 100000
set_option maxHeartbeats 4000000
/-! cubes as the laws draw them -/
namespace PV
open Cub
def sgn (d : Int) : Nat := if d % 3 = 0 then 48 else if d % 3 = 1 then 49 else 45
def cubeOf (d : Int) : Nat → List Nat
  | 0 => []
  | w + 1 => sgn d :: cubeOf (d / 3) w
theorem cubeOf_len (d : Int) (w : Nat) : (cubeOf d w).length = w := by
  induction w generalizing d with
  | zero => rfl
  | succ w ih => simp [cubeOf, ih]
theorem cube_fold : ∀ (l : List Nat) (t : List Nat) (d : Int), l.foldl (fun (s : Int × List Nat) _ => (s.1 / 3, s.2 ++ [sgn s.1])) (d, t) = ((l.foldl (fun d _ => d / 3) d), t ++ cubeOf d l.length)
  | [], t, d => by simp [cubeOf]
  | _ :: l, t, d => by
    rw [List.foldl_cons, cube_fold l]
    simp [cubeOf]
theorem code_fold : ∀ (l : List Nat) (t : List Nat) (d : Int), l.foldl (fun (s : Int × List Nat) _ => (s.1 / 2, bit s.1 :: s.2)) (d, t) = ((l.foldl (fun d _ => d / 2) d), codeOf d l.length t)
  | [], t, d => rfl
  | _ :: l, t, d => by
    rw [List.foldl_cons, code_fold l]
    rfl
theorem sgn_at (d : Int) : getI ([48, 49, 45] : List Nat) (d % 3) = some (sgn d) := by
  have : d % 3 = 0 ∨ d % 3 = 1 ∨ d % 3 = 2 := by omega
  unfold sgn
  rcases this with h | h | h <;> rw [h] <;> rfl
theorem bit_at (d : Int) : getI ([48, 49] : List Nat) (d % 2) = some (bit d) := by
  have : d % 2 = 0 ∨ d % 2 = 1 := by omega
  unfold bit
  rcases this with h | h <;> rw [h] <;> rfl
theorem pow_at {w : Nat} (hw : w < 9) : getI ([1, 2, 4, 8, 16, 32, 64, 128, 256] : List Int) (w : Int) = some ((2 ^ w : Nat) : Int) := by
  have : w = 0 ∨ w = 1 ∨ w = 2 ∨ w = 3 ∨ w = 4 ∨ w = 5 ∨ w = 6 ∨ w = 7 ∨ w = 8 := by omega
  rcases this with h | h | h | h | h | h | h | h | h <;> subst h <;> rfl
def withC (c : List Nat) (k x : Nat) : List Nat := c.take k ++ [x] ++ c.drop (k + 1)
theorem withC_len (c : List Nat) (k x : Nat) (h : k < c.length) : (withC c k x).length = c.length := by
  unfold withC
  simp; omega
theorem withC_cube (c : List Nat) (k x : Nat) (hx : Sg x) (h : Cube c) : Cube (withC c k x) := fun y hy => by
  unfold withC at hy
  simp only [List.mem_append, List.mem_singleton] at hy
  rcases hy with (hy | hy) | hy
  · exact h y (List.mem_of_mem_take hy)
  · rw [hy]; exact hx
  · exact h y (List.mem_of_mem_drop hy)
theorem withC_set (c : List Nat) (k x : Nat) (h : k < c.length) : withC c k x = c.set k x := by
  unfold withC
  rw [List.append_assoc, List.set_eq_take_append_cons_drop, if_pos h]
  rfl
theorem withC_getD (c : List Nat) (k x j : Nat) (h : k < c.length) : (withC c k x).getD j 0 = if j = k then x else c.getD j 0 := by
  rw [withC_set c k x h, List.getD_eq_getElem?_getD, List.getElem?_set]
  by_cases q : k = j
  · subst q; simp [h]
  · simp [q, Ne.symm q]
theorem cubeOf_cube (w : Nat) : ∀ d : Int, Cube (cubeOf d w) := by
  induction w with
  | zero => intro d y hy; cases hy
  | succ w ih =>
    intro d y hy
    rcases List.mem_cons.mp hy with e | e
    · rw [e]; unfold sgn Sg
      split
      · exact .inl rfl
      · split
        · exact .inr (.inl rfl)
        · exact .inr (.inr rfl)
    · exact ih _ y e
theorem codes_len (w : Nat) : (codes w).length = 2 ^ w := by simp [codes]
theorem codes_le {w : Nat} (hw : w < 9) : 2 ^ w ≤ 256 := Nat.pow_le_pow_right (n := 2) (by decide) (show w ≤ 8 by omega)
theorem bit_or (d : Int) : bit d = 48 ∨ bit d = 49 := by unfold bit; split <;> simp
def free (w : Nat) : List Nat := List.replicate w 45
theorem free_cube (w : Nat) : Cube (free w) := fun y hy => .inr (.inr (List.mem_replicate.mp hy).2)
theorem free_len (w : Nat) : (free w).length = w := List.length_replicate
/-! restrictions -/
def compat : List Nat → List Nat → Bool
  | a :: as, c :: cs => (a == 45 || c == 45 || a == c) && compat as cs
  | _, _ => true
def restr (a c : List Nat) : List Nat := (a.zip c).map fun p => if p.2 = 45 then p.1 else 45
theorem meetZ_isSome : ∀ a c : List Nat, (meetZ a c).isSome = compat a c
  | a :: as, c :: cs => by
    have ih := meetZ_isSome as cs
    unfold meetZ compat
    by_cases h : a = 45
    · rw [if_pos h]
      simp [h, ih]
    · rw [if_neg h]
      by_cases h2 : c = 45 ∨ c = a
      · rw [if_pos h2]
        rcases h2 with h2 | h2 <;> simp [h2, ih]
      · rw [if_neg h2]
        simp only [not_or] at h2
        have : a ≠ c := fun e => h2.2 e.symm
        simp [h, h2.1, this]
  | [], _ => by simp [meetZ, compat]
  | _ :: _, [] => by simp [meetZ, compat]
theorem in_compat : ∀ a c x : List Nat, a.length = c.length → c.length = x.length → isInZ a x = true → isInZ c x = true → compat a c = true
  | [], _, _, _, _, _, _ => by simp [compat]
  | _ :: _, [], _, h, _, _, _ => by simp at h
  | _ :: _, _ :: _, [], _, h, _, _ => by simp at h
  | a :: as, c :: cs, x :: xs, h1, h2, h3, h4 => by
    simp only [isInZ, Bool.and_eq_true, Bool.or_eq_true, beq_iff_eq] at h3 h4
    simp only [compat, Bool.and_eq_true, Bool.or_eq_true, beq_iff_eq]
    refine ⟨?_, in_compat as cs xs (by simpa using h1) (by simpa using h2) h3.2 h4.2⟩
    rcases h3.1 with z | z
    · exact .inl (.inl z)
    · rcases h4.1 with y | y
      · exact .inl (.inr y)
      · exact .inr (by rw [z, y])
theorem restr_in : ∀ a c x : List Nat, a.length = c.length → c.length = x.length → isInZ c x = true → compat a c = true → isInZ (restr a c) x = isInZ a x
  | [], _, _, _, _, _, _ => by simp [restr, isInZ]
  | _ :: _, [], _, h, _, _, _ => by simp at h
  | _ :: _, _ :: _, [], _, h, _, _ => by simp at h
  | a :: as, c :: cs, x :: xs, h1, h2, h3, h4 => by
    simp only [isInZ, Bool.and_eq_true, Bool.or_eq_true, beq_iff_eq] at h3
    simp only [compat, Bool.and_eq_true, Bool.or_eq_true, beq_iff_eq] at h4
    have ih := restr_in as cs xs (by simpa using h1) (by simpa using h2) h3.2 h4.2
    unfold restr at ih ⊢
    simp only [List.zip_cons_cons, List.map_cons, isInZ, ih]
    congr 1
    by_cases q : c = 45
    · rw [if_pos q]
    · rw [if_neg q]
      have e := h3.1.resolve_left q
      rcases h4.1 with (z | z) | z
      · simp [z]
      · exact absurd z q
      · simp [z, e]
theorem restr_len (a c : List Nat) (h : a.length = c.length) : (restr a c).length = a.length := by simp [restr]; omega
theorem restr_cube (a c : List Nat) (h : Cube a) : Cube (restr a c) := fun y hy => by
  unfold restr at hy
  obtain ⟨p, hp, rfl⟩ := List.mem_map.mp hy
  split
  · exact h _ (List.of_mem_zip hp).1
  · exact .inr (.inr rfl)
theorem compat_iff : ∀ a c : List Nat, a.length = c.length → (compat a c = true ↔ ∀ k, k < a.length → a.getD k 0 = 45 ∨ c.getD k 0 = 45 ∨ a.getD k 0 = c.getD k 0)
  | [], _, _ => by simp [compat]
  | _ :: _, [], h => by simp at h
  | a :: as, c :: cs, h => by
    have ih := compat_iff as cs (by simpa using h)
    simp only [compat, Bool.and_eq_true, Bool.or_eq_true, beq_iff_eq, ih]
    constructor
    · rintro ⟨h1, h2⟩ k hk
      cases k with
      | zero => simp only [List.getD_cons_zero]; exact or_assoc.mp h1
      | succ k => simp only [List.getD_cons_succ]; exact h2 k (by simpa using hk)
    · intro h
      refine ⟨?_, fun k hk => by have := h (k + 1) (by simpa using hk); simpa only [List.getD_cons_succ] using this⟩
      have := h 0 (by simp)
      simp only [List.getD_cons_zero] at this
      exact or_assoc.mpr this
theorem restr_map (a c : List Nat) (h : a.length = c.length) : (List.range a.length).map (fun k => if c.getD k 0 = 45 then a.getD k 0 else 45) = restr a c := by
  refine List.ext_getElem (by rw [restr_len a c h]; simp) fun k h1 h2 => ?_
  have hk : k < a.length := by simpa using h1
  have hc : k < c.length := by omega
  simp only [restr, List.getElem_map, List.getElem_range, List.getElem_zip, List.getD_eq_getElem?_getD, List.getElem?_eq_getElem hk, List.getElem?_eq_getElem hc, Option.getD_some]
theorem join_nil : ∀ ys : List (List Nat), TL.joinL [] ys = ys.flatten
  | [] => rfl
  | [p] => by simp [TL.joinL]
  | p :: q :: r => by
    have := join_nil (q :: r)
    simp only [TL.joinL, this, List.nil_append, List.flatten_cons]
theorem join_ones (f : Nat → Nat) (l : List Nat) : TL.joinL [] (l.map fun k => [f k]) = l.map f := by
  rw [join_nil]
  induction l with
  | nil => rfl
  | cons a l ih => simp [ih]
/-- a cover, restricted -/
def restrL (cs : List (List Nat)) (c : List Nat) : List (List Nat) := (cs.filter fun a => compat a c).map fun a => restr a c
def covered (cs : List (List Nat)) (x : List Nat) : Bool := cs.any fun a => isInZ a x
theorem restrL_covered (cs : List (List Nat)) (c x : List Nat) {w : Nat} (hl : ∀ a ∈ cs, a.length = w) (hc : c.length = w) (hx : x.length = w) (h : isInZ c x = true) : covered (restrL cs c) x = covered cs x := by
  unfold covered restrL
  rw [List.any_map, Bool.eq_iff_iff, List.any_eq_true, List.any_eq_true]
  constructor
  · rintro ⟨a, ha, q⟩
    obtain ⟨h1, h2⟩ := List.mem_filter.mp ha
    have hla := hl a h1
    exact ⟨a, h1, by rw [← restr_in a c x (by omega) (by omega) h h2]; exact q⟩
  · rintro ⟨a, ha, q⟩
    have hla := hl a ha
    have k := in_compat a c x (by omega) (by omega) q h
    exact ⟨a, List.mem_filter.mpr ⟨ha, k⟩, by show isInZ (restr a c) x = true; rw [restr_in a c x (by omega) (by omega) h k]; exact q⟩

/-! complements -/
def firstLit (cs : List (List Nat)) (w : Nat) : Nat := ((List.range w).find? fun k => cs.any fun c => c.getD k 0 != 45).getD w
def live (cs : List (List Nat)) (w : Nat) : Nat := (List.range w).countP fun k => cs.any fun c => c.getD k 0 != 45
def complF (w : Nat) : Nat → List (List Nat) → List (List Nat)
  | 0, _ => []
  | f + 1, cs => if cs = [] then [free w] else if cs.any (fun c => c.all (· == 45)) then [] else
    ((complF w f (restrL cs (withC (free w) (firstLit cs w) 48))).map fun c => withC c (firstLit cs w) 48) ++ (complF w f (restrL cs (withC (free w) (firstLit cs w) 49))).map fun c => withC c (firstLit cs w) 49
theorem live_le (cs : List (List Nat)) (w : Nat) : live cs w ≤ w := by
  unfold live
  have := List.countP_le_length (p := fun k => cs.any fun c => c.getD k 0 != 45) (l := List.range w)
  simpa using this
theorem restrL_len (cs : List (List Nat)) (c : List Nat) : (restrL cs c).length ≤ cs.length := by
  unfold restrL
  rw [List.length_map]
  exact List.length_filter_le _ _
theorem restrL_ok {cs : List (List Nat)} {c : List Nat} {w : Nat} (h : ∀ a ∈ cs, Cube a ∧ a.length = w) (hc : c.length = w := by simp [withC_len, free_len, *]) : ∀ a ∈ restrL cs c, Cube a ∧ a.length = w := fun a ha => by
  unfold restrL at ha
  obtain ⟨b, hb, rfl⟩ := List.mem_map.mp ha
  have := h b (List.mem_filter.mp hb).1
  exact ⟨restr_cube b c this.1, by rw [restr_len b c (by omega)]; exact this.2⟩
theorem firstLit_lt {cs : List (List Nat)} {w : Nat} (h : ∀ a ∈ cs, a.length = w) (ne : cs ≠ []) (hn : cs.any (fun c => c.all (· == 45)) = false) : firstLit cs w < w ∧ (cs.any fun c => c.getD (firstLit cs w) 0 != 45) = true := by
  unfold firstLit
  cases q : (List.range w).find? (fun k => cs.any fun c => c.getD k 0 != 45) with
  | some k =>
    have := List.find?_some q
    exact ⟨List.mem_range.mp (List.mem_of_find?_eq_some q), this⟩
  | none =>
    exfalso
    rw [List.find?_eq_none] at q
    obtain ⟨c, hc⟩ := List.exists_mem_of_ne_nil cs ne
    rw [List.any_eq_false] at hn
    refine hn c hc (List.all_eq_true.mpr fun y hy => ?_)
    obtain ⟨k, hk, rfl⟩ := List.mem_iff_getElem.mp hy
    have := q k (List.mem_range.mpr (by rw [← h c hc]; exact hk))
    rw [List.any_eq_true] at this
    by_cases z : c[k] = 45
    · rw [z]; rfl
    · exact absurd ⟨c, hc, by rw [List.getD_eq_getElem?_getD, List.getElem?_eq_getElem hk]; simpa using z⟩ this
theorem restr_getD {a c : List Nat} (h : a.length = c.length) {k : Nat} (hk : k < a.length) : (restr a c).getD k 0 = if c.getD k 0 = 45 then a.getD k 0 else 45 := by
  rw [← restr_map a c h, List.getD_eq_getElem?_getD, List.getElem?_map, List.getElem?_range hk]
  rfl
theorem free_getD {w k : Nat} (h : k < w) : (free w).getD k 0 = 45 := by
  unfold free
  rw [List.getD_eq_getElem?_getD, List.getElem?_replicate]
  simp [h]
theorem live_half {cs : List (List Nat)} {w i v : Nat} (h : ∀ a ∈ cs, Cube a ∧ a.length = w) (hi : i < w) (hl : (cs.any fun c => c.getD i 0 != 45) = true) (hv : v ≠ 45) : live (restrL cs (withC (free w) i v)) w < live cs w := by
  unfold live
  have wl : (withC (free w) i v).length = w := by rw [withC_len _ _ _ (by rw [free_len]; exact hi), free_len]
  have key : ∀ k, k < w → ((restrL cs (withC (free w) i v)).any fun c => c.getD k 0 != 45) = true → k ≠ i ∧ (cs.any fun c => c.getD k 0 != 45) = true := fun k hk hz => by
    rw [List.any_eq_true] at hz
    obtain ⟨c, hc, hz⟩ := hz
    unfold restrL at hc
    obtain ⟨a, ha, rfl⟩ := List.mem_map.mp hc
    have hm := (List.mem_filter.mp ha).1
    have al := (h a hm).2
    rw [restr_getD (by omega) (by omega), withC_getD _ _ _ _ (by rw [free_len]; exact hi)] at hz
    by_cases e : k = i
    · rw [if_pos e, if_neg hv] at hz
      simp at hz
    · rw [if_neg e, free_getD hk, if_pos rfl] at hz
      exact ⟨e, List.any_eq_true.mpr ⟨a, hm, hz⟩⟩
  have strict : ∀ (n : Nat) (p q : Nat → Bool), i < n → p i = false → q i = true → (∀ k, k < n → p k = true → q k = true) → (List.range n).countP p < (List.range n).countP q := by
    intro n
    induction n with
    | zero => intro p q hi; omega
    | succ n ih =>
      intro p q hi hp hq hpq
      rw [List.range_succ, List.countP_append, List.countP_append]
      have mono : (List.range n).countP p ≤ (List.range n).countP q := List.countP_mono_left fun k hk => hpq k (by have := List.mem_range.mp hk; omega)
      simp only [List.countP_cons, List.countP_nil, Nat.zero_add]
      by_cases e : i = n
      · subst e
        rw [hp, hq]
        simp; omega
      · have := ih p q (by omega) hp hq fun k hk => hpq k (by omega)
        have : (if p n = true then 1 else 0) ≤ (if q n = true then 1 else 0) := by
          by_cases z : p n = true
          · rw [if_pos z, if_pos (hpq n (by omega) z)]; exact Nat.le_refl _
          · rw [if_neg z]; omega
        omega
  refine strict w _ _ hi ?_ hl fun k hk hz => (key k hk hz).2
  rw [Bool.eq_false_iff]
  intro z
  exact (key i hi z).1 rfl
theorem complF_len (w : Nat) : ∀ (f : Nat) (cs : List (List Nat)), (complF w f cs).length ≤ 2 ^ f
  | 0, _ => by simp [complF]
  | f + 1, cs => by
    unfold complF
    split
    · simp; exact Nat.one_le_two_pow
    · split
      · simp
      · have h1 := complF_len w f (restrL cs (withC (free w) (firstLit cs w) 48))
        have h2 := complF_len w f (restrL cs (withC (free w) (firstLit cs w) 49))
        rw [List.length_append, List.length_map, List.length_map, Nat.pow_succ]
        omega
theorem half_len {w : Nat} (i v : Nat) (h : i < w) : (withC (free w) i v).length = w := by rw [withC_len _ _ _ (by rw [free_len]; exact h), free_len]
/-- the cubes of a complement; what no cube of the cover speaks of, none of the complement does -/
theorem complF_all {w : Nat} : ∀ (f : Nat) (cs : List (List Nat)), (∀ a ∈ cs, Cube a ∧ a.length = w) → ∀ c ∈ complF w f cs, (Cube c ∧ c.length = w) ∧ ∀ k, k < w → (∀ a ∈ cs, a.getD k 0 = 45) → c.getD k 0 = 45
  | 0, _, _, c, hc => by simp [complF] at hc
  | f + 1, cs, h, c, hc => by
    unfold complF at hc
    split at hc
    · have := List.mem_singleton.mp hc
      subst this
      exact ⟨⟨free_cube w, free_len w⟩, fun k hk _ => free_getD hk⟩
    · rename_i ne
      split at hc
      · cases hc
      · rename_i nf
        rw [Bool.not_eq_true] at nf
        obtain ⟨i1, i2⟩ := firstLit_lt (fun a ha => (h a ha).2) ne nf
        have one : ∀ v, v = 48 ∨ v = 49 → ∀ c ∈ (complF w f (restrL cs (withC (free w) (firstLit cs w) v))).map (fun c => withC c (firstLit cs w) v), (Cube c ∧ c.length = w) ∧ ∀ k, k < w → (∀ a ∈ cs, a.getD k 0 = 45) → c.getD k 0 = 45 := fun v hv c hc => by
          obtain ⟨b, hb, rfl⟩ := List.mem_map.mp hc
          have wl := half_len (firstLit cs w) v i1
          obtain ⟨⟨b1, b2⟩, b3⟩ := complF_all f _ (restrL_ok h wl) b hb
          have hi : firstLit cs w < b.length := by omega
          refine ⟨⟨withC_cube b _ v (by unfold Sg; omega) b1, by rw [withC_len _ _ _ hi]; exact b2⟩, fun k hk hd => ?_⟩
          rw [withC_getD _ _ _ _ hi]
          by_cases e : k = firstLit cs w
          · exfalso
            rw [List.any_eq_true] at i2
            obtain ⟨a, ha, z⟩ := i2
            rw [← e, hd a ha] at z
            simp at z
          · rw [if_neg e]
            refine b3 k hk fun a ha => ?_
            unfold restrL at ha
            obtain ⟨a', ha', rfl⟩ := List.mem_map.mp ha
            have hm := (List.mem_filter.mp ha').1
            rw [restr_getD (by rw [wl]; exact (h a' hm).2) (by rw [(h a' hm).2]; exact hk), hd a' hm]
            simp
        rcases List.mem_append.mp hc with z | z
        · exact one 48 (.inl rfl) c z
        · exact one 49 (.inr rfl) c z
theorem complF_ok {w : Nat} (f : Nat) (cs : List (List Nat)) (h : ∀ a ∈ cs, Cube a ∧ a.length = w) : ∀ c ∈ complF w f cs, Cube c ∧ c.length = w := fun c hc => (complF_all f cs h c hc).1
theorem inZ_iff {c x : List Nat} (h : c.length = x.length) : isInZ c x = true ↔ ∀ k, k < x.length → c.getD k 0 = 45 ∨ c.getD k 0 = x.getD k 0 := by rw [← isIn_eq c x h, isIn_iff]
theorem in_withC {c x : List Nat} {i v : Nat} (h : c.length = x.length) (hi : i < c.length) (hv : v ≠ 45) (h45 : c.getD i 0 = 45) : isInZ (withC c i v) x = (decide (x.getD i 0 = v) && isInZ c x) := by
  have wl := withC_len c i v hi
  rw [Bool.eq_iff_iff, inZ_iff (by omega), Bool.and_eq_true, decide_eq_true_iff, inZ_iff h]
  constructor
  · intro z
    have zi := z i (by omega)
    rw [withC_getD _ _ _ _ hi, if_pos rfl] at zi
    refine ⟨(zi.resolve_left hv).symm, fun k hk => ?_⟩
    have zk := z k hk
    rw [withC_getD _ _ _ _ hi] at zk
    by_cases e : k = i
    · subst e; exact .inl h45
    · rw [if_neg e] at zk; exact zk
  · rintro ⟨z1, z2⟩ k hk
    rw [withC_getD _ _ _ _ hi]
    by_cases e : k = i
    · subst e; rw [if_pos rfl]; exact .inr z1.symm
    · rw [if_neg e]; exact z2 k hk
theorem in_free {w : Nat} {x : List Nat} (h : x.length = w) : isInZ (free w) x = true := (inZ_iff (by rw [free_len, h])).mpr fun k hk => .inl (free_getD (by omega))
/-- how many cubes of a list hold a code -/
def many (cs : List (List Nat)) (x : List Nat) : Nat := (cs.filter fun c => isInZ c x).length
theorem many_covered (cs : List (List Nat)) (x : List Nat) : covered cs x = decide (0 < many cs x) := by
  unfold covered many
  rw [Bool.eq_iff_iff, List.any_eq_true, decide_eq_true_iff, List.length_pos_iff_exists_mem]
  constructor
  · rintro ⟨a, h1, h2⟩
    exact ⟨a, List.mem_filter.mpr ⟨h1, h2⟩⟩
  · rintro ⟨a, h⟩
    exact ⟨a, (List.mem_filter.mp h).1, (List.mem_filter.mp h).2⟩
theorem complF_many {w : Nat} {x : List Nat} (hx : x.length = w) (cx : Code x) : ∀ (f : Nat) (cs : List (List Nat)), (∀ a ∈ cs, Cube a ∧ a.length = w) → live cs w < f → many (complF w f cs) x = if covered cs x then 0 else 1
  | 0, _, _, h => by omega
  | f + 1, cs, h, hl => by
    unfold complF
    by_cases q : cs = []
    · subst q
      rw [if_pos rfl]
      unfold many
      rw [List.filter_cons, if_pos (in_free hx)]
      rfl
    · rw [if_neg q]
      cases q2 : cs.any (fun c => c.all (· == 45)) with
      | true =>
        rw [if_pos rfl]
        rw [List.any_eq_true] at q2
        obtain ⟨c, hc, z⟩ := q2
        have : covered cs x = true := by
          unfold covered
          refine List.any_eq_true.mpr ⟨c, hc, (inZ_iff (by rw [(h c hc).2, hx])).mpr fun k hk => .inl ?_⟩
          have hk : k < c.length := by rw [(h c hc).2]; omega
          rw [List.getD_eq_getElem?_getD, List.getElem?_eq_getElem hk]
          exact beq_iff_eq.mp (List.all_eq_true.mp z _ (List.getElem_mem hk))
        rw [this]
        rfl
      | false =>
        rw [if_neg Bool.false_ne_true]
        obtain ⟨i1, i2⟩ := firstLit_lt (fun a ha => (h a ha).2) q q2
        have one : ∀ v, v = 48 ∨ v = 49 → many ((complF w f (restrL cs (withC (free w) (firstLit cs w) v))).map fun c => withC c (firstLit cs w) v) x = if x.getD (firstLit cs w) 0 = v then (if covered cs x then 0 else 1) else 0 := fun v hv => by
          have v45 : v ≠ 45 := by omega
          have wl := half_len (firstLit cs w) v i1
          have hr := restrL_ok h wl
          have ih := complF_many hx cx f _ hr (by have := live_half (v := v) h i1 i2 v45; omega)
          unfold many at ih ⊢
          rw [List.filter_map, List.length_map]
          have e : (complF w f (restrL cs (withC (free w) (firstLit cs w) v))).filter ((fun c => isInZ c x) ∘ fun c => withC c (firstLit cs w) v) = (complF w f (restrL cs (withC (free w) (firstLit cs w) v))).filter fun c => decide (x.getD (firstLit cs w) 0 = v) && isInZ c x := by
            refine List.filter_congr fun c hc => ?_
            obtain ⟨⟨c1, c2⟩, c3⟩ := complF_all f _ hr c hc
            refine in_withC (by omega) (by omega) v45 (c3 _ i1 fun a ha => ?_)
            unfold restrL at ha
            obtain ⟨a', ha', rfl⟩ := List.mem_map.mp ha
            have hm := (List.mem_filter.mp ha').1
            rw [restr_getD (by rw [wl]; exact (h a' hm).2) (by rw [(h a' hm).2]; exact i1), withC_getD _ _ _ _ (by rw [free_len]; exact i1), if_pos rfl, if_neg v45]
          rw [e]
          by_cases z : x.getD (firstLit cs w) 0 = v
          · rw [if_pos z]
            simp only [z, decide_true, Bool.true_and]
            rw [ih, restrL_covered cs (withC (free w) (firstLit cs w) v) x (fun a ha => (h a ha).2) wl hx (by
              rw [in_withC (by rw [free_len, hx]) (by rw [free_len]; exact i1) v45 (free_getD i1), in_free hx, z]; simp)]
          · rw [if_neg z]
            simp [z, -List.getD_eq_getElem?_getD]
        have app : ∀ a b : List (List Nat), many (a ++ b) x = many a x + many b x := fun a b => by unfold many; rw [List.filter_append, List.length_append]
        rw [app, one 48 (.inl rfl), one 49 (.inr rfl)]
        have : x.getD (firstLit cs w) 0 = 48 ∨ x.getD (firstLit cs w) 0 = 49 := by
          have hk : firstLit cs w < x.length := by omega
          rw [List.getD_eq_getElem?_getD, List.getElem?_eq_getElem hk]
          exact cx _ (List.getElem_mem hk)
        rcases this with z | z <;> rw [z] <;> simp
end PV

set_option Elab.async false
set_option linter.all false
set_option maxRecDepth 100000
set_option maxHeartbeats 4000000
/-! widening cubes, prime cubes, compact covers; on and off codes -/
namespace PV
open Cub
/-- `Option.bind_some` as a law that simp must prove by, not a definition it may leave to the kernel -/
theorem bS {α β : Type} (a : α) (f : α → Option β) : Option.bind (some a) f = f a := by
  have h : ∀ o : Option α, o = some a → o.bind f = f a := fun o h => by rw [h]; rfl
  exact h _ rfl
theorem foldO_ex {f : σ → γ → Option σ} (Inv : Nat → σ → Prop) : ∀ (l : List γ) (k : Nat) (s : σ), Inv k s → (∀ i s y, l[i]? = some y → Inv (k + i) s → ∃ s', f s y = some s' ∧ Inv (k + i + 1) s') → ∃ s', foldO l s f = some s' ∧ Inv (k + l.length) s' := by
  intro l
  induction l with
  | nil => intro k s h _; exact ⟨s, rfl, h⟩
  | cons y l ih =>
    intro k s h hf
    obtain ⟨s1, e1, h1⟩ := hf 0 s y rfl h
    obtain ⟨s2, e2, h2⟩ := ih (k + 1) s1 h1 (fun i s y hy hi => by
      obtain ⟨s', e, h'⟩ := hf (i + 1) s y hy (by rw [show k + (i + 1) = k + 1 + i by omega]; exact hi)
      exact ⟨s', e, by rw [show k + 1 + i + 1 = k + (i + 1) + 1 by omega]; exact h'⟩)
    refine ⟨s2, ?_, by rw [List.length_cons, show k + (l.length + 1) = k + 1 + l.length by omega]; exact h2⟩
    show (f s y).bind _ = _
    rw [e1, Option.bind_some, e2]
theorem ex_bind {ω : Type} {f : σ → γ → Option σ} {l : List γ} {s : σ} {K : σ → Option ω} {r : Option ω} (Inv : Nat → σ → Prop) (h0 : Inv 0 s) (hf : ∀ i s y, l[i]? = some y → Inv i s → ∃ s', f s y = some s' ∧ Inv (i + 1) s') (k : ∀ s', Inv l.length s' → K s' = r) : (foldO l s f).bind K = r := by
  obtain ⟨s', e, h⟩ := foldO_ex Inv l 0 s h0 (by simpa using hf)
  rw [e, Option.bind_some]
  exact k s' (by simpa using h)
theorem cut_mem {l : List α} {a b : Option Int} {x : α} (h : x ∈ cut l a b) : x ∈ l := by
  unfold cut at h
  exact List.mem_of_mem_drop (List.mem_of_mem_take h)
theorem cut_len {l : List α} {a b : Option Int} : (cut l a b).length ≤ l.length := by
  unfold cut
  rw [List.length_take, List.length_drop]
  omega
def avoidB (off : List (List Nat)) (c : List Nat) : Bool := !(off.any fun x => isInZ c x)
def expF (off : List (List Nat)) (c : List Nat) (k : Nat) : List Nat := if avoidB off (withC c k 45) then withC c k 45 else c
def expandF (off : List (List Nat)) (c : List Nat) : List Nat := (List.range c.length).foldl (expF off) c
def primeB (off : List (List Nat)) (c : List Nat) : Bool := avoidB off c && !((List.range c.length).any fun k => c.getD k 0 != 45 && avoidB off (withC c k 45))
theorem expF_len (off : List (List Nat)) (c : List Nat) (k : Nat) (h : k < c.length) : (expF off c k).length = c.length := by
  unfold expF
  split
  · exact withC_len _ _ _ h
  · rfl
theorem in_with_mono {a b x : List Nat} {k : Nat} (ha : a.length = x.length) (hb : b.length = x.length) (hk : k < x.length) (h : ∀ j, j < x.length → b.getD j 0 = 45 ∨ b.getD j 0 = a.getD j 0) (i : isInZ (withC a k 45) x = true) : isInZ (withC b k 45) x = true := by
  rw [inZ_iff (by rw [withC_len _ _ _ (by omega), ha])] at i
  rw [inZ_iff (by rw [withC_len _ _ _ (by omega), hb])]
  intro j hj
  have := i j hj
  rw [withC_getD _ _ _ _ (by omega)] at this ⊢
  by_cases q : j = k
  · left; rw [if_pos q]
  · rw [if_neg q] at this ⊢
    rcases h j hj with z | z
    · exact .inl z
    · rw [z]; exact this
theorem in_mono {a b x : List Nat} (ha : a.length = x.length) (hb : b.length = x.length) (h : ∀ j, j < x.length → b.getD j 0 = 45 ∨ b.getD j 0 = a.getD j 0) (i : isInZ a x = true) : isInZ b x = true := by
  rw [inZ_iff ha] at i
  rw [inZ_iff hb]
  intro j hj
  rcases h j hj with z | z
  · exact .inl z
  · rw [z]; exact i j hj
/-- what widening keeps, step by step -/
structure Wide (off : List (List Nat)) (c : List Nat) (i : Nat) (s : List Nat) : Prop where
  len : s.length = c.length
  cube : Cube s
  avoid : avoidB off s = true
  wide : ∀ j, j < c.length → s.getD j 0 = 45 ∨ s.getD j 0 = c.getD j 0
  stuck : ∀ j, j < i → j < c.length → s.getD j 0 = 45 ∨ avoidB off (withC s j 45) = false
theorem avoid_mono {off : List (List Nat)} {a b : List Nat} (ho : ∀ x ∈ off, x.length = a.length) (hb : b.length = a.length) (h : ∀ j, j < a.length → b.getD j 0 = 45 ∨ b.getD j 0 = a.getD j 0) {k : Nat} (hk : k < a.length) (i : avoidB off (withC a k 45) = false) : avoidB off (withC b k 45) = false := by
  unfold avoidB at *
  simp only [Bool.not_eq_false', List.any_eq_true] at *
  obtain ⟨x, hx, i⟩ := i
  have e := ho x hx
  exact ⟨x, hx, in_with_mono e.symm (by omega) (by omega) (fun j hj => h j (by omega)) i⟩
theorem wide_step {off : List (List Nat)} {c s : List Nat} {i : Nat} (ho : ∀ x ∈ off, x.length = c.length) (hi : i < c.length) (h : Wide off c i s) : Wide off c (i + 1) (expF off s i) := by
  have l := h.len
  unfold expF
  by_cases q : avoidB off (withC s i 45) = true
  · rw [if_pos q]
    refine ⟨by rw [withC_len _ _ _ (by omega), l], withC_cube _ _ _ (.inr (.inr rfl)) h.cube, q, fun j hj => ?_, fun j hj hc => ?_⟩
    · rw [withC_getD _ _ _ _ (by omega)]
      split
      · exact .inl rfl
      · exact h.wide j hj
    · rw [withC_getD _ _ _ _ (by omega)]
      by_cases z : j = i
      · left; rw [if_pos z]
      · rw [if_neg z]
        refine (h.stuck j (by omega) hc).imp id fun e => ?_
        refine avoid_mono (a := s) (by rw [l]; exact ho) (withC_len _ _ _ (by omega)) (fun k hk => ?_) (by omega) e
        rw [withC_getD _ _ _ _ (by omega)]
        split
        · exact .inl rfl
        · exact .inr rfl
  · rw [if_neg q]
    refine ⟨l, h.cube, h.avoid, h.wide, fun j hj hc => ?_⟩
    by_cases z : j = i
    · right; subst z; simpa using q
    · exact h.stuck j (by omega) hc
theorem wide_all {off : List (List Nat)} {c : List Nat} (ho : ∀ x ∈ off, x.length = c.length) (hc : Cube c) (ha : avoidB off c = true) : Wide off c c.length (expandF off c) := by
  have : ∀ n, n ≤ c.length → Wide off c n ((List.range n).foldl (expF off) c) := by
    intro n
    induction n with
    | zero => intro _; exact ⟨rfl, hc, ha, fun _ _ => .inr rfl, fun j hj => absurd hj (Nat.not_lt_zero j)⟩
    | succ n ih =>
      intro h
      rw [List.range_succ, List.foldl_append]
      exact wide_step ho (by omega) (ih (by omega))
  exact this _ (Nat.le_refl _)
theorem wide_prime {off : List (List Nat)} {c s : List Nat} (h : Wide off c c.length s) : primeB off s = true := by
  unfold primeB
  rw [h.avoid, Bool.true_and, Bool.not_eq_true', List.any_eq_false]
  intro k hk
  have hk := List.mem_range.mp hk
  rw [h.len] at hk
  rcases h.stuck k hk hk with z | z
  · rw [z]; simp
  · rw [z]; simp
theorem expand_len (off : List (List Nat)) (c : List Nat) : (expandF off c).length = c.length := by
  have : ∀ n, n ≤ c.length → ((List.range n).foldl (expF off) c).length = c.length := by
    intro n
    induction n with
    | zero => intro _; rfl
    | succ n ih =>
      intro h
      rw [List.range_succ, List.foldl_append]
      show (expF off _ n).length = _
      rw [expF_len _ _ _ (by rw [ih (by omega)]; omega), ih (by omega)]
  exact this _ (Nat.le_refl _)
/-! codes in codes -/
theorem code_in {c x : List Nat} (hc : Code c) (h : c.length = x.length) (i : isInZ c x = true) : c = x := by
  rw [inZ_iff h] at i
  refine List.ext_getElem h fun k h1 h2 => ?_
  have := i k h2
  rw [show c.getD k 0 = c[k] from by rw [List.getD_eq_getElem?_getD, List.getElem?_eq_getElem h1]; rfl, show x.getD k 0 = x[k] from by rw [List.getD_eq_getElem?_getD, List.getElem?_eq_getElem h2]; rfl] at this
  rcases this with z | z
  · rcases hc _ (List.getElem_mem h1) with q | q <;> omega
  · exact z
theorem in_self (x : List Nat) : isInZ x x = true := (inZ_iff rfl).mpr fun _ _ => .inr rfl
theorem code_cube {x : List Nat} (h : Code x) : Cube x := fun y hy => by
  rcases h y hy with z | z
  · exact .inl z
  · exact .inr (.inl z)
/-- what `_law_function` hands out -/
structure FN (w : Nat) (on off : List (List Nat)) : Prop where
  ons : ∀ x ∈ on, x.length = w ∧ Code x
  offs : ∀ x ∈ off, x.length = w ∧ Code x
  apart : ∀ x ∈ on, x ∉ off
  lon : on.length ≤ 128
  loff : off.length ≤ 128
theorem FN.avoid {w : Nat} {on off : List (List Nat)} (h : FN w on off) {x : List Nat} (hx : x ∈ on) : avoidB off x = true := by
  unfold avoidB
  rw [Bool.not_eq_true', List.any_eq_false]
  intro y hy e
  have h1 := h.ons x hx
  have h2 := h.offs y hy
  have := code_in h1.2 (by omega) e
  exact h.apart x hx (this ▸ hy)
/-! no code stands twice -/
def valF (a x : Nat) : Nat := 2 * a + (x - 48)
theorem val_code : ∀ (w k : Nat) (t : List Nat), k < 2 ^ w → (codeOf (k : Int) w t).foldl valF 0 = t.foldl valF k := by
  intro w
  induction w with
  | zero => intro k t h; have : k = 0 := by simpa using h
            subst this; rfl
  | succ w ih =>
    intro k t h
    show (codeOf ((k : Int) / 2) w (bit k :: t)).foldl valF 0 = _
    have e : ((k : Int) / 2) = ((k / 2 : Nat) : Int) := by omega
    have e2 : 2 ^ (w + 1) = 2 * 2 ^ w := by rw [Nat.pow_succ]; omega
    rw [e, ih _ _ (by omega)]
    show t.foldl valF (valF (k / 2) (bit k)) = _
    congr 1
    unfold valF bit
    split <;> omega
theorem code_at {w i j : Nat} {x : List Nat} (hi : (codes w)[i]? = some x) (hj : (codes w)[j]? = some x) : i = j := by
  have aux : ∀ {i : Nat}, (codes w)[i]? = some x → x.foldl valF 0 = i := fun {i} h => by
    obtain ⟨h1, h2⟩ := List.getElem?_eq_some_iff.mp h
    rw [codes_len] at h1
    rw [← h2]
    have e : (codes w)[i] = codeOf (i : Int) w [] := by simp [codes]
    rw [e, val_code w i [] h1]
    rfl
  rw [← aux hi, aux hj]
/-- the two growing lists of `_law_function` -/
structure FI (w : Nat) (i : Nat) (s : List (List Nat) × List (List Nat)) : Prop where
  a : ∀ x ∈ s.1, ∃ j, j < i ∧ (codes w)[j]? = some x
  b : ∀ x ∈ s.2, ∃ j, j < i ∧ (codes w)[j]? = some x
  c : ∀ x ∈ s.1, x ∉ s.2
  d : s.1.length ≤ i
  e : s.2.length ≤ i
theorem FI.skip {w i : Nat} {s} (h : FI w i s) : FI w (i + 1) s :=
  ⟨fun x hx => (h.a x hx).imp fun j q => ⟨by omega, q.2⟩, fun x hx => (h.b x hx).imp fun j q => ⟨by omega, q.2⟩, h.c, by have := h.d; omega, by have := h.e; omega⟩
theorem FI.left {w i : Nat} {s} {x : List Nat} (h : FI w i s) (hx : (codes w)[i]? = some x) : FI w (i + 1) (s.1 ++ [x], s.2) :=
  ⟨fun y hy => by
    rcases List.mem_append.mp hy with z | z
    · exact (h.a y z).imp fun j q => ⟨by omega, q.2⟩
    · rw [List.mem_singleton.mp z]; exact ⟨i, by omega, hx⟩,
   fun x hx => (h.b x hx).imp fun j q => ⟨by omega, q.2⟩,
   fun y hy => by
    rcases List.mem_append.mp hy with z | z
    · exact h.c y z
    · rw [List.mem_singleton.mp z]; intro q
      obtain ⟨j, h1, h2⟩ := h.b x q
      have := code_at hx h2
      omega,
   by have := h.d; simp; omega, by have := h.e; simp; omega⟩
theorem FI.right {w i : Nat} {s} {x : List Nat} (h : FI w i s) (hx : (codes w)[i]? = some x) : FI w (i + 1) (s.1, s.2 ++ [x]) :=
  ⟨fun x hx => (h.a x hx).imp fun j q => ⟨by omega, q.2⟩,
   fun y hy => by
    rcases List.mem_append.mp hy with z | z
    · exact (h.b y z).imp fun j q => ⟨by omega, q.2⟩
    · rw [List.mem_singleton.mp z]; exact ⟨i, by omega, hx⟩,
   fun y hy q => by
    rcases List.mem_append.mp q with z | z
    · exact h.c y hy z
    · rw [List.mem_singleton.mp z] at hy
      obtain ⟨j, h1, h2⟩ := h.a x hy
      have := code_at hx h2
      omega,
   by have := h.d; simp; omega, by have := h.e; simp; omega⟩
theorem FI.fn {w i : Nat} {s} {on off : List (List Nat)} (h : FI w i s) (hi : i ≤ 64) (h1 : ∀ x ∈ on, x ∈ s.1) (h2 : ∀ x ∈ off, x ∈ s.2) (l1 : on.length ≤ 2 * s.1.length) (l2 : off.length ≤ 2 * s.2.length) : FN w on off :=
  ⟨fun x hx => by obtain ⟨j, _, q⟩ := h.a x (h1 x hx); exact mem_codes.mp (List.mem_of_getElem? q),
   fun x hx => by obtain ⟨j, _, q⟩ := h.b x (h2 x hx); exact mem_codes.mp (List.mem_of_getElem? q),
   fun x hx q => h.c x (h1 x hx) (h2 x q), by have := h.d; omega, by have := h.e; omega⟩
/-! covers -/
def growF (off : List (List Nat)) (l : List (List Nat)) : List (List Nat) := l.foldl (fun cov x => if covered cov x then cov else cov ++ [expandF off x]) []
def growS (off : List (List Nat)) (cov : List (List Nat)) (x : List Nat) : List (List Nat) := if covered cov x then cov else cov ++ [expandF off x]
def dropAt (cov : List (List Nat)) (k : Nat) : List (List Nat) := cov.take k ++ cov.drop (k + 1)
def allIn (on cov : List (List Nat)) : Bool := on.all fun x => covered cov x
def trimF (on : List (List Nat)) : Nat → List (List Nat) → List (List Nat)
  | 0, cov => cov
  | k + 1, cov => trimF on k (if allIn on (dropAt cov k) then dropAt cov k else cov)
theorem covered_iff {cs : List (List Nat)} {x : List Nat} : covered cs x = true ↔ ∃ a ∈ cs, isInZ a x = true := by
  unfold covered
  rw [List.any_eq_true]
theorem covered_mono {a b : List (List Nat)} {x : List Nat} (h : ∀ c ∈ a, c ∈ b) (i : covered a x = true) : covered b x = true := by
  rw [covered_iff] at *
  obtain ⟨c, h1, h2⟩ := i
  exact ⟨c, h c h1, h2⟩
theorem dropAt_mem {cov : List (List Nat)} {k : Nat} {c : List Nat} (h : c ∈ dropAt cov k) : c ∈ cov := by
  rcases List.mem_append.mp h with z | z
  · exact List.mem_of_mem_take z
  · exact List.mem_of_mem_drop z
theorem dropAt_len (cov : List (List Nat)) (k : Nat) : (dropAt cov k).length ≤ cov.length := by
  unfold dropAt
  simp
  omega
theorem trimF_mem (on : List (List Nat)) : ∀ (k : Nat) (cov : List (List Nat)), ∀ c ∈ trimF on k cov, c ∈ cov := by
  intro k
  induction k with
  | zero => intro cov c h; exact h
  | succ k ih =>
    intro cov c h
    have := ih _ c h
    split at this
    · exact dropAt_mem this
    · exact this
theorem trimF_len (on : List (List Nat)) : ∀ (k : Nat) (cov : List (List Nat)), (trimF on k cov).length ≤ cov.length := by
  intro k
  induction k with
  | zero => intro cov; exact Nat.le_refl _
  | succ k ih =>
    intro cov
    have := ih (if allIn on (dropAt cov k) then dropAt cov k else cov)
    have h2 := dropAt_len cov k
    show (trimF on k _).length ≤ _
    split at this <;> (rename_i q; simp only [q, if_true, Bool.false_eq_true, if_false] at *; omega)
theorem trimF_all (on : List (List Nat)) : ∀ (k : Nat) (cov : List (List Nat)), allIn on cov = true → allIn on (trimF on k cov) = true := by
  intro k
  induction k with
  | zero => intro cov h; exact h
  | succ k ih =>
    intro cov h
    show allIn on (trimF on k _) = true
    refine ih _ ?_
    split
    · assumption
    · exact h
theorem allIn_mono {on a b : List (List Nat)} (h : ∀ c ∈ a, c ∈ b) (i : allIn on a = true) : allIn on b = true := by
  unfold allIn at *
  rw [List.all_eq_true] at *
  exact fun x hx => covered_mono h (i x hx)
theorem dropAt_at {cov : List (List Nat)} {j : Nat} {c : List Nat} : c ∈ dropAt cov j ↔ ∃ i, i ≠ j ∧ cov[i]? = some c := by
  unfold dropAt
  constructor
  · intro h
    rcases List.mem_append.mp h with z | z
    · obtain ⟨i, hi⟩ := List.mem_iff_getElem?.mp z
      rw [List.getElem?_take] at hi
      split at hi
      · exact ⟨i, by omega, hi⟩
      · cases hi
    · obtain ⟨i, hi⟩ := List.mem_iff_getElem?.mp z
      rw [List.getElem?_drop] at hi
      exact ⟨j + 1 + i, by omega, hi⟩
  · rintro ⟨i, hi, e⟩
    rw [List.mem_append]
    by_cases q : i < j
    · left
      exact List.mem_iff_getElem?.mpr ⟨i, by rw [List.getElem?_take, if_pos q]; exact e⟩
    · right
      exact List.mem_iff_getElem?.mpr ⟨i - (j + 1), by rw [List.getElem?_drop]; rw [show j + 1 + (i - (j + 1)) = i by omega]; exact e⟩
theorem dropAt_get (cov : List (List Nat)) (k i : Nat) (hk : k < cov.length) : (dropAt cov k)[i]? = if i < k then cov[i]? else cov[i + 1]? := by
  unfold dropAt
  rw [List.getElem?_append, List.length_take, Nat.min_eq_left (by omega)]
  split
  · rw [List.getElem?_take, if_pos (by assumption)]
  · rw [List.getElem?_drop]; congr 1; omega
theorem trimF_tight (on : List (List Nat)) : ∀ (k : Nat) (cov : List (List Nat)), k ≤ cov.length → (∀ j, k ≤ j → j < cov.length → allIn on (dropAt cov j) = false) → ∀ j, j < (trimF on k cov).length → allIn on (dropAt (trimF on k cov) j) = false := by
  intro k
  induction k with
  | zero => intro cov _ h j hj; exact h j (Nat.zero_le _) hj
  | succ k ih =>
    intro cov hk h
    show ∀ j, j < (trimF on k _).length → allIn on (dropAt (trimF on k _) j) = false
    by_cases q : allIn on (dropAt cov k) = true
    · rw [if_pos q]
      have l : (dropAt cov k).length = cov.length - 1 := by unfold dropAt; simp; omega
      refine ih _ (by omega) fun j h1 h2 => ?_
      rw [Bool.eq_false_iff]
      intro z
      have := h (j + 1) (by omega) (by omega)
      rw [Bool.eq_false_iff] at this
      refine this (allIn_mono (fun c hc => ?_) z)
      obtain ⟨i, h3, h4⟩ := dropAt_at.mp hc
      rw [dropAt_get _ _ _ (by omega)] at h4
      rw [dropAt_at]
      split at h4
      · exact ⟨i, by omega, h4⟩
      · exact ⟨i + 1, by omega, h4⟩
    · rw [if_neg q]
      refine ih _ (by omega) fun j h1 h2 => ?_
      by_cases z : j = k
      · subst z; simpa using q
      · exact h j (by omega) h2
def markS (on : List (List Nat)) (s : List (Option (List Nat))) (a : Nat) : List (Option (List Nat)) := if allIn on ((s.set a none).filterMap id) then s.set a none else s
theorem marks_rest {cov : List (List Nat)} {a : Nat} {x : List Nat} {M s : List (Option (List Nat))} (sM : s = (cov.take a).map some ++ some x :: M) (la : (cov.take a).length = a) : ((List.range s.length).map fun k : Nat => (k : Int)).filterMap (fun y => if y.toNat = a then none else (s[y.toNat]?).join) = cov.take a ++ M.filterMap id := by
  rw [List.filterMap_map]
  have aux : ∀ (l : List (Option (List Nat))) (b : Nat), (List.range l.length).filterMap (fun j => if b + j = a then none else (l[j]?).join) = if a < b then l.filterMap id else (l.set (a - b) none).filterMap id := by
    intro l
    induction l with
    | nil => intro b; split <;> rfl
    | cons o l ih =>
      intro b
      rw [List.length_cons, List.range_succ_eq_map, List.filterMap_cons, List.filterMap_map]
      have e : (List.range l.length).filterMap ((fun j => if b + j = a then none else ((o :: l)[j]?).join) ∘ Nat.succ) = (List.range l.length).filterMap (fun j => if b + 1 + j = a then none else (l[j]?).join) := by
        congr 1
        funext j
        simp only [Function.comp_apply, Nat.succ_eq_add_one, List.getElem?_cons_succ]
        rw [show b + (j + 1) = b + 1 + j by omega]
      rw [e, ih (b + 1)]
      rw [Nat.add_zero]
      by_cases h1 : a < b
      · have h3 : a < b + 1 := by omega
        have h4 : ¬ b = a := by omega
        simp only [h1, h3, h4, if_true, if_false]
        cases o <;> simp
      · by_cases h2 : b = a
        · subst h2
          have h3 : b < b + 1 := by omega
          simp only [h1, h3, if_true, if_false]
          simp
        · have h3 : ¬ a < b + 1 := by omega
          simp only [h1, h2, h3, if_false]
          obtain ⟨d, hd⟩ : ∃ d, a - b = d + 1 := ⟨a - b - 1, by omega⟩
          rw [hd, show a - (b + 1) = d by omega]
          cases o <;> simp
  have := aux s 0
  rw [if_neg (by omega)] at this
  have e : (fun (k : Nat) => if ((k : Int)).toNat = a then none else (s[((k : Int)).toNat]?).join) = (fun j => if 0 + j = a then none else (s[j]?).join) := by
    funext j
    rw [Int.toNat_natCast, Nat.zero_add]
  show (List.range s.length).filterMap (fun (k : Nat) => if ((k : Int)).toNat = a then none else (s[((k : Int)).toNat]?).join) = _
  rw [e, this, Nat.sub_zero, sM, List.set_append_right _ _ (by simp; omega), List.filterMap_append, List.filterMap_map, List.length_map, la, Nat.sub_self]
  simp
/-- what the growing cover keeps -/
structure Grown (w : Nat) (off : List (List Nat)) (done cov : List (List Nat)) : Prop where
  ok : ∀ c ∈ cov, Cube c ∧ c.length = w
  prime : ∀ c ∈ cov, primeB off c = true
  all : ∀ x ∈ done, covered cov x = true
  len : cov.length ≤ done.length
theorem grown_step {w : Nat} {off done cov : List (List Nat)} {x : List Nat} (ho : ∀ x ∈ off, x.length = w ∧ Code x) (hx : x.length = w ∧ Code x) (ha : avoidB off x = true) (h : Grown w off done cov) : Grown w off (done ++ [x]) (growS off cov x) := by
  unfold growS
  have W := wide_all (off := off) (c := x) (fun y hy => by rw [(ho y hy).1, hx.1]) (code_cube hx.2) ha
  by_cases q : covered cov x = true
  · rw [if_pos q]
    refine ⟨h.ok, h.prime, fun y hy => ?_, by have := h.len; simp; omega⟩
    rcases List.mem_append.mp hy with z | z
    · exact h.all y z
    · rw [List.mem_singleton.mp z]; exact q
  · rw [if_neg q]
    refine ⟨fun c hc => ?_, fun c hc => ?_, fun y hy => ?_, by have := h.len; simp; omega⟩
    · rcases List.mem_append.mp hc with z | z
      · exact h.ok c z
      · rw [List.mem_singleton.mp z]; exact ⟨W.cube, by rw [W.len, hx.1]⟩
    · rcases List.mem_append.mp hc with z | z
      · exact h.prime c z
      · rw [List.mem_singleton.mp z]; exact wide_prime W
    · rcases List.mem_append.mp hy with z | z
      · exact covered_mono (fun c hc => List.mem_append_left _ hc) (h.all y z)
      · rw [List.mem_singleton.mp z, covered_iff]
        exact ⟨_, List.mem_append_right _ (List.mem_singleton.mpr rfl), in_mono rfl (by rw [W.len]) (fun j hj => W.wide j hj) (in_self x)⟩
theorem grown_all {w : Nat} {on off : List (List Nat)} (h : FN w on off) : ∀ (l : List (List Nat)), (∀ x ∈ l, x ∈ on) → Grown w off l (growF off l) := by
  have : ∀ (l done cov : List (List Nat)), (∀ x ∈ l, x ∈ on) → Grown w off done cov → Grown w off (done ++ l) (l.foldl (growS off) cov) := by
    intro l
    induction l with
    | nil => intro done cov _ g; rw [List.append_nil]; exact g
    | cons x l ih =>
      intro done cov hl g
      have := ih (done ++ [x]) (growS off cov x) (fun y hy => hl y (List.mem_cons_of_mem _ hy)) (grown_step h.offs (h.ons x (hl x List.mem_cons_self)) (h.avoid (hl x List.mem_cons_self)) g)
      rw [List.append_assoc] at this
      exact this
  intro l hl
  exact this l [] [] hl ⟨fun _ h => (by cases h), fun _ h => (by cases h), fun _ h => (by cases h), Nat.le_refl _⟩
/-- the compact cover -/
def compactF (on off : List (List Nat)) : List (List Nat) := trimF on (growF off (on.mergeSort leS)).length (growF off (on.mergeSort leS))
theorem grown_on {w : Nat} {on off : List (List Nat)} (h : FN w on off) : Grown w off (on.mergeSort leS) (growF off (on.mergeSort leS)) := grown_all h _ fun x hx => (List.mergeSort_perm on leS).mem_iff.mp hx
theorem grown_in {w : Nat} {on off : List (List Nat)} (h : FN w on off) : allIn on (growF off (on.mergeSort leS)) = true := by
  unfold allIn
  rw [List.all_eq_true]
  exact fun x hx => (grown_on h).all x ((List.mergeSort_perm on leS).mem_iff.mpr hx)
end PV

set_option Elab.async false
set_option linter.all false
set_option maxRecDepth 100000
set_option maxHeartbeats 400000
namespace K29
open PySem PySem.Spec PyProof.Rows L2 PV
def top (i : Nat) : Stmt := PySem.Challenge.pw_clockless_k29_implementing_covers.main.body.getD i (.Pass ⟨0, 0, 0, 0⟩)
abbrev i_contains : Nat := 0
abbrev i_cover_contains : Nat := 1
abbrev i_implements : Nat := 2
abbrev i__law_cell : Nat := 3
abbrev i__law_draws : Nat := 4
abbrev i__law_is_bool : Nat := 5
abbrev i__law_cube : Nat := 6
abbrev i__law_code_of : Nat := 7
abbrev i__law_codes : Nat := 8
abbrev i__law_in : Nat := 9
abbrev i__law_covered : Nat := 10
abbrev i__law_function : Nat := 11
abbrev i__law_avoids : Nat := 12
abbrev i__law_with : Nat := 13
abbrev i__law_expand : Nat := 14
abbrev i__law_compact : Nat := 15
abbrev i_law : Nat := 16
def b_contains : Ss := (.cons (.for_ [] (.tup [2, 3]) (.zip (.var 0) (.var 1)) (.cons (.ite (.and (.cmp .ne (.var 2) (.str [45])) (.cmp .ne (.var 2) (.var 3))) (.cons (.ret (.bl false)) .nil) .nil) .nil)) (.cons (.ret (.bl true)) .nil))
def n_contains : List Str := ["cube", "code", "literal", "value"]
def d_contains : Df := ⟨2, 4, b_contains, false, true⟩
def b_cover_contains : Ss := (.cons (.ret (.gen false (.call i_contains (.cons (.var 2) (.cons (.var 1) .nil))) (.name 2) (.seq (.var 0)))) .nil)
def n_cover_contains : List Str := ["cover", "code", "cube"]
def d_cover_contains : Df := ⟨2, 3, b_cover_contains, true, true⟩
def b_implements : Ss := (.cons (.ite (.not (.gen true (.call i_cover_contains (.cons (.var 0) (.cons (.var 3) .nil))) (.name 3) (.seq (.var 1)))) (.cons (.ret (.bl false)) .nil) .nil) (.cons (.ret (.not (.gen false (.call i_cover_contains (.cons (.var 0) (.cons (.var 3) .nil))) (.name 3) (.seq (.var 2))))) .nil))
def n_implements : List Str := ["cover", "on", "off", "code"]
def d_implements : Df := ⟨3, 4, b_implements, true, true⟩
def b__law_cell : Ss := (.cons (.ite (.cmp .lt (.var 1) (.bi .len (.cons (.var 0) .nil))) (.cons (.ret (.idx (.var 0) (.var 1))) .nil) .nil) (.cons (.ret (.int 0)) .nil))
def n__law_cell : List Str := ["_law_script", "_law_k"]
def d__law_cell : Df := ⟨2, 2, b__law_cell, false, true⟩
def b__law_draws : Ss := (.cons (.asg false 2 (.lst .nil)) (.cons (.asg true 3 (.var 0)) (.cons (.for_ [] (.name 4) (.rng1 (.var 1)) (.cons (.ite (.and (.cmp .ge (.var 0) (.bin .pow (.int 10) (.int 18))) (.cmp .gt (.var 3) (.int 0))) (.cons (.app 2 (.bin .mod (.bi .int (.cons (.var 3) .nil)) (.int 4096))) (.cons (.asg true 3 (.bin .fdiv (.var 3) (.int 4096))) .nil)) (.cons (.asg true 5 (.bin .mod (.bi .int (.cons (.bin .add (.bin .mul (.var 0) (.int 48271)) (.bin .mul (.bin .add (.var 4) (.int 1)) (.int 69621))) .nil)) (.int 2147483647))) (.cons (.asg true 5 (.bin .mod (.bi .int (.cons (.bin .add (.bin .add (.bin .mul (.var 5) (.var 5)) (.bin .mul (.var 5) (.int 16807))) (.bin .mul (.var 4) (.int 7919))) .nil)) (.int 2147483629))) (.cons (.asg true 5 (.bin .mod (.bi .int (.cons (.bin .add (.bin .add (.bin .mul (.var 5) (.var 5)) (.var 0)) (.bin .mul (.int 13) (.var 4))) .nil)) (.int 2147483587))) (.cons (.app 2 (.bin .mod (.bin .fdiv (.var 5) (.int 7)) (.int 4096))) .nil))))) .nil)) (.cons (.retMv 2) .nil))))
def n__law_draws : List Str := ["_law_cell_here", "_law_count", "_law_rows", "_law_rest", "_law_k", "_law_mixed"]
def d__law_draws : Df := ⟨2, 6, b__law_draws, false, true⟩
def b__law_is_bool : Ss := (.cons (.ite (.var 1) (.cons (.ret (.isB false true (.var 0))) .nil) .nil) (.cons (.ret (.isB false false (.var 0))) .nil))
def n__law_is_bool : List Str := ["_law_x", "_law_due"]
def d__law_is_bool : Df := ⟨2, 2, b__law_is_bool, false, true⟩
def b__law_cube : Ss := (.cons (.asg true 2 (.str [])) (.cons (.for_ [] (.name 3) (.rng1 (.var 1)) (.cons (.asg true 2 (.bin .add (.var 2) (.idx (.str [48, 49, 45]) (.bin .mod (.var 0) (.int 3))))) (.cons (.asg true 0 (.bin .fdiv (.var 0) (.int 3))) .nil))) (.cons (.ret (.var 2)) .nil)))
def n__law_cube : List Str := ["_law_draw", "_law_width", "_law_text", "_law_k"]
def d__law_cube : Df := ⟨2, 4, b__law_cube, false, true⟩
def b__law_code_of : Ss := (.cons (.asg true 2 (.str [])) (.cons (.for_ [] (.name 3) (.rng1 (.var 1)) (.cons (.asg true 2 (.bin .add (.idx (.str [48, 49]) (.bin .mod (.var 0) (.int 2))) (.var 2))) (.cons (.asg true 0 (.bin .fdiv (.var 0) (.int 2))) .nil))) (.cons (.ret (.var 2)) .nil)))
def n__law_code_of : List Str := ["_law_number", "_law_width", "_law_text", "_law_k"]
def d__law_code_of : Df := ⟨2, 4, b__law_code_of, false, true⟩
def b__law_codes : Ss := (.cons (.asg true 1 (.idx (.lst (.cons (.int 1) (.cons (.int 2) (.cons (.int 4) (.cons (.int 8) (.cons (.int 16) (.cons (.int 32) (.cons (.int 64) (.cons (.int 128) (.cons (.int 256) .nil)))))))))) (.var 0))) (.cons (.ret (.lc (.call i__law_code_of (.cons (.var 2) (.cons (.var 0) .nil))) (.name 2) (.rng1 (.var 1)) .nop)) .nil))
def n__law_codes : List Str := ["_law_width", "_law_many", "_law_number"]
def d__law_codes : Df := ⟨1, 3, b__law_codes, false, true⟩
def b__law_in : Ss := (.cons (.for_ [] (.name 2) (.rng1 (.bi .len (.cons (.var 1) .nil))) (.cons (.ite (.and (.cmp .ne (.idx (.var 0) (.var 2)) (.str [45])) (.cmp .ne (.idx (.var 0) (.var 2)) (.idx (.var 1) (.var 2)))) (.cons (.ret (.bl false)) .nil) .nil) .nil)) (.cons (.ret (.bl true)) .nil))
def n__law_in : List Str := ["_law_cube_here", "_law_code", "_law_k"]
def d__law_in : Df := ⟨2, 3, b__law_in, false, true⟩
def b__law_covered : Ss := (.cons (.for_ [] (.name 2) (.seq (.var 0)) (.cons (.ite (.call i__law_in (.cons (.var 2) (.cons (.var 1) .nil))) (.cons (.ret (.bl true)) .nil) .nil) .nil)) (.cons (.ret (.bl false)) .nil))
def n__law_covered : List Str := ["_law_cover", "_law_code", "_law_cube_here"]
def d__law_covered : Df := ⟨2, 3, b__law_covered, false, true⟩
def b__law_function : Ss := (.cons (.asg true 2 (.call i__law_draws (.cons (.var 0) (.cons (.int 40) .nil)))) (.cons (.asg false 3 (.lst .nil)) (.cons (.asg false 4 (.lst .nil)) (.cons (.asg true 5 (.call i__law_codes (.cons (.var 1) .nil))) (.cons (.asg true 6 (.bin .add (.int 3) (.bin .mod (.idx (.var 2) (.int 39)) (.int 3)))) (.cons (.for_ [] (.name 7) (.rng1 (.bi .len (.cons (.var 5) .nil))) (.cons (.asg true 8 (.bin .mod (.bin .fdiv (.idx (.var 2) (.bin .mod (.bin .add (.var 7) (.idx (.var 2) (.int 38))) (.int 37))) (.idx (.lst (.cons (.int 1) (.cons (.int 7) .nil))) (.bin .mod (.bin .fdiv (.var 7) (.int 32)) (.int 2)))) (.var 6))) (.cons (.ite (.cmp .ge (.var 7) (.int 32)) (.cons (.asg true 8 (.bin .mod (.bin .add (.var 8) (.idx (.var 2) (.bin .mod (.var 7) (.int 31)))) (.var 6))) .nil) .nil) (.cons (.ite (.cmp .eq (.var 8) (.int 1)) (.cons (.app 3 (.idx (.var 5) (.var 7))) .nil) .nil) (.cons (.ite (.cmp .eq (.var 8) (.int 2)) (.cons (.app 4 (.idx (.var 5) (.var 7))) .nil) .nil) .nil))))) (.cons (.fz 3) (.cons (.fz 4) (.cons (.ite (.cmp .eq (.bin .mod (.idx (.var 2) (.int 36)) (.int 2)) (.int 1)) (.cons (.asg true 3 (.bin .add (.rev (.var 3)) (.slc (.var 3) .nop (.int 1)))) (.cons (.asg true 4 (.bin .add (.var 4) (.slc (.var 4) (.neg (.int 1)) .nop))) .nil)) .nil) (.cons (.ret (.lst (.cons (.var 3) (.cons (.var 4) .nil)))) .nil))))))))))
def n__law_function : List Str := ["_law_cell_here", "_law_width", "_law_draws_here", "_law_on", "_law_off", "_law_codes_here", "_law_share", "_law_k", "_law_draw"]
def d__law_function : Df := ⟨2, 9, b__law_function, false, true⟩
def b__law_avoids : Ss := (.cons (.for_ [] (.name 2) (.seq (.var 1)) (.cons (.ite (.call i__law_in (.cons (.var 0) (.cons (.var 2) .nil))) (.cons (.ret (.bl false)) .nil) .nil) .nil)) (.cons (.ret (.bl true)) .nil))
def n__law_avoids : List Str := ["_law_cube_here", "_law_off", "_law_code"]
def d__law_avoids : Df := ⟨2, 3, b__law_avoids, false, true⟩
def b__law_with : Ss := (.cons (.ret (.bin .add (.bin .add (.slc (.var 0) .nop (.var 1)) (.var 2)) (.slc (.var 0) (.bin .add (.var 1) (.int 1)) .nop))) .nil)
def n__law_with : List Str := ["_law_cube_here", "_law_k", "_law_sign"]
def d__law_with : Df := ⟨3, 3, b__law_with, false, true⟩
def b__law_expand : Ss := (.cons (.for_ [] (.name 2) (.rng1 (.bi .len (.cons (.var 0) .nil))) (.cons (.ite (.call i__law_avoids (.cons (.call i__law_with (.cons (.var 0) (.cons (.var 2) (.cons (.str [45]) .nil)))) (.cons (.var 1) .nil))) (.cons (.asg true 0 (.call i__law_with (.cons (.var 0) (.cons (.var 2) (.cons (.str [45]) .nil))))) .nil) .nil) .nil)) (.cons (.ret (.var 0)) .nil))
def n__law_expand : List Str := ["_law_cube_here", "_law_off", "_law_k"]
def d__law_expand : Df := ⟨2, 3, b__law_expand, false, true⟩
def b__law_compact : Ss := (.cons (.asg false 2 (.lst .nil)) (.cons (.for_ [] (.name 3) (.seq (.bi .sorted (.cons (.var 0) .nil))) (.cons (.ite (.not (.call i__law_covered (.cons (.var 2) (.cons (.var 3) .nil)))) (.cons (.app 2 (.call i__law_expand (.cons (.var 3) (.cons (.var 1) .nil)))) .nil) .nil) .nil)) (.cons (.for_ [] (.name 4) (.rng1 (.bi .len (.cons (.var 2) .nil))) (.cons (.asg true 5 (.bin .sub (.bin .sub (.bi .len (.cons (.var 2) .nil)) (.int 1)) (.var 4))) (.cons (.asg true 6 (.lc (.idx (.var 2) (.var 8)) (.name 8) (.rng1 (.bi .len (.cons (.var 2) .nil))) (.and (.cmp .ne (.var 8) (.var 5)) (.isN true (.idx (.var 2) (.var 8)))))) (.cons (.ite (.cmp .eq (.bi .len (.cons (.lc (.var 3) (.name 3) (.seq (.var 0)) (.not (.call i__law_covered (.cons (.var 6) (.cons (.var 3) .nil))))) .nil)) (.int 0)) (.cons (.setI 2 (.var 5) .non) .nil) .nil) .nil)))) (.cons (.fz 2) (.cons (.ret (.lc (.var 7) (.name 7) (.seq (.var 2)) (.isN true (.var 7)))) .nil)))))
def n__law_compact : List Str := ["_law_on", "_law_off", "_law_cover", "_law_code", "_law_k", "_law_at", "_law_rest", "_law_cube_here", "_law_j"]
def d__law_compact : Df := ⟨2, 9, b__law_compact, false, true⟩
def b_law : Ss := (.cons (.asg true 1 (.bin .mod (.bi .int (.cons (.call i__law_cell (.cons (.var 0) (.cons (.int 0) .nil))) .nil)) (.int 7))) (.cons (.asgT [6, 7] (.call i__law_function (.cons (.call i__law_cell (.cons (.var 0) (.cons (.int 1) .nil))) (.cons (.var 1) .nil)))) (.cons (.asg true 2 (.call i__law_draws (.cons (.call i__law_cell (.cons (.var 0) (.cons (.int 2) .nil))) (.cons (.int 8) .nil)))) (.cons (.asg true 3 (.lc (.call i__law_cube (.cons (.bin .add (.idx (.var 2) (.var 8)) (.bin .mul (.int 4096) (.idx (.var 2) (.bin .add (.int 4) (.var 8))))) (.cons (.var 1) .nil))) (.name 8) (.rng1 (.bin .mod (.idx (.var 2) (.int 4)) (.int 5))) .nop)) (.cons (.ite (.cmp .eq (.bin .mod (.idx (.var 2) (.int 5)) (.int 2)) (.int 1)) (.cons (.asg true 3 (.call i__law_compact (.cons (.var 6) (.cons (.var 7) .nil)))) (.cons (.ite (.and (.cmp .eq (.bin .mod (.idx (.var 2) (.int 6)) (.int 3)) (.int 1)) (.cmp .gt (.bi .len (.cons (.var 3) .nil)) (.int 0))) (.cons (.asg true 9 (.bin .mod (.idx (.var 2) (.int 7)) (.bi .len (.cons (.var 3) .nil)))) (.cons (.asg true 3 (.bin .add (.slc (.var 3) .nop (.var 9)) (.slc (.var 3) (.bin .add (.var 9) (.int 1)) .nop))) .nil)) .nil) (.cons (.ite (.cmp .eq (.bin .mod (.idx (.var 2) (.int 6)) (.int 3)) (.int 2)) (.cons (.asg true 3 (.bin .add (.var 3) (.lst (.cons (.call i__law_cube (.cons (.bin .add (.idx (.var 2) (.int 0)) (.bin .mul (.int 4096) (.idx (.var 2) (.int 1)))) (.cons (.var 1) .nil))) .nil)))) .nil) .nil) .nil))) .nil) (.cons (.for_ [] (.name 4) (.seq (.call i__law_codes (.cons (.var 1) .nil))) (.cons (.ite (.not (.call i__law_is_bool (.cons (.call i_cover_contains (.cons (.bi .list (.cons (.var 3) .nil)) (.cons (.var 4) .nil))) (.cons (.call i__law_covered (.cons (.var 3) (.cons (.var 4) .nil))) .nil)))) (.cons (.ret (.bl false)) .nil) .nil) .nil)) (.cons (.asg true 5 (.cmp .eq (.bi .len (.cons (.lc (.var 4) (.name 4) (.seq (.var 6)) (.not (.call i__law_covered (.cons (.var 3) (.cons (.var 4) .nil))))) .nil)) (.int 0))) (.cons (.asg true 5 (.and (.var 5) (.cmp .eq (.bi .len (.cons (.lc (.var 4) (.name 4) (.seq (.var 7)) (.call i__law_covered (.cons (.var 3) (.cons (.var 4) .nil)))) .nil)) (.int 0)))) (.cons (.ret (.call i__law_is_bool (.cons (.call i_implements (.cons (.bi .list (.cons (.var 3) .nil)) (.cons (.bi .list (.cons (.var 6) .nil)) (.cons (.bi .list (.cons (.var 7) .nil)) .nil)))) (.cons (.var 5) .nil)))) .nil)))))))))
def n_law : List Str := ["_law_script", "_law_width", "_law_draws_here", "_law_cover", "_law_code", "_law_good", "_law_on", "_law_off", "_law_k", "_law_at"]
def d_law : Df := ⟨1, 10, b_law, false, true⟩
def tbl : List PV.Row := [("contains", d_contains, n_contains, top 1),
  ("cover_contains", d_cover_contains, n_cover_contains, top 3),
  ("implements", d_implements, n_implements, top 4),
  ("_law_cell", d__law_cell, n__law_cell, top 6),
  ("_law_draws", d__law_draws, n__law_draws, top 7),
  ("_law_is_bool", d__law_is_bool, n__law_is_bool, top 8),
  ("_law_cube", d__law_cube, n__law_cube, top 9),
  ("_law_code_of", d__law_code_of, n__law_code_of, top 10),
  ("_law_codes", d__law_codes, n__law_codes, top 11),
  ("_law_in", d__law_in, n__law_in, top 12),
  ("_law_covered", d__law_covered, n__law_covered, top 13),
  ("_law_function", d__law_function, n__law_function, top 14),
  ("_law_avoids", d__law_avoids, n__law_avoids, top 15),
  ("_law_with", d__law_with, n__law_with, top 16),
  ("_law_expand", d__law_expand, n__law_expand, top 17),
  ("_law_compact", d__law_compact, n__law_compact, top 18),
  ("law", d_law, n_law, top 19)]
abbrev C (n : Nat) : Nat → List D → Option D := call ⟨[]⟩ (tabP tbl) n
def m_contains (x_cube : (List Nat)) (x_code : (List Nat)) : Option Bool :=
  Option.bind (some (List.map (fun p => ([p.1], [p.2])) (List.zip x_cube x_code))) fun l => Option.bind (loopR l (() : Unit) fun (x_s : Unit) (x_y : ((List Nat) × (List Nat))) =>
    Option.bind (some ((!(decide (x_y.1 = ([45] : List Nat)))) && (!(decide (x_y.1 = x_y.2))))) fun x_k => if x_k then (Option.bind (some false) fun x_y_1 => some (LR.ret x_y_1 : LR Unit Bool)) else
    some (LR.go () : LR Unit Bool)) (Sum.elim (fun x_s_1 =>
  Option.bind (some true) fun x_y_2 => some x_y_2) fun r => some (r))
def m_cover_contains (x_cover : (List (List Nat))) (x_code : (List Nat)) : Option Bool :=
  Option.bind (Option.bind (some x_cover) fun l => anyO l fun x_y => (m_contains x_y x_code)) fun x_y_1 => some x_y_1
def m_implements (x_cover : (List (List Nat))) (x_on : (List (List Nat))) (x_off : (List (List Nat))) : Option Bool :=
  Option.bind (Option.bind (some x_on) fun l => allO l fun x_y => (m_cover_contains x_cover x_y)) fun x_t => Option.bind (some (!x_t)) fun x_k => if x_k then (Option.bind (some false) fun x_y_1 => some x_y_1) else
  Option.bind (Option.bind (some x_off) fun l => anyO l fun x_y_2 => (m_cover_contains x_cover x_y_2)) fun x_t_1 => Option.bind (some (!x_t_1)) fun x_y_3 => some x_y_3
def m__law_cell (x_script : (List Int)) (x_k : Int) : Option Int :=
  Option.bind (some (decide (x_k < (List.length x_script : Int)))) fun x_k_1 => if x_k_1 then (Option.bind (getI x_script x_k) fun x_y => some x_y) else
  Option.bind (some (0 : Int)) fun x_y_1 => some x_y_1
def m__law_draws (x_cell_here : Int) (x_count : Int) : Option (List Int) :=
  Option.bind (some ([] : List Int)) fun x_rows =>
  Option.bind (some x_cell_here) fun x_rest =>
  Option.bind (rngO 0 x_count) fun l => Option.bind (foldO l ((x_rows, x_rest) : ((List Int) × Int)) fun (x_s : ((List Int) × Int)) (x_y : Int) =>
    Option.bind (some ((decide ((1000000000000000000 : Int) ≤ x_cell_here)) && (decide ((0 : Int) < x_s.2)))) fun x_k => Option.bind (if x_k then (Option.bind (some (x_s.2 % (4096 : Int))) fun x_a => Option.bind (appG x_s.1 x_a) fun x_rows_1 =>
    Option.bind (some (x_s.2 / (4096 : Int))) fun x_rest_1 =>
    some (x_rows_1, x_rest_1)) else (Option.bind (some (((x_cell_here * (48271 : Int)) + ((x_y + (1 : Int)) * (69621 : Int))) % (2147483647 : Int))) fun x_mixed =>
    Option.bind (mulO x_mixed x_mixed) fun x_t => Option.bind (some (((x_t + (x_mixed * (16807 : Int))) + (x_y * (7919 : Int))) % (2147483629 : Int))) fun x_mixed_1 =>
    Option.bind (mulO x_mixed_1 x_mixed_1) fun x_t_1 => Option.bind (some (((x_t_1 + x_cell_here) + ((13 : Int) * x_y)) % (2147483587 : Int))) fun x_mixed_2 =>
    Option.bind (some ((x_mixed_2 / (7 : Int)) % (4096 : Int))) fun x_a_1 => Option.bind (appG x_s.1 x_a_1) fun x_rows_2 =>
    some (x_rows_2, x_s.2))) fun x_m =>
    some (x_m.1, x_m.2)) fun x_s_1 =>
  some x_s_1.1
def m__law_is_bool (x_x : Bool) (x_due : Bool) : Option Bool :=
  Option.bind (some x_due) fun x_k => if x_k then (Option.bind (some (decide (x_x = true))) fun x_y => some x_y) else
  Option.bind (some (decide (x_x = false))) fun x_y_1 => some x_y_1
def m__law_cube (x_draw : Int) (x_width : Int) : Option (List Nat) :=
  Option.bind (some ([] : List Nat)) fun x_text =>
  Option.bind (rngO 0 x_width) fun l => Option.bind (foldO l ((x_draw, x_text) : (Int × (List Nat))) fun (x_s : (Int × (List Nat))) (x_y : Int) =>
    Option.bind (Option.map (fun c => [c]) (getI ([48, 49, 45] : List Nat) (x_s.1 % (3 : Int)))) fun x_t => Option.bind (catS x_s.2 x_t) fun x_text_1 =>
    Option.bind (some (x_s.1 / (3 : Int))) fun x_draw_1 =>
    some (x_draw_1, x_text_1)) fun x_s_1 =>
  Option.bind (some x_s_1.2) fun x_y_1 => some x_y_1
def m__law_code_of (x_number : Int) (x_width : Int) : Option (List Nat) :=
  Option.bind (some ([] : List Nat)) fun x_text =>
  Option.bind (rngO 0 x_width) fun l => Option.bind (foldO l ((x_number, x_text) : (Int × (List Nat))) fun (x_s : (Int × (List Nat))) (x_y : Int) =>
    Option.bind (Option.map (fun c => [c]) (getI ([48, 49] : List Nat) (x_s.1 % (2 : Int)))) fun x_t => Option.bind (catS x_t x_s.2) fun x_text_1 =>
    Option.bind (some (x_s.1 / (2 : Int))) fun x_number_1 =>
    some (x_number_1, x_text_1)) fun x_s_1 =>
  Option.bind (some x_s_1.2) fun x_y_1 => some x_y_1
def m__law_codes (x_width : Int) : Option (List (List Nat)) :=
  Option.bind (getI ([(1 : Int), (2 : Int), (4 : Int), (8 : Int), (16 : Int), (32 : Int), (64 : Int), (128 : Int), (256 : Int)] : List Int) x_width) fun x_many =>
  Option.bind (Option.bind (rngO 0 x_many) fun l => lcG l fun x_y => (Option.bind (some true) fun k => if k then Option.map some (m__law_code_of x_y x_width) else some none)) fun x_y_1 => some x_y_1
def m__law_in (x_cube_here : (List Nat)) (x_code : (List Nat)) : Option Bool :=
  Option.bind (rngO 0 (List.length x_code : Int)) fun l => Option.bind (loopR l (() : Unit) fun (x_s : Unit) (x_y : Int) =>
    Option.bind (Option.map (fun c => [c]) (getI x_cube_here x_y)) fun x_t => Option.bind (if (!(decide (x_t = ([45] : List Nat)))) then (Option.bind (Option.map (fun c => [c]) (getI x_cube_here x_y)) fun x_t_1 => (Option.bind (Option.map (fun c => [c]) (getI x_code x_y)) fun x_t_2 => (some (!(decide (x_t_1 = x_t_2)))))) else some false) fun x_k => if x_k then (Option.bind (some false) fun x_y_1 => some (LR.ret x_y_1 : LR Unit Bool)) else
    some (LR.go () : LR Unit Bool)) (Sum.elim (fun x_s_1 =>
  Option.bind (some true) fun x_y_2 => some x_y_2) fun r => some (r))
def m__law_covered (x_cover : (List (List Nat))) (x_code : (List Nat)) : Option Bool :=
  Option.bind (some x_cover) fun l => Option.bind (loopR l (() : Unit) fun (x_s : Unit) (x_y : (List Nat)) =>
    Option.bind (m__law_in x_y x_code) fun x_k => if x_k then (Option.bind (some true) fun x_y_1 => some (LR.ret x_y_1 : LR Unit Bool)) else
    some (LR.go () : LR Unit Bool)) (Sum.elim (fun x_s_1 =>
  Option.bind (some false) fun x_y_2 => some x_y_2) fun r => some (r))
def m__law_function (x_cell_here : Int) (x_width : Int) : Option ((List (List Nat)) × (List (List Nat))) :=
  Option.bind (m__law_draws x_cell_here (40 : Int)) fun x_draws_here =>
  Option.bind (some ([] : List (List Nat))) fun x_on =>
  Option.bind (some ([] : List (List Nat))) fun x_off =>
  Option.bind (m__law_codes x_width) fun x_codes_here =>
  Option.bind (getI x_draws_here (39 : Int)) fun x_t => Option.bind (some ((3 : Int) + (x_t % (3 : Int)))) fun x_share =>
  Option.bind (rngO 0 (List.length x_codes_here : Int)) fun l => Option.bind (foldO l ((x_on, x_off) : ((List (List Nat)) × (List (List Nat)))) fun (x_s : ((List (List Nat)) × (List (List Nat)))) (x_y : Int) =>
    Option.bind (getI x_draws_here (38 : Int)) fun x_t_1 => Option.bind (getI x_draws_here ((x_y + x_t_1) % (37 : Int))) fun x_t_2 => Option.bind (getI ([(1 : Int), (7 : Int)] : List Int) ((x_y / (32 : Int)) % (2 : Int))) fun x_t_3 => Option.bind (divO x_t_2 x_t_3) fun x_t_4 => Option.bind (modO x_t_4 x_share) fun x_draw =>
    Option.bind (some (decide ((32 : Int) ≤ x_y))) fun x_k => Option.bind (if x_k then (Option.bind (getI x_draws_here (x_y % (31 : Int))) fun x_t_6 => Option.bind (modO (x_draw + x_t_6) x_share) fun x_draw_1 =>
    some x_draw_1) else (some x_draw)) fun x_m =>
    Option.bind (some (decide (x_m = (1 : Int)))) fun x_k_1 => Option.bind (if x_k_1 then (Option.bind (getI x_codes_here x_y) fun x_a => Option.bind (appG x_s.1 x_a) fun x_on_1 =>
    some x_on_1) else (some x_s.1)) fun x_m_1 =>
    Option.bind (some (decide (x_m = (2 : Int)))) fun x_k_2 => Option.bind (if x_k_2 then (Option.bind (getI x_codes_here x_y) fun x_a_1 => Option.bind (appG x_s.2 x_a_1) fun x_off_1 =>
    some x_off_1) else (some x_s.2)) fun x_m_2 =>
    some (x_m_1, x_m_2)) fun x_s_1 =>
  Option.bind (getI x_draws_here (36 : Int)) fun x_t_10 => Option.bind (some (decide ((x_t_10 % (2 : Int)) = (1 : Int)))) fun x_k_3 => Option.bind (if x_k_3 then (Option.bind (catL (List.reverse x_s_1.1) (cut x_s_1.1 none (some (1 : Int)))) fun x_on_2 =>
  Option.bind (catL x_s_1.2 (cut x_s_1.2 (some (-1 : Int)) none)) fun x_off_2 =>
  some (x_on_2, x_off_2)) else (some (x_s_1.1, x_s_1.2))) fun x_m_3 =>
  Option.bind (some (x_m_3.1, x_m_3.2)) fun x_y_1 => some x_y_1
def m__law_avoids (x_cube_here : (List Nat)) (x_off : (List (List Nat))) : Option Bool :=
  Option.bind (some x_off) fun l => Option.bind (loopR l (() : Unit) fun (x_s : Unit) (x_y : (List Nat)) =>
    Option.bind (m__law_in x_cube_here x_y) fun x_k => if x_k then (Option.bind (some false) fun x_y_1 => some (LR.ret x_y_1 : LR Unit Bool)) else
    some (LR.go () : LR Unit Bool)) (Sum.elim (fun x_s_1 =>
  Option.bind (some true) fun x_y_2 => some x_y_2) fun r => some (r))
def m__law_with (x_cube_here : (List Nat)) (x_k : Int) (x_sign : (List Nat)) : Option (List Nat) :=
  Option.bind (catS (cut x_cube_here none (some x_k)) x_sign) fun x_t => Option.bind (catS x_t (cut x_cube_here (some (x_k + (1 : Int))) none)) fun x_y => some x_y
def m__law_expand (x_cube_here : (List Nat)) (x_off : (List (List Nat))) : Option (List Nat) :=
  Option.bind (rngO 0 (List.length x_cube_here : Int)) fun l => Option.bind (foldO l (x_cube_here : ((List Nat))) fun (x_s : ((List Nat))) (x_y : Int) =>
    Option.bind (m__law_with x_s x_y ([45] : List Nat)) fun x_r => Option.bind (m__law_avoids x_r x_off) fun x_k => Option.bind (if x_k then (Option.bind (m__law_with x_s x_y ([45] : List Nat)) fun x_cube_here_1 =>
    some x_cube_here_1) else (some x_s)) fun x_m =>
    some x_m) fun x_s_1 =>
  Option.bind (some x_s_1) fun x_y_1 => some x_y_1
def m__law_compact (x_on : (List (List Nat))) (x_off : (List (List Nat))) : Option (List (List Nat)) :=
  Option.bind (some ([] : List (List Nat))) fun x_cover =>
  Option.bind (some (List.mergeSort x_on leS)) fun l => Option.bind (foldO l (x_cover : ((List (List Nat)))) fun (x_s : ((List (List Nat)))) (x_y : (List Nat)) =>
    Option.bind (m__law_covered x_s x_y) fun x_r => Option.bind (some (!x_r)) fun x_k => Option.bind (if x_k then (Option.bind (m__law_expand x_y x_off) fun x_a => Option.bind (appG x_s x_a) fun x_cover_1 =>
    some x_cover_1) else (some x_s)) fun x_m =>
    some x_m) fun x_s_1 =>
  Option.bind (rngO 0 (List.length (List.map some x_s_1) : Int)) fun l => Option.bind (foldO l ((List.map some x_s_1) : ((List (Option (List Nat))))) fun (x_s_2 : ((List (Option (List Nat))))) (x_y_1 : Int) =>
    Option.bind (some (((List.length x_s_2 : Int) - (1 : Int)) - x_y_1)) fun x_at =>
    Option.bind (Option.bind (rngO 0 (List.length x_s_2 : Int)) fun l => lcG l fun x_y_2 => (Option.bind (if (!(decide (x_y_2 = x_at))) then (Option.bind (getI x_s_2 x_y_2) fun x_t => (some (Option.isSome x_t))) else some false) fun k => if k then Option.map some (Option.bind (getI x_s_2 x_y_2) fun x_t_2 => x_t_2) else some none)) fun x_rest =>
    Option.bind (Option.bind (some x_on) fun l => lcG l fun x_y_3 => (Option.bind (Option.bind (m__law_covered x_rest x_y_3) fun x_r_2 => (some (!x_r_2))) fun k => if k then Option.map some (some x_y_3) else some none)) fun x_t_5 => Option.bind (some (decide ((List.length x_t_5 : Int) = (0 : Int)))) fun x_k_1 => Option.bind (if x_k_1 then (Option.bind (some none) fun x_a_1 => Option.bind (some x_at) fun x_b_4 => Option.bind (setG x_s_2 x_b_4 x_a_1) fun x_cover_2 =>
    some x_cover_2) else (some x_s_2)) fun x_m_1 =>
    some x_m_1) fun x_s_3 =>
  Option.bind (Option.bind (some x_s_3) fun l => lcG l fun x_y_4 => (Option.bind (some (Option.isSome x_y_4)) fun k => if k then Option.map some x_y_4 else some none)) fun x_y_5 => some x_y_5
def m_law (x_script : (List Int)) : Option Bool :=
  Option.bind (m__law_cell x_script (0 : Int)) fun x_r => Option.bind (some (x_r % (7 : Int))) fun x_width =>
  Option.bind (m__law_cell x_script (1 : Int)) fun x_r_1 => Option.bind (m__law_function x_r_1 x_width) fun x_p =>
  Option.bind (m__law_cell x_script (2 : Int)) fun x_r_3 => Option.bind (m__law_draws x_r_3 (8 : Int)) fun x_draws_here =>
  Option.bind (Option.bind (Option.bind (getI x_draws_here (4 : Int)) fun x_t => (rngO 0 (x_t % (5 : Int)))) fun l => lcG l fun x_y => (Option.bind (some true) fun k => if k then Option.map some (Option.bind (getI x_draws_here x_y) fun x_t_1 => (Option.bind (getI x_draws_here ((4 : Int) + x_y)) fun x_t_2 => (m__law_cube (x_t_1 + ((4096 : Int) * x_t_2)) x_width))) else some none)) fun x_cover =>
  Option.bind (getI x_draws_here (5 : Int)) fun x_t_4 => Option.bind (some (decide ((x_t_4 % (2 : Int)) = (1 : Int)))) fun x_k => Option.bind (if x_k then (Option.bind (m__law_compact x_p.1 x_p.2) fun x_cover_1 =>
  Option.bind (getI x_draws_here (6 : Int)) fun x_t_5 => Option.bind (some ((decide ((x_t_5 % (3 : Int)) = (1 : Int))) && (decide ((0 : Int) < (List.length x_cover_1 : Int))))) fun x_k_1 => Option.bind (if x_k_1 then (Option.bind (getI x_draws_here (7 : Int)) fun x_t_6 => Option.bind (modO x_t_6 (List.length x_cover_1 : Int)) fun x_at =>
  Option.bind (catL (cut x_cover_1 none (some x_at)) (cut x_cover_1 (some (x_at + (1 : Int))) none)) fun x_cover_2 =>
  some x_cover_2) else (some x_cover_1)) fun x_m =>
  Option.bind (getI x_draws_here (6 : Int)) fun x_t_9 => Option.bind (some (decide ((x_t_9 % (3 : Int)) = (2 : Int)))) fun x_k_2 => Option.bind (if x_k_2 then (Option.bind (getI x_draws_here (0 : Int)) fun x_t_10 => Option.bind (getI x_draws_here (1 : Int)) fun x_t_11 => Option.bind (m__law_cube (x_t_10 + ((4096 : Int) * x_t_11)) x_width) fun x_r_7 => Option.bind (catL x_m ([x_r_7] : List (List Nat))) fun x_cover_3 =>
  some x_cover_3) else (some x_m)) fun x_m_1 =>
  some x_m_1) else (some x_cover)) fun x_m_2 =>
  Option.bind (Option.bind (m__law_codes x_width) fun x_r_8 => (some x_r_8)) fun l => Option.bind (loopR l (() : Unit) fun (x_s : Unit) (x_y_1 : (List Nat)) =>
    Option.bind (m_cover_contains x_m_2 x_y_1) fun x_r_9 => Option.bind (m__law_covered x_m_2 x_y_1) fun x_r_10 => Option.bind (m__law_is_bool x_r_9 x_r_10) fun x_r_11 => Option.bind (some (!x_r_11)) fun x_k_3 => if x_k_3 then (Option.bind (some false) fun x_y_2 => some (LR.ret x_y_2 : LR Unit Bool)) else
    some (LR.go () : LR Unit Bool)) (Sum.elim (fun x_s_1 =>
  Option.bind (Option.bind (some x_p.1) fun l => lcG l fun x_y_3 => (Option.bind (Option.bind (m__law_covered x_m_2 x_y_3) fun x_r_12 => (some (!x_r_12))) fun k => if k then Option.map some (some x_y_3) else some none)) fun x_t_13 => Option.bind (some (decide ((List.length x_t_13 : Int) = (0 : Int)))) fun x_good =>
  Option.bind (if x_good then (Option.bind (Option.bind (some x_p.2) fun l => lcG l fun x_y_4 => (Option.bind (m__law_covered x_m_2 x_y_4) fun k => if k then Option.map some (some x_y_4) else some none)) fun x_t_14 => (some (decide ((List.length x_t_14 : Int) = (0 : Int))))) else some false) fun x_good_1 =>
  Option.bind (m_implements x_m_2 x_p.1 x_p.2) fun x_r_14 => Option.bind (m__law_is_bool x_r_14 x_good_1) fun x_y_5 => some x_y_5) fun r => some (r))
theorem ok_contains {n : Nat}  (x_cube : (List Nat)) (x_code : (List Nat)) : ∀ r, m_contains x_cube x_code = some r → C (n + 1) i_contains [(cStr.e x_cube), (cStr.e x_code)] = some (cBool.e r) := by
  refine call_Bx (df := d_contains) (cc := cBool.e) rfl rfl (by decide) (all_cons (ok_c (c := cStr)) (all_cons (ok_c (c := cStr)) all_nil)) rfl ?_
  show Bx _ (C (n + 0)) b_contains [some (cStr.e x_cube), some (cStr.e x_code), none, none] _ _
  unfold b_contains m_contains
  refine B_forR (E := fun (x_b : Nat → Option D) (x_s : Unit) => [some (cStr.e x_cube), some (cStr.e x_code), (x_b 2), (x_b 3)]) (t := (cP cStr cStr).e) (b0 := (fun i => List.getD [some (cStr.e x_cube), some (cStr.e x_code), none, none] i none)) (s0 := ()) (E1 := fun (x_b : Nat → Option D) (x_s : Unit) (x_y : ((List Nat) × (List Nat))) => [some (cStr.e x_cube), some (cStr.e x_code), some (cStr.e x_y.1), some (cStr.e x_y.2)]) (O' := Rt cBool.e) Rt.is (fun _ _ h => h) (It_zS (It_zip (P_varC (c := cStr) (x := x_cube) (by rfl)) (P_varC (c := cStr) (x := x_code) (by rfl)))) (fun _ _ => rfl) (fun x_b x_s x_y => (bind_tup rfl (sEs_cons (Cd.fz cStr x_y.1) (lt_ rfl) (sEs_cons (Cd.fz cStr x_y.2) (lt_ rfl) sEs_nil)))) (fun x_b x_s x_y => ?_) fun x_b_1 x_s_1 => ?_
  · show Bx _ _ _ [some (cStr.e x_cube), some (cStr.e x_code), some (cStr.e x_y.1), some (cStr.e x_y.2)] _ _
    refine B_ite1 (Ev.pure (c := cBool.e) (x := ((!(decide (x_y.1 = ([45] : List Nat)))) && (!(decide (x_y.1 = x_y.2))))) (P_and (P_ne (c := cStr) (x := x_y.1) (y := ([45] : List Nat)) eqStr (P_varC (c := cStr) (x := x_y.1) (by rfl)) P_str) (P_ne (c := cStr) (x := x_y.1) (y := x_y.2) eqStr (P_varC (c := cStr) (x := x_y.1) (by rfl)) (P_varC (c := cStr) (x := x_y.2) (by rfl))))) ?_ ?_
    · exact B_ret (Ev.pure (c := cBool.e) (x := false) P_bl) (Cd.nl cBool) (fun _ => ⟨(rt_c cBool _), rfl⟩)
    exact B_nil ⟨(fun i => List.getD [some (cStr.e x_cube), some (cStr.e x_code), some (cStr.e x_y.1), some (cStr.e x_y.2)] i none), .inl rfl⟩
  show Bx _ _ _ [some (cStr.e x_cube), some (cStr.e x_code), (x_b_1 2), (x_b_1 3)] _ _
  exact B_ret (Ev.pure (c := cBool.e) (x := true) P_bl) (Cd.nl cBool) (fun _ => (rt_c cBool _))
theorem ok_cover_contains {n : Nat} (fl_x_cover : Fl) (hf_fl_x_cover : fl_x_cover.lock = fl_x_cover) (x_cover : (List (List Nat))) (x_code : (List Nat)) : ∀ r, m_cover_contains x_cover x_code = some r → C (n + 2) i_cover_contains [(D.lst fl_x_cover (List.map cStr.e x_cover)), (cStr.e x_code)] = some (cBool.e r) := by
  refine call_Bx (df := d_cover_contains) (cc := cBool.e) rfl rfl (by decide) (all_cons (ok_fl (c := cStr) hf_fl_x_cover) (all_cons (ok_c (c := cStr)) all_nil)) rfl ?_
  show Bx _ (C (n + 1)) b_cover_contains [some (D.lst fl_x_cover (List.map cStr.e x_cover)), some (cStr.e x_code), none] _ _
  unfold b_cover_contains m_cover_contains
  exact B_ret (M_any (ca := cStr.e) (It_lst (c := cStr) (l := x_cover) (f := fl_x_cover) (fl_ne hf_fl_x_cover) (P_varF (c := cStr) (l := x_cover) (fl := fl_x_cover) hf_fl_x_cover (by rfl))) fun x_y => ⟨[some (D.lst fl_x_cover (List.map cStr.e x_cover)), some (cStr.e x_code), some (cStr.e x_y)], (bind_name (Cd.fz cStr x_y) rfl (lt_ rfl)), (M_call (cc := cBool.e) (args_cons (arg_c (c := cStr) (x := x_y) (P_varC (c := cStr) (x := x_y) (by rfl))) (args_cons (arg_c (c := cStr) (x := x_code) (P_varC (c := cStr) (x := x_code) (by rfl))) args_nil)) (ok_contains (n := n) x_y x_code))⟩) (Cd.nl cBool) (fun _ => (rt_c cBool _))
theorem ok_implements {n : Nat} (fl_x_cover : Fl) (hf_fl_x_cover : fl_x_cover.lock = fl_x_cover) (fl_x_on : Fl) (hf_fl_x_on : fl_x_on.lock = fl_x_on) (fl_x_off : Fl) (hf_fl_x_off : fl_x_off.lock = fl_x_off) (x_cover : (List (List Nat))) (x_on : (List (List Nat))) (x_off : (List (List Nat))) : ∀ r, m_implements x_cover x_on x_off = some r → C (n + 3) i_implements [(D.lst fl_x_cover (List.map cStr.e x_cover)), (D.lst fl_x_on (List.map cStr.e x_on)), (D.lst fl_x_off (List.map cStr.e x_off))] = some (cBool.e r) := by
  refine call_Bx (df := d_implements) (cc := cBool.e) rfl rfl (by decide) (all_cons (ok_fl (c := cStr) hf_fl_x_cover) (all_cons (ok_fl (c := cStr) hf_fl_x_on) (all_cons (ok_fl (c := cStr) hf_fl_x_off) all_nil))) rfl ?_
  show Bx _ (C (n + 2)) b_implements [some (D.lst fl_x_cover (List.map cStr.e x_cover)), some (D.lst fl_x_on (List.map cStr.e x_on)), some (D.lst fl_x_off (List.map cStr.e x_off)), none] _ _
  unfold b_implements m_implements
  refine Bx.hoist (e := (.gen true (.call i_cover_contains (.cons (.var 0) (.cons (.var 3) .nil))) (.name 3) (.seq (.var 1)))) (c1 := cBool.e) (M_all (ca := cStr.e) (It_lst (c := cStr) (l := x_on) (f := fl_x_on) (fl_ne hf_fl_x_on) (P_varF (c := cStr) (l := x_on) (fl := fl_x_on) hf_fl_x_on (by rfl))) fun x_y => ⟨[some (D.lst fl_x_cover (List.map cStr.e x_cover)), some (D.lst fl_x_on (List.map cStr.e x_on)), some (D.lst fl_x_off (List.map cStr.e x_off)), some (cStr.e x_y)], (bind_name (Cd.fz cStr x_y) rfl (lt_ rfl)), (M_call (cc := cBool.e) (args_cons (arg_fl (c := cStr) (l := x_cover) (fl := fl_x_cover) hf_fl_x_cover (P_varF (c := cStr) (l := x_cover) (fl := fl_x_cover) hf_fl_x_cover (by rfl))) (args_cons (arg_c (c := cStr) (x := x_y) (P_varC (c := cStr) (x := x_y) (by rfl))) args_nil)) (ok_cover_contains (n := n) fl_x_cover hf_fl_x_cover x_cover x_y))⟩) fun x_t h_1 => ?_
  refine B_ite1 (Ev.pure (c := cBool.e) (x := (!x_t)) (P_not h_1)) ?_ ?_
  · exact B_ret (Ev.pure (c := cBool.e) (x := false) P_bl) (Cd.nl cBool) (fun _ => ⟨(rt_c cBool _), rfl⟩)
  refine Bx.hoist (e := (.gen false (.call i_cover_contains (.cons (.var 0) (.cons (.var 3) .nil))) (.name 3) (.seq (.var 2)))) (c1 := cBool.e) (M_any (ca := cStr.e) (It_lst (c := cStr) (l := x_off) (f := fl_x_off) (fl_ne hf_fl_x_off) (P_varF (c := cStr) (l := x_off) (fl := fl_x_off) hf_fl_x_off (by rfl))) fun x_y_2 => ⟨[some (D.lst fl_x_cover (List.map cStr.e x_cover)), some (D.lst fl_x_on (List.map cStr.e x_on)), some (D.lst fl_x_off (List.map cStr.e x_off)), some (cStr.e x_y_2)], (bind_name (Cd.fz cStr x_y_2) rfl (lt_ rfl)), (M_call (cc := cBool.e) (args_cons (arg_fl (c := cStr) (l := x_cover) (fl := fl_x_cover) hf_fl_x_cover (P_varF (c := cStr) (l := x_cover) (fl := fl_x_cover) hf_fl_x_cover (by rfl))) (args_cons (arg_c (c := cStr) (x := x_y_2) (P_varC (c := cStr) (x := x_y_2) (by rfl))) args_nil)) (ok_cover_contains (n := n) fl_x_cover hf_fl_x_cover x_cover x_y_2))⟩) fun x_t_1 h_3 => ?_
  exact B_ret (Ev.pure (c := cBool.e) (x := (!x_t_1)) (P_not h_3)) (Cd.nl cBool) (fun _ => (rt_c cBool _))
theorem ok__law_cell {n : Nat}  (x_script : (List Int)) (x_k : Int) : ∀ r, m__law_cell x_script x_k = some r → C (n + 1) i__law_cell [(cScr.e x_script), (cInt.e x_k)] = some (cInt.e r) := by
  refine call_Bx (df := d__law_cell) (cc := cInt.e) rfl rfl (by decide) (all_cons (ok_c (c := cScr)) (all_cons (ok_c (c := cInt)) all_nil)) rfl ?_
  show Bx _ (C (n + 0)) b__law_cell [some (cScr.e x_script), some (cInt.e x_k)] _ _
  unfold b__law_cell m__law_cell
  refine B_ite1 (Ev.pure (c := cBool.e) (x := (decide (x_k < (List.length x_script : Int)))) (P_lt (P_varC (c := cInt) (x := x_k) (by rfl)) (P_lenR (P_varC (c := cScr) (x := x_script) (by rfl))))) ?_ ?_
  · exact B_ret (M_idxR (P_varC (c := cScr) (x := x_script) (by rfl)) (P_varC (c := cInt) (x := x_k) (by rfl))) (Cd.nl cInt) (fun _ => ⟨(rt_c cInt _), rfl⟩)
  exact B_ret (Ev.pure (c := cInt.e) (x := (0 : Int)) P_int) (Cd.nl cInt) (fun _ => (rt_c cInt _))
theorem ok__law_draws {n : Nat}  (x_cell_here : Int) (x_count : Int) : ∀ r, m__law_draws x_cell_here x_count = some r → C (n + 1) i__law_draws [(cInt.e x_cell_here), (cInt.e x_count)] = some ((fun z => D.lst .frz (List.map cInt.e z)) r) := by
  refine call_Bx (df := d__law_draws) (cc := (fun z => D.lst .frz (List.map cInt.e z))) rfl rfl (by decide) (all_cons (ok_c (c := cInt)) (all_cons (ok_c (c := cInt)) all_nil)) rfl ?_
  show Bx _ (C (n + 0)) b__law_draws [some (cInt.e x_cell_here), some (cInt.e x_count), none, none, none, none] _ _
  unfold b__law_draws m__law_draws
  refine B_asgO (c0 := (fun z => D.lst .own (List.map cInt.e z))) (Ev.pure (c := (fun z => D.lst .own (List.map cInt.e z))) (x := ([] : List Int)) (P_lstM (c := cInt) (l := []) (itmM_nil (c := cInt)) (by exact Nat.le_of_ble_eq_true rfl))) (fun _ => nl_own) (lt_ rfl) fun x_rows => ?_
  show Bx _ _ _ [some (cInt.e x_cell_here), some (cInt.e x_count), some (D.lst .own (List.map cInt.e x_rows)), none, none, none] _ _
  refine B_asg (c0 := cInt.e) cInt.e (Ev.pure (c := cInt.e) (x := x_cell_here) (P_varC (c := cInt) (x := x_cell_here) (by rfl))) (item_c cInt) (lt_ rfl) fun x_rest => ?_
  show Bx _ _ _ [some (cInt.e x_cell_here), some (cInt.e x_count), some (D.lst .own (List.map cInt.e x_rows)), some (cInt.e x_rest), none, none] _ _
  refine B_for (E := fun (x_b : Nat → Option D) (x_s : ((List Int) × Int)) => [some (cInt.e x_cell_here), some (cInt.e x_count), some (D.lst .own (List.map cInt.e x_s.1)), some (cInt.e x_s.2), (x_b 4), (x_b 5)]) (t := cInt.e) (b0 := (fun i => List.getD [some (cInt.e x_cell_here), some (cInt.e x_count), some (D.lst .own (List.map cInt.e x_rows)), some (cInt.e x_rest), none, none] i none)) (s0 := (x_rows, x_rest)) (E1 := fun (x_b : Nat → Option D) (x_s : ((List Int) × Int)) (x_y : Int) => [some (cInt.e x_cell_here), some (cInt.e x_count), some (D.lst .own (List.map cInt.e x_s.1)), some (cInt.e x_s.2), some (cInt.e x_y), (x_b 5)]) (It_r1S (It_rng1 (P_varC (c := cInt) (x := x_count) (by rfl)))) (fun _ _ => rfl) (fun x_b x_s x_y => (bind_name (Cd.fz cInt x_y) rfl (lt_ rfl))) (fun x_b x_s x_y => ?_) fun x_b_2 x_s_1 => ?_
  · show Bx _ _ _ [some (cInt.e x_cell_here), some (cInt.e x_count), some (D.lst .own (List.map cInt.e x_s.1)), some (cInt.e x_s.2), some (cInt.e x_y), (x_b 5)] _ _
    refine B_iteJ (E := fun (x_b_1 : Nat → Option D) x_m => [some (cInt.e x_cell_here), some (cInt.e x_count), some (D.lst .own (List.map cInt.e x_m.1)), some (cInt.e x_m.2), some (cInt.e x_y), (x_b_1 5)]) (Ev.pure (c := cBool.e) (x := ((decide ((1000000000000000000 : Int) ≤ x_cell_here)) && (decide ((0 : Int) < x_s.2)))) (P_and (P_ge (P_varC (c := cInt) (x := x_cell_here) (by rfl)) (P_pow (k := 1000000000000000000) P_int P_int rfl)) (P_gt (P_varC (c := cInt) (x := x_s.2) (by rfl)) P_int))) ?_ ?_ fun x_b_1 x_m => ?_
    · refine B_app (c := cInt) (l := x_s.1) (c0 := cInt.e) (by rfl) (Ev.pure (c := cInt.e) (x := (x_s.2 % (4096 : Int))) (P_mod (P_intI (P_varC (c := cInt) (x := x_s.2) (by rfl))) P_int (by decide))) (item_c cInt) fun x_rows_1 => ?_
      show Bx _ _ _ [some (cInt.e x_cell_here), some (cInt.e x_count), some (D.lst .own (List.map cInt.e x_rows_1)), some (cInt.e x_s.2), some (cInt.e x_y), (x_b 5)] _ _
      refine B_asg (c0 := cInt.e) cInt.e (Ev.pure (c := cInt.e) (x := (x_s.2 / (4096 : Int))) (P_fdiv (P_varC (c := cInt) (x := x_s.2) (by rfl)) P_int (by decide) (by decide))) (item_c cInt) (lt_ rfl) fun x_rest_1 => ?_
      show Bx _ _ _ [some (cInt.e x_cell_here), some (cInt.e x_count), some (D.lst .own (List.map cInt.e x_rows_1)), some (cInt.e x_rest_1), some (cInt.e x_y), (x_b 5)] _ _
      exact B_nil ⟨(fun i => List.getD [some (cInt.e x_cell_here), some (cInt.e x_count), some (D.lst .own (List.map cInt.e x_rows_1)), some (cInt.e x_rest_1), some (cInt.e x_y), (x_b 5)] i none), rfl⟩
    · refine B_asg (c0 := cInt.e) cInt.e (Ev.pure (c := cInt.e) (x := (((x_cell_here * (48271 : Int)) + ((x_y + (1 : Int)) * (69621 : Int))) % (2147483647 : Int))) (P_mod (P_intI (P_add (P_mulR (P_varC (c := cInt) (x := x_cell_here) (by rfl)) P_int rfl) (P_mulR (P_add (P_varC (c := cInt) (x := x_y) (by rfl)) P_int) P_int rfl))) P_int (by decide))) (item_c cInt) (lt_ rfl) fun x_mixed => ?_
      show Bx _ _ _ [some (cInt.e x_cell_here), some (cInt.e x_count), some (D.lst .own (List.map cInt.e x_s.1)), some (cInt.e x_s.2), some (cInt.e x_y), some (cInt.e x_mixed)] _ _
      refine Bx.hoist (e := (.bin .mul (.var 5) (.var 5))) (c1 := cInt.e) (M_mul (P_varC (c := cInt) (x := x_mixed) (by rfl)) (P_varC (c := cInt) (x := x_mixed) (by rfl))) fun x_t h => ?_
      refine B_asg (c0 := cInt.e) cInt.e (Ev.pure (c := cInt.e) (x := (((x_t + (x_mixed * (16807 : Int))) + (x_y * (7919 : Int))) % (2147483629 : Int))) (P_mod (P_intI (P_add (P_add h (P_mulR (P_varC (c := cInt) (x := x_mixed) (by rfl)) P_int rfl)) (P_mulR (P_varC (c := cInt) (x := x_y) (by rfl)) P_int rfl))) P_int (by decide))) (item_c cInt) (lt_ rfl) fun x_mixed_1 => ?_
      show Bx _ _ _ [some (cInt.e x_cell_here), some (cInt.e x_count), some (D.lst .own (List.map cInt.e x_s.1)), some (cInt.e x_s.2), some (cInt.e x_y), some (cInt.e x_mixed_1)] _ _
      refine Bx.hoist (e := (.bin .mul (.var 5) (.var 5))) (c1 := cInt.e) (M_mul (P_varC (c := cInt) (x := x_mixed_1) (by rfl)) (P_varC (c := cInt) (x := x_mixed_1) (by rfl))) fun x_t_1 h_1 => ?_
      refine B_asg (c0 := cInt.e) cInt.e (Ev.pure (c := cInt.e) (x := (((x_t_1 + x_cell_here) + ((13 : Int) * x_y)) % (2147483587 : Int))) (P_mod (P_intI (P_add (P_add h_1 (P_varC (c := cInt) (x := x_cell_here) (by rfl))) (P_mulL P_int (P_varC (c := cInt) (x := x_y) (by rfl)) rfl))) P_int (by decide))) (item_c cInt) (lt_ rfl) fun x_mixed_2 => ?_
      show Bx _ _ _ [some (cInt.e x_cell_here), some (cInt.e x_count), some (D.lst .own (List.map cInt.e x_s.1)), some (cInt.e x_s.2), some (cInt.e x_y), some (cInt.e x_mixed_2)] _ _
      refine B_app (c := cInt) (l := x_s.1) (c0 := cInt.e) (by rfl) (Ev.pure (c := cInt.e) (x := ((x_mixed_2 / (7 : Int)) % (4096 : Int))) (P_mod (P_fdiv (P_varC (c := cInt) (x := x_mixed_2) (by rfl)) P_int (by decide) (by decide)) P_int (by decide))) (item_c cInt) fun x_rows_2 => ?_
      show Bx _ _ _ [some (cInt.e x_cell_here), some (cInt.e x_count), some (D.lst .own (List.map cInt.e x_rows_2)), some (cInt.e x_s.2), some (cInt.e x_y), some (cInt.e x_mixed_2)] _ _
      exact B_nil ⟨(fun i => List.getD [some (cInt.e x_cell_here), some (cInt.e x_count), some (D.lst .own (List.map cInt.e x_rows_2)), some (cInt.e x_s.2), some (cInt.e x_y), some (cInt.e x_mixed_2)] i none), rfl⟩
    show Bx _ _ _ [some (cInt.e x_cell_here), some (cInt.e x_count), some (D.lst .own (List.map cInt.e x_m.1)), some (cInt.e x_m.2), some (cInt.e x_y), (x_b_1 5)] _ _
    exact B_nil ⟨(fun i => List.getD [some (cInt.e x_cell_here), some (cInt.e x_count), some (D.lst .own (List.map cInt.e x_m.1)), some (cInt.e x_m.2), some (cInt.e x_y), (x_b_1 5)] i none), .inl rfl⟩
  show Bx _ _ _ [some (cInt.e x_cell_here), some (cInt.e x_count), some (D.lst .own (List.map cInt.e x_s_1.1)), some (cInt.e x_s_1.2), (x_b_2 4), (x_b_2 5)] _ _
  exact B_retMv (by rfl) nl_own (rt_f frz_own)
theorem ok__law_is_bool {n : Nat}  (x_x : Bool) (x_due : Bool) : ∀ r, m__law_is_bool x_x x_due = some r → C (n + 1) i__law_is_bool [(cBool.e x_x), (cBool.e x_due)] = some (cBool.e r) := by
  refine call_Bx (df := d__law_is_bool) (cc := cBool.e) rfl rfl (by decide) (all_cons (ok_c (c := cBool)) (all_cons (ok_c (c := cBool)) all_nil)) rfl ?_
  show Bx _ (C (n + 0)) b__law_is_bool [some (cBool.e x_x), some (cBool.e x_due)] _ _
  unfold b__law_is_bool m__law_is_bool
  refine B_ite1 (Ev.pure (c := cBool.e) (x := x_due) (P_varC (c := cBool) (x := x_due) (by rfl))) ?_ ?_
  · exact B_ret (Ev.pure (c := cBool.e) (x := (decide (x_x = true))) (P_isB (n := false) (k := true) (P_varC (c := cBool) (x := x_x) (by rfl)))) (Cd.nl cBool) (fun _ => ⟨(rt_c cBool _), rfl⟩)
  exact B_ret (Ev.pure (c := cBool.e) (x := (decide (x_x = false))) (P_isB (n := false) (k := false) (P_varC (c := cBool) (x := x_x) (by rfl)))) (Cd.nl cBool) (fun _ => (rt_c cBool _))
theorem ok__law_cube {n : Nat}  (x_draw : Int) (x_width : Int) : ∀ r, m__law_cube x_draw x_width = some r → C (n + 1) i__law_cube [(cInt.e x_draw), (cInt.e x_width)] = some (cStr.e r) := by
  refine call_Bx (df := d__law_cube) (cc := cStr.e) rfl rfl (by decide) (all_cons (ok_c (c := cInt)) (all_cons (ok_c (c := cInt)) all_nil)) rfl ?_
  show Bx _ (C (n + 0)) b__law_cube [some (cInt.e x_draw), some (cInt.e x_width), none, none] _ _
  unfold b__law_cube m__law_cube
  refine B_asg (c0 := cStr.e) cStr.e (Ev.pure (c := cStr.e) (x := ([] : List Nat)) P_str) (item_c cStr) (lt_ rfl) fun x_text => ?_
  show Bx _ _ _ [some (cInt.e x_draw), some (cInt.e x_width), some (cStr.e x_text), none] _ _
  refine B_for (E := fun (x_b : Nat → Option D) (x_s : (Int × (List Nat))) => [some (cInt.e x_s.1), some (cInt.e x_width), some (cStr.e x_s.2), (x_b 3)]) (t := cInt.e) (b0 := (fun i => List.getD [some (cInt.e x_draw), some (cInt.e x_width), some (cStr.e x_text), none] i none)) (s0 := (x_draw, x_text)) (E1 := fun (x_b : Nat → Option D) (x_s : (Int × (List Nat))) (x_y : Int) => [some (cInt.e x_s.1), some (cInt.e x_width), some (cStr.e x_s.2), some (cInt.e x_y)]) (It_r1S (It_rng1 (P_varC (c := cInt) (x := x_width) (by rfl)))) (fun _ _ => rfl) (fun x_b x_s x_y => (bind_name (Cd.fz cInt x_y) rfl (lt_ rfl))) (fun x_b x_s x_y => ?_) fun x_b_1 x_s_1 => ?_
  · show Bx _ _ _ [some (cInt.e x_s.1), some (cInt.e x_width), some (cStr.e x_s.2), some (cInt.e x_y)] _ _
    refine Bx.hoist (e := (.idx (.str [48, 49, 45]) (.bin .mod (.var 0) (.int 3)))) (c1 := cStr.e) (M_idxS P_str (P_mod (P_varC (c := cInt) (x := x_s.1) (by rfl)) P_int (by decide))) fun x_t h => ?_
    refine B_asg (c0 := cStr.e) cStr.e (M_catS (P_varC (c := cStr) (x := x_s.2) (by rfl)) h) (item_c cStr) (lt_ rfl) fun x_text_1 => ?_
    show Bx _ _ _ [some (cInt.e x_s.1), some (cInt.e x_width), some (cStr.e x_text_1), some (cInt.e x_y)] _ _
    refine B_asg (c0 := cInt.e) cInt.e (Ev.pure (c := cInt.e) (x := (x_s.1 / (3 : Int))) (P_fdiv (P_varC (c := cInt) (x := x_s.1) (by rfl)) P_int (by decide) (by decide))) (item_c cInt) (lt_ rfl) fun x_draw_1 => ?_
    show Bx _ _ _ [some (cInt.e x_draw_1), some (cInt.e x_width), some (cStr.e x_text_1), some (cInt.e x_y)] _ _
    exact B_nil ⟨(fun i => List.getD [some (cInt.e x_draw_1), some (cInt.e x_width), some (cStr.e x_text_1), some (cInt.e x_y)] i none), .inl rfl⟩
  show Bx _ _ _ [some (cInt.e x_s_1.1), some (cInt.e x_width), some (cStr.e x_s_1.2), (x_b_1 3)] _ _
  exact B_ret (Ev.pure (c := cStr.e) (x := x_s_1.2) (P_varC (c := cStr) (x := x_s_1.2) (by rfl))) (Cd.nl cStr) (fun _ => (rt_c cStr _))
theorem ok__law_code_of {n : Nat}  (x_number : Int) (x_width : Int) : ∀ r, m__law_code_of x_number x_width = some r → C (n + 1) i__law_code_of [(cInt.e x_number), (cInt.e x_width)] = some (cStr.e r) := by
  refine call_Bx (df := d__law_code_of) (cc := cStr.e) rfl rfl (by decide) (all_cons (ok_c (c := cInt)) (all_cons (ok_c (c := cInt)) all_nil)) rfl ?_
  show Bx _ (C (n + 0)) b__law_code_of [some (cInt.e x_number), some (cInt.e x_width), none, none] _ _
  unfold b__law_code_of m__law_code_of
  refine B_asg (c0 := cStr.e) cStr.e (Ev.pure (c := cStr.e) (x := ([] : List Nat)) P_str) (item_c cStr) (lt_ rfl) fun x_text => ?_
  show Bx _ _ _ [some (cInt.e x_number), some (cInt.e x_width), some (cStr.e x_text), none] _ _
  refine B_for (E := fun (x_b : Nat → Option D) (x_s : (Int × (List Nat))) => [some (cInt.e x_s.1), some (cInt.e x_width), some (cStr.e x_s.2), (x_b 3)]) (t := cInt.e) (b0 := (fun i => List.getD [some (cInt.e x_number), some (cInt.e x_width), some (cStr.e x_text), none] i none)) (s0 := (x_number, x_text)) (E1 := fun (x_b : Nat → Option D) (x_s : (Int × (List Nat))) (x_y : Int) => [some (cInt.e x_s.1), some (cInt.e x_width), some (cStr.e x_s.2), some (cInt.e x_y)]) (It_r1S (It_rng1 (P_varC (c := cInt) (x := x_width) (by rfl)))) (fun _ _ => rfl) (fun x_b x_s x_y => (bind_name (Cd.fz cInt x_y) rfl (lt_ rfl))) (fun x_b x_s x_y => ?_) fun x_b_1 x_s_1 => ?_
  · show Bx _ _ _ [some (cInt.e x_s.1), some (cInt.e x_width), some (cStr.e x_s.2), some (cInt.e x_y)] _ _
    refine Bx.hoist (e := (.idx (.str [48, 49]) (.bin .mod (.var 0) (.int 2)))) (c1 := cStr.e) (M_idxS P_str (P_mod (P_varC (c := cInt) (x := x_s.1) (by rfl)) P_int (by decide))) fun x_t h => ?_
    refine B_asg (c0 := cStr.e) cStr.e (M_catS h (P_varC (c := cStr) (x := x_s.2) (by rfl))) (item_c cStr) (lt_ rfl) fun x_text_1 => ?_
    show Bx _ _ _ [some (cInt.e x_s.1), some (cInt.e x_width), some (cStr.e x_text_1), some (cInt.e x_y)] _ _
    refine B_asg (c0 := cInt.e) cInt.e (Ev.pure (c := cInt.e) (x := (x_s.1 / (2 : Int))) (P_fdiv (P_varC (c := cInt) (x := x_s.1) (by rfl)) P_int (by decide) (by decide))) (item_c cInt) (lt_ rfl) fun x_number_1 => ?_
    show Bx _ _ _ [some (cInt.e x_number_1), some (cInt.e x_width), some (cStr.e x_text_1), some (cInt.e x_y)] _ _
    exact B_nil ⟨(fun i => List.getD [some (cInt.e x_number_1), some (cInt.e x_width), some (cStr.e x_text_1), some (cInt.e x_y)] i none), .inl rfl⟩
  show Bx _ _ _ [some (cInt.e x_s_1.1), some (cInt.e x_width), some (cStr.e x_s_1.2), (x_b_1 3)] _ _
  exact B_ret (Ev.pure (c := cStr.e) (x := x_s_1.2) (P_varC (c := cStr) (x := x_s_1.2) (by rfl))) (Cd.nl cStr) (fun _ => (rt_c cStr _))
theorem ok__law_codes {n : Nat}  (x_width : Int) : ∀ r, m__law_codes x_width = some r → C (n + 2) i__law_codes [(cInt.e x_width)] = some ((fun z => D.lst .frz (List.map cStr.e z)) r) := by
  refine call_Bx (df := d__law_codes) (cc := (fun z => D.lst .frz (List.map cStr.e z))) rfl rfl (by decide) (all_cons (ok_c (c := cInt)) all_nil) rfl ?_
  show Bx _ (C (n + 1)) b__law_codes [some (cInt.e x_width), none, none] _ _
  unfold b__law_codes m__law_codes
  refine B_asg (c0 := cInt.e) cInt.e (M_idxL (c := cInt) (l := ([(1 : Int), (2 : Int), (4 : Int), (8 : Int), (16 : Int), (32 : Int), (64 : Int), (128 : Int), (256 : Int)] : List Int)) (f := .own) (P_lstM (c := cInt) (l := [(1 : Int), (2 : Int), (4 : Int), (8 : Int), (16 : Int), (32 : Int), (64 : Int), (128 : Int), (256 : Int)]) (itmM_cons (c := cInt) (x := (1 : Int)) (l := [(2 : Int), (4 : Int), (8 : Int), (16 : Int), (32 : Int), (64 : Int), (128 : Int), (256 : Int)]) (itm_c (c := cInt) (x := (1 : Int)) P_int) (itmM_cons (c := cInt) (x := (2 : Int)) (l := [(4 : Int), (8 : Int), (16 : Int), (32 : Int), (64 : Int), (128 : Int), (256 : Int)]) (itm_c (c := cInt) (x := (2 : Int)) P_int) (itmM_cons (c := cInt) (x := (4 : Int)) (l := [(8 : Int), (16 : Int), (32 : Int), (64 : Int), (128 : Int), (256 : Int)]) (itm_c (c := cInt) (x := (4 : Int)) P_int) (itmM_cons (c := cInt) (x := (8 : Int)) (l := [(16 : Int), (32 : Int), (64 : Int), (128 : Int), (256 : Int)]) (itm_c (c := cInt) (x := (8 : Int)) P_int) (itmM_cons (c := cInt) (x := (16 : Int)) (l := [(32 : Int), (64 : Int), (128 : Int), (256 : Int)]) (itm_c (c := cInt) (x := (16 : Int)) P_int) (itmM_cons (c := cInt) (x := (32 : Int)) (l := [(64 : Int), (128 : Int), (256 : Int)]) (itm_c (c := cInt) (x := (32 : Int)) P_int) (itmM_cons (c := cInt) (x := (64 : Int)) (l := [(128 : Int), (256 : Int)]) (itm_c (c := cInt) (x := (64 : Int)) P_int) (itmM_cons (c := cInt) (x := (128 : Int)) (l := [(256 : Int)]) (itm_c (c := cInt) (x := (128 : Int)) P_int) (itmM_cons (c := cInt) (x := (256 : Int)) (l := []) (itm_c (c := cInt) (x := (256 : Int)) P_int) (itmM_nil (c := cInt))))))))))) (by exact Nat.le_of_ble_eq_true rfl)) (P_varC (c := cInt) (x := x_width) (by rfl))) (item_c cInt) (lt_ rfl) fun x_many => ?_
  show Bx _ _ _ [some (cInt.e x_width), some (cInt.e x_many), none] _ _
  exact B_ret (M_lcG (ca := cInt.e) (cb := cStr.e) (It_rng1 (P_varC (c := cInt) (x := x_many) (by rfl))) fun x_y => lcF_of (env1 := [some (cInt.e x_width), some (cInt.e x_many), some (cInt.e x_y)]) (d := cStr.e) (bind_name (Cd.fz cInt x_y) rfl (lt_ rfl)) cond_no (M_call (cc := cStr.e) (args_cons (arg_c (c := cInt) (x := x_y) (P_varC (c := cInt) (x := x_y) (by rfl))) (args_cons (arg_c (c := cInt) (x := x_width) (P_varC (c := cInt) (x := x_width) (by rfl))) args_nil)) (ok__law_code_of (n := n) x_y x_width)) (item_c cStr)) (fun _ => nl_own) (fun _ => (rt_f frz_own))
theorem ok__law_in {n : Nat}  (x_cube_here : (List Nat)) (x_code : (List Nat)) : ∀ r, m__law_in x_cube_here x_code = some r → C (n + 1) i__law_in [(cStr.e x_cube_here), (cStr.e x_code)] = some (cBool.e r) := by
  refine call_Bx (df := d__law_in) (cc := cBool.e) rfl rfl (by decide) (all_cons (ok_c (c := cStr)) (all_cons (ok_c (c := cStr)) all_nil)) rfl ?_
  show Bx _ (C (n + 0)) b__law_in [some (cStr.e x_cube_here), some (cStr.e x_code), none] _ _
  unfold b__law_in m__law_in
  refine B_forR (E := fun (x_b : Nat → Option D) (x_s : Unit) => [some (cStr.e x_cube_here), some (cStr.e x_code), (x_b 2)]) (t := cInt.e) (b0 := (fun i => List.getD [some (cStr.e x_cube_here), some (cStr.e x_code), none] i none)) (s0 := ()) (E1 := fun (x_b : Nat → Option D) (x_s : Unit) (x_y : Int) => [some (cStr.e x_cube_here), some (cStr.e x_code), some (cInt.e x_y)]) (O' := Rt cBool.e) Rt.is (fun _ _ h => h) (It_r1S (It_rng1 (P_lenS (P_varC (c := cStr) (x := x_code) (by rfl))))) (fun _ _ => rfl) (fun x_b x_s x_y => (bind_name (Cd.fz cInt x_y) rfl (lt_ rfl))) (fun x_b x_s x_y => ?_) fun x_b_1 x_s_1 => ?_
  · show Bx _ _ _ [some (cStr.e x_cube_here), some (cStr.e x_code), some (cInt.e x_y)] _ _
    refine Bx.hoist (e := (.idx (.var 0) (.var 2))) (c1 := cStr.e) (M_idxS (P_varC (c := cStr) (x := x_cube_here) (by rfl)) (P_varC (c := cInt) (x := x_y) (by rfl))) fun x_t h => ?_
    refine B_ite1 (M_and (x := (!(decide (x_t = ([45] : List Nat))))) (P_ne (c := cStr) (x := x_t) (y := ([45] : List Nat)) eqStr h P_str) (Ev.hoist (e0 := (.idx (.var 0) (.var 2))) (c1 := cStr.e) (M_idxS (P_varC (c := cStr) (x := x_cube_here) (by rfl)) (P_varC (c := cInt) (x := x_y) (by rfl))) fun x_t_1 h_1 => (Ev.hoist (e0 := (.idx (.var 1) (.var 2))) (c1 := cStr.e) (M_idxS (P_varC (c := cStr) (x := x_code) (by rfl)) (P_varC (c := cInt) (x := x_y) (by rfl))) fun x_t_2 h_2 => (Ev.pure (c := cBool.e) (x := (!(decide (x_t_1 = x_t_2)))) (P_ne (c := cStr) (x := x_t_1) (y := x_t_2) eqStr h_1 h_2))))) ?_ ?_
    · exact B_ret (Ev.pure (c := cBool.e) (x := false) P_bl) (Cd.nl cBool) (fun _ => ⟨(rt_c cBool _), rfl⟩)
    exact B_nil ⟨(fun i => List.getD [some (cStr.e x_cube_here), some (cStr.e x_code), some (cInt.e x_y)] i none), .inl rfl⟩
  show Bx _ _ _ [some (cStr.e x_cube_here), some (cStr.e x_code), (x_b_1 2)] _ _
  exact B_ret (Ev.pure (c := cBool.e) (x := true) P_bl) (Cd.nl cBool) (fun _ => (rt_c cBool _))
theorem ok__law_covered {n : Nat} (fl_x_cover : Fl) (hf_fl_x_cover : fl_x_cover.lock = fl_x_cover) (x_cover : (List (List Nat))) (x_code : (List Nat)) : ∀ r, m__law_covered x_cover x_code = some r → C (n + 2) i__law_covered [(D.lst fl_x_cover (List.map cStr.e x_cover)), (cStr.e x_code)] = some (cBool.e r) := by
  refine call_Bx (df := d__law_covered) (cc := cBool.e) rfl rfl (by decide) (all_cons (ok_fl (c := cStr) hf_fl_x_cover) (all_cons (ok_c (c := cStr)) all_nil)) rfl ?_
  show Bx _ (C (n + 1)) b__law_covered [some (D.lst fl_x_cover (List.map cStr.e x_cover)), some (cStr.e x_code), none] _ _
  unfold b__law_covered m__law_covered
  refine B_forR (E := fun (x_b : Nat → Option D) (x_s : Unit) => [some (D.lst fl_x_cover (List.map cStr.e x_cover)), some (cStr.e x_code), (x_b 2)]) (t := cStr.e) (b0 := (fun i => List.getD [some (D.lst fl_x_cover (List.map cStr.e x_cover)), some (cStr.e x_code), none] i none)) (s0 := ()) (E1 := fun (x_b : Nat → Option D) (x_s : Unit) (x_y : (List Nat)) => [some (D.lst fl_x_cover (List.map cStr.e x_cover)), some (cStr.e x_code), some (cStr.e x_y)]) (O' := Rt cBool.e) Rt.is (fun _ _ h => h) (It_seqS (It_lst (c := cStr) (l := x_cover) (f := fl_x_cover) (fl_ne hf_fl_x_cover) (P_varF (c := cStr) (l := x_cover) (fl := fl_x_cover) hf_fl_x_cover (getE_selF (c := cStr) hf_fl_x_cover (by rfl))))) (fun _ _ => rfl) (fun x_b x_s x_y => (bind_name (Cd.fz cStr x_y) rfl (lt_ rfl))) (fun x_b x_s x_y => ?_) fun x_b_1 x_s_1 => ?_
  · show Bx _ _ _ [some (D.lst fl_x_cover (List.map cStr.e x_cover)), some (cStr.e x_code), some (cStr.e x_y)] _ _
    refine B_ite1 (M_call (cc := cBool.e) (args_cons (arg_c (c := cStr) (x := x_y) (P_varC (c := cStr) (x := x_y) (by rfl))) (args_cons (arg_c (c := cStr) (x := x_code) (P_varC (c := cStr) (x := x_code) (by rfl))) args_nil)) (ok__law_in (n := n) x_y x_code)) ?_ ?_
    · exact B_ret (Ev.pure (c := cBool.e) (x := true) P_bl) (Cd.nl cBool) (fun _ => ⟨(rt_c cBool _), rfl⟩)
    exact B_nil ⟨(fun i => List.getD [some (D.lst fl_x_cover (List.map cStr.e x_cover)), some (cStr.e x_code), some (cStr.e x_y)] i none), .inl rfl⟩
  show Bx _ _ _ [some (D.lst fl_x_cover (List.map cStr.e x_cover)), some (cStr.e x_code), (x_b_1 2)] _ _
  exact B_ret (Ev.pure (c := cBool.e) (x := false) P_bl) (Cd.nl cBool) (fun _ => (rt_c cBool _))
theorem ok__law_function {n : Nat}  (x_cell_here : Int) (x_width : Int) : ∀ r, m__law_function x_cell_here x_width = some r → C (n + 3) i__law_function [(cInt.e x_cell_here), (cInt.e x_width)] = some ((cQ (cL cStr) (cL cStr)).e r) := by
  refine call_Bx (df := d__law_function) (cc := (cQ (cL cStr) (cL cStr)).e) rfl rfl (by decide) (all_cons (ok_c (c := cInt)) (all_cons (ok_c (c := cInt)) all_nil)) rfl ?_
  show Bx _ (C (n + 2)) b__law_function [some (cInt.e x_cell_here), some (cInt.e x_width), none, none, none, none, none, none, none] _ _
  unfold b__law_function m__law_function
  refine B_asg (c0 := (fun z => D.lst .frz (List.map cInt.e z))) (fun z => D.lst .frz (List.map cInt.e z)) (M_call (cc := (fun z => D.lst .frz (List.map cInt.e z))) (args_cons (arg_c (c := cInt) (x := x_cell_here) (P_varC (c := cInt) (x := x_cell_here) (by rfl))) (args_cons (arg_c (c := cInt) (x := (40 : Int)) P_int) args_nil)) (ok__law_draws (n := n + 1) x_cell_here (40 : Int))) (item_c (cL cInt)) (lt_ rfl) fun x_draws_here => ?_
  show Bx _ _ _ [some (cInt.e x_cell_here), some (cInt.e x_width), some (D.lst .frz (List.map cInt.e x_draws_here)), none, none, none, none, none, none] _ _
  refine B_asgO (c0 := (fun z => D.lst .own (List.map cStr.e z))) (Ev.pure (c := (fun z => D.lst .own (List.map cStr.e z))) (x := ([] : List (List Nat))) (P_lstM (c := cStr) (l := []) (itmM_nil (c := cStr)) (by exact Nat.le_of_ble_eq_true rfl))) (fun _ => nl_own) (lt_ rfl) fun x_on => ?_
  show Bx _ _ _ [some (cInt.e x_cell_here), some (cInt.e x_width), some (D.lst .frz (List.map cInt.e x_draws_here)), some (D.lst .own (List.map cStr.e x_on)), none, none, none, none, none] _ _
  refine B_asgO (c0 := (fun z => D.lst .own (List.map cStr.e z))) (Ev.pure (c := (fun z => D.lst .own (List.map cStr.e z))) (x := ([] : List (List Nat))) (P_lstM (c := cStr) (l := []) (itmM_nil (c := cStr)) (by exact Nat.le_of_ble_eq_true rfl))) (fun _ => nl_own) (lt_ rfl) fun x_off => ?_
  show Bx _ _ _ [some (cInt.e x_cell_here), some (cInt.e x_width), some (D.lst .frz (List.map cInt.e x_draws_here)), some (D.lst .own (List.map cStr.e x_on)), some (D.lst .own (List.map cStr.e x_off)), none, none, none, none] _ _
  refine B_asg (c0 := (fun z => D.lst .frz (List.map cStr.e z))) (fun z => D.lst .frz (List.map cStr.e z)) (M_call (cc := (fun z => D.lst .frz (List.map cStr.e z))) (args_cons (arg_c (c := cInt) (x := x_width) (P_varC (c := cInt) (x := x_width) (by rfl))) args_nil) (ok__law_codes (n := n) x_width)) (item_c (cL cStr)) (lt_ rfl) fun x_codes_here => ?_
  show Bx _ _ _ [some (cInt.e x_cell_here), some (cInt.e x_width), some (D.lst .frz (List.map cInt.e x_draws_here)), some (D.lst .own (List.map cStr.e x_on)), some (D.lst .own (List.map cStr.e x_off)), some (D.lst .frz (List.map cStr.e x_codes_here)), none, none, none] _ _
  refine Bx.hoist (e := (.idx (.var 2) (.int 39))) (c1 := cInt.e) (M_idxL (c := cInt) (l := x_draws_here) (f := .frz) (P_varF (c := cInt) (l := x_draws_here) (fl := .frz) rfl (by rfl)) P_int) fun x_t h_2 => ?_
  refine B_asg (c0 := cInt.e) cInt.e (Ev.pure (c := cInt.e) (x := ((3 : Int) + (x_t % (3 : Int)))) (P_add P_int (P_mod h_2 P_int (by decide)))) (item_c cInt) (lt_ rfl) fun x_share => ?_
  show Bx _ _ _ [some (cInt.e x_cell_here), some (cInt.e x_width), some (D.lst .frz (List.map cInt.e x_draws_here)), some (D.lst .own (List.map cStr.e x_on)), some (D.lst .own (List.map cStr.e x_off)), some (D.lst .frz (List.map cStr.e x_codes_here)), some (cInt.e x_share), none, none] _ _
  refine B_for (E := fun (x_b : Nat → Option D) (x_s : ((List (List Nat)) × (List (List Nat)))) => [some (cInt.e x_cell_here), some (cInt.e x_width), some (D.lst .frz (List.map cInt.e x_draws_here)), some (D.lst .own (List.map cStr.e x_s.1)), some (D.lst .own (List.map cStr.e x_s.2)), some (D.lst .frz (List.map cStr.e x_codes_here)), some (cInt.e x_share), (x_b 7), (x_b 8)]) (t := cInt.e) (b0 := (fun i => List.getD [some (cInt.e x_cell_here), some (cInt.e x_width), some (D.lst .frz (List.map cInt.e x_draws_here)), some (D.lst .own (List.map cStr.e x_on)), some (D.lst .own (List.map cStr.e x_off)), some (D.lst .frz (List.map cStr.e x_codes_here)), some (cInt.e x_share), none, none] i none)) (s0 := (x_on, x_off)) (E1 := fun (x_b : Nat → Option D) (x_s : ((List (List Nat)) × (List (List Nat)))) (x_y : Int) => [some (cInt.e x_cell_here), some (cInt.e x_width), some (D.lst .frz (List.map cInt.e x_draws_here)), some (D.lst .own (List.map cStr.e x_s.1)), some (D.lst .own (List.map cStr.e x_s.2)), some (D.lst .frz (List.map cStr.e x_codes_here)), some (cInt.e x_share), some (cInt.e x_y), (x_b 8)]) (It_r1S (It_rng1 (P_lenL (c := cStr) (l := x_codes_here) (f := .frz) (P_varF (c := cStr) (l := x_codes_here) (fl := .frz) rfl (by rfl))))) (fun _ _ => rfl) (fun x_b x_s x_y => (bind_name (Cd.fz cInt x_y) rfl (lt_ rfl))) (fun x_b x_s x_y => ?_) fun x_b_4 x_s_1 => ?_
  · show Bx _ _ _ [some (cInt.e x_cell_here), some (cInt.e x_width), some (D.lst .frz (List.map cInt.e x_draws_here)), some (D.lst .own (List.map cStr.e x_s.1)), some (D.lst .own (List.map cStr.e x_s.2)), some (D.lst .frz (List.map cStr.e x_codes_here)), some (cInt.e x_share), some (cInt.e x_y), (x_b 8)] _ _
    refine Bx.hoist (e := (.idx (.var 2) (.int 38))) (c1 := cInt.e) (M_idxL (c := cInt) (l := x_draws_here) (f := .frz) (P_varF (c := cInt) (l := x_draws_here) (fl := .frz) rfl (by rfl)) P_int) fun x_t_1 h_3 => ?_
    refine Bx.hoist (e := (.idx (.var 2) (.bin .mod (.bin .add (.var 7) (.idx (.var 2) (.int 38))) (.int 37)))) (c1 := cInt.e) (M_idxL (c := cInt) (l := x_draws_here) (f := .frz) (P_varF (c := cInt) (l := x_draws_here) (fl := .frz) rfl (by rfl)) (P_mod (P_add (P_varC (c := cInt) (x := x_y) (by rfl)) h_3) P_int (by decide))) fun x_t_2 h_4 => ?_
    refine Bx.hoist (e := (.idx (.lst (.cons (.int 1) (.cons (.int 7) .nil))) (.bin .mod (.bin .fdiv (.var 7) (.int 32)) (.int 2)))) (c1 := cInt.e) (M_idxL (c := cInt) (l := ([(1 : Int), (7 : Int)] : List Int)) (f := .own) (P_lstM (c := cInt) (l := [(1 : Int), (7 : Int)]) (itmM_cons (c := cInt) (x := (1 : Int)) (l := [(7 : Int)]) (itm_c (c := cInt) (x := (1 : Int)) P_int) (itmM_cons (c := cInt) (x := (7 : Int)) (l := []) (itm_c (c := cInt) (x := (7 : Int)) P_int) (itmM_nil (c := cInt)))) (by exact Nat.le_of_ble_eq_true rfl)) (P_mod (P_fdiv (P_varC (c := cInt) (x := x_y) (by rfl)) P_int (by decide) (by decide)) P_int (by decide))) fun x_t_3 h_5 => ?_
    refine Bx.hoist (e := (.bin .fdiv (.idx (.var 2) (.bin .mod (.bin .add (.var 7) (.idx (.var 2) (.int 38))) (.int 37))) (.idx (.lst (.cons (.int 1) (.cons (.int 7) .nil))) (.bin .mod (.bin .fdiv (.var 7) (.int 32)) (.int 2))))) (c1 := cInt.e) (M_fdiv h_4 h_5) fun x_t_4 h_6 => ?_
    refine B_asg (c0 := cInt.e) cInt.e (M_mod h_6 (P_varC (c := cInt) (x := x_share) (by rfl))) (item_c cInt) (lt_ rfl) fun x_draw => ?_
    show Bx _ _ _ [some (cInt.e x_cell_here), some (cInt.e x_width), some (D.lst .frz (List.map cInt.e x_draws_here)), some (D.lst .own (List.map cStr.e x_s.1)), some (D.lst .own (List.map cStr.e x_s.2)), some (D.lst .frz (List.map cStr.e x_codes_here)), some (cInt.e x_share), some (cInt.e x_y), some (cInt.e x_draw)] _ _
    refine B_iteJ (E := fun (x_b_1 : Nat → Option D) x_m => [some (cInt.e x_cell_here), some (cInt.e x_width), some (D.lst .frz (List.map cInt.e x_draws_here)), some (D.lst .own (List.map cStr.e x_s.1)), some (D.lst .own (List.map cStr.e x_s.2)), some (D.lst .frz (List.map cStr.e x_codes_here)), some (cInt.e x_share), some (cInt.e x_y), some (cInt.e x_m)]) (Ev.pure (c := cBool.e) (x := (decide ((32 : Int) ≤ x_y))) (P_ge (P_varC (c := cInt) (x := x_y) (by rfl)) P_int)) ?_ ?_ fun x_b_1 x_m => ?_
    · refine Bx.hoist (e := (.idx (.var 2) (.bin .mod (.var 7) (.int 31)))) (c1 := cInt.e) (M_idxL (c := cInt) (l := x_draws_here) (f := .frz) (P_varF (c := cInt) (l := x_draws_here) (fl := .frz) rfl (by rfl)) (P_mod (P_varC (c := cInt) (x := x_y) (by rfl)) P_int (by decide))) fun x_t_6 h_8 => ?_
      refine B_asg (c0 := cInt.e) cInt.e (M_mod (P_add (P_varC (c := cInt) (x := x_draw) (by rfl)) h_8) (P_varC (c := cInt) (x := x_share) (by rfl))) (item_c cInt) (lt_ rfl) fun x_draw_1 => ?_
      show Bx _ _ _ [some (cInt.e x_cell_here), some (cInt.e x_width), some (D.lst .frz (List.map cInt.e x_draws_here)), some (D.lst .own (List.map cStr.e x_s.1)), some (D.lst .own (List.map cStr.e x_s.2)), some (D.lst .frz (List.map cStr.e x_codes_here)), some (cInt.e x_share), some (cInt.e x_y), some (cInt.e x_draw_1)] _ _
      exact B_nil ⟨(fun i => List.getD [some (cInt.e x_cell_here), some (cInt.e x_width), some (D.lst .frz (List.map cInt.e x_draws_here)), some (D.lst .own (List.map cStr.e x_s.1)), some (D.lst .own (List.map cStr.e x_s.2)), some (D.lst .frz (List.map cStr.e x_codes_here)), some (cInt.e x_share), some (cInt.e x_y), some (cInt.e x_draw_1)] i none), rfl⟩
    · exact B_nil ⟨(fun i => List.getD [some (cInt.e x_cell_here), some (cInt.e x_width), some (D.lst .frz (List.map cInt.e x_draws_here)), some (D.lst .own (List.map cStr.e x_s.1)), some (D.lst .own (List.map cStr.e x_s.2)), some (D.lst .frz (List.map cStr.e x_codes_here)), some (cInt.e x_share), some (cInt.e x_y), some (cInt.e x_draw)] i none), rfl⟩
    show Bx _ _ _ [some (cInt.e x_cell_here), some (cInt.e x_width), some (D.lst .frz (List.map cInt.e x_draws_here)), some (D.lst .own (List.map cStr.e x_s.1)), some (D.lst .own (List.map cStr.e x_s.2)), some (D.lst .frz (List.map cStr.e x_codes_here)), some (cInt.e x_share), some (cInt.e x_y), some (cInt.e x_m)] _ _
    refine B_iteJ (E := fun (x_b_2 : Nat → Option D) x_m_1 => [some (cInt.e x_cell_here), some (cInt.e x_width), some (D.lst .frz (List.map cInt.e x_draws_here)), some (D.lst .own (List.map cStr.e x_m_1)), some (D.lst .own (List.map cStr.e x_s.2)), some (D.lst .frz (List.map cStr.e x_codes_here)), some (cInt.e x_share), some (cInt.e x_y), some (cInt.e x_m)]) (Ev.pure (c := cBool.e) (x := (decide (x_m = (1 : Int)))) (P_eq (c := cInt) (x := x_m) (y := (1 : Int)) eqInt (P_varC (c := cInt) (x := x_m) (by rfl)) P_int)) ?_ ?_ fun x_b_2 x_m_1 => ?_
    · refine B_app (c := cStr) (l := x_s.1) (c0 := cStr.e) (by rfl) (M_idxL (c := cStr) (l := x_codes_here) (f := .frz) (P_varF (c := cStr) (l := x_codes_here) (fl := .frz) rfl (by rfl)) (P_varC (c := cInt) (x := x_y) (by rfl))) (item_c cStr) fun x_on_1 => ?_
      show Bx _ _ _ [some (cInt.e x_cell_here), some (cInt.e x_width), some (D.lst .frz (List.map cInt.e x_draws_here)), some (D.lst .own (List.map cStr.e x_on_1)), some (D.lst .own (List.map cStr.e x_s.2)), some (D.lst .frz (List.map cStr.e x_codes_here)), some (cInt.e x_share), some (cInt.e x_y), some (cInt.e x_m)] _ _
      exact B_nil ⟨(fun i => List.getD [some (cInt.e x_cell_here), some (cInt.e x_width), some (D.lst .frz (List.map cInt.e x_draws_here)), some (D.lst .own (List.map cStr.e x_on_1)), some (D.lst .own (List.map cStr.e x_s.2)), some (D.lst .frz (List.map cStr.e x_codes_here)), some (cInt.e x_share), some (cInt.e x_y), some (cInt.e x_m)] i none), rfl⟩
    · exact B_nil ⟨(fun i => List.getD [some (cInt.e x_cell_here), some (cInt.e x_width), some (D.lst .frz (List.map cInt.e x_draws_here)), some (D.lst .own (List.map cStr.e x_s.1)), some (D.lst .own (List.map cStr.e x_s.2)), some (D.lst .frz (List.map cStr.e x_codes_here)), some (cInt.e x_share), some (cInt.e x_y), some (cInt.e x_m)] i none), rfl⟩
    show Bx _ _ _ [some (cInt.e x_cell_here), some (cInt.e x_width), some (D.lst .frz (List.map cInt.e x_draws_here)), some (D.lst .own (List.map cStr.e x_m_1)), some (D.lst .own (List.map cStr.e x_s.2)), some (D.lst .frz (List.map cStr.e x_codes_here)), some (cInt.e x_share), some (cInt.e x_y), some (cInt.e x_m)] _ _
    refine B_iteJ (E := fun (x_b_3 : Nat → Option D) x_m_2 => [some (cInt.e x_cell_here), some (cInt.e x_width), some (D.lst .frz (List.map cInt.e x_draws_here)), some (D.lst .own (List.map cStr.e x_m_1)), some (D.lst .own (List.map cStr.e x_m_2)), some (D.lst .frz (List.map cStr.e x_codes_here)), some (cInt.e x_share), some (cInt.e x_y), some (cInt.e x_m)]) (Ev.pure (c := cBool.e) (x := (decide (x_m = (2 : Int)))) (P_eq (c := cInt) (x := x_m) (y := (2 : Int)) eqInt (P_varC (c := cInt) (x := x_m) (by rfl)) P_int)) ?_ ?_ fun x_b_3 x_m_2 => ?_
    · refine B_app (c := cStr) (l := x_s.2) (c0 := cStr.e) (by rfl) (M_idxL (c := cStr) (l := x_codes_here) (f := .frz) (P_varF (c := cStr) (l := x_codes_here) (fl := .frz) rfl (by rfl)) (P_varC (c := cInt) (x := x_y) (by rfl))) (item_c cStr) fun x_off_1 => ?_
      show Bx _ _ _ [some (cInt.e x_cell_here), some (cInt.e x_width), some (D.lst .frz (List.map cInt.e x_draws_here)), some (D.lst .own (List.map cStr.e x_m_1)), some (D.lst .own (List.map cStr.e x_off_1)), some (D.lst .frz (List.map cStr.e x_codes_here)), some (cInt.e x_share), some (cInt.e x_y), some (cInt.e x_m)] _ _
      exact B_nil ⟨(fun i => List.getD [some (cInt.e x_cell_here), some (cInt.e x_width), some (D.lst .frz (List.map cInt.e x_draws_here)), some (D.lst .own (List.map cStr.e x_m_1)), some (D.lst .own (List.map cStr.e x_off_1)), some (D.lst .frz (List.map cStr.e x_codes_here)), some (cInt.e x_share), some (cInt.e x_y), some (cInt.e x_m)] i none), rfl⟩
    · exact B_nil ⟨(fun i => List.getD [some (cInt.e x_cell_here), some (cInt.e x_width), some (D.lst .frz (List.map cInt.e x_draws_here)), some (D.lst .own (List.map cStr.e x_m_1)), some (D.lst .own (List.map cStr.e x_s.2)), some (D.lst .frz (List.map cStr.e x_codes_here)), some (cInt.e x_share), some (cInt.e x_y), some (cInt.e x_m)] i none), rfl⟩
    show Bx _ _ _ [some (cInt.e x_cell_here), some (cInt.e x_width), some (D.lst .frz (List.map cInt.e x_draws_here)), some (D.lst .own (List.map cStr.e x_m_1)), some (D.lst .own (List.map cStr.e x_m_2)), some (D.lst .frz (List.map cStr.e x_codes_here)), some (cInt.e x_share), some (cInt.e x_y), some (cInt.e x_m)] _ _
    exact B_nil ⟨(fun i => List.getD [some (cInt.e x_cell_here), some (cInt.e x_width), some (D.lst .frz (List.map cInt.e x_draws_here)), some (D.lst .own (List.map cStr.e x_m_1)), some (D.lst .own (List.map cStr.e x_m_2)), some (D.lst .frz (List.map cStr.e x_codes_here)), some (cInt.e x_share), some (cInt.e x_y), some (cInt.e x_m)] i none), .inl rfl⟩
  show Bx _ _ _ [some (cInt.e x_cell_here), some (cInt.e x_width), some (D.lst .frz (List.map cInt.e x_draws_here)), some (D.lst .own (List.map cStr.e x_s_1.1)), some (D.lst .own (List.map cStr.e x_s_1.2)), some (D.lst .frz (List.map cStr.e x_codes_here)), some (cInt.e x_share), (x_b_4 7), (x_b_4 8)] _ _
  refine B_fz (c := cStr) (l := x_s_1.1) (by rfl) ?_
  show Bx _ _ _ [some (cInt.e x_cell_here), some (cInt.e x_width), some (D.lst .frz (List.map cInt.e x_draws_here)), some (D.lst .frz (List.map cStr.e x_s_1.1)), some (D.lst .own (List.map cStr.e x_s_1.2)), some (D.lst .frz (List.map cStr.e x_codes_here)), some (cInt.e x_share), (x_b_4 7), (x_b_4 8)] _ _
  refine B_fz (c := cStr) (l := x_s_1.2) (by rfl) ?_
  show Bx _ _ _ [some (cInt.e x_cell_here), some (cInt.e x_width), some (D.lst .frz (List.map cInt.e x_draws_here)), some (D.lst .frz (List.map cStr.e x_s_1.1)), some (D.lst .frz (List.map cStr.e x_s_1.2)), some (D.lst .frz (List.map cStr.e x_codes_here)), some (cInt.e x_share), (x_b_4 7), (x_b_4 8)] _ _
  refine Bx.hoist (e := (.idx (.var 2) (.int 36))) (c1 := cInt.e) (M_idxL (c := cInt) (l := x_draws_here) (f := .frz) (P_varF (c := cInt) (l := x_draws_here) (fl := .frz) rfl (by rfl)) P_int) fun x_t_10 h_12 => ?_
  refine B_iteJ (E := fun (x_b_5 : Nat → Option D) x_m_3 => [some (cInt.e x_cell_here), some (cInt.e x_width), some (D.lst .frz (List.map cInt.e x_draws_here)), some (D.lst .frz (List.map cStr.e x_m_3.1)), some (D.lst .frz (List.map cStr.e x_m_3.2)), some (D.lst .frz (List.map cStr.e x_codes_here)), some (cInt.e x_share), (x_b_4 7), (x_b_4 8)]) (Ev.pure (c := cBool.e) (x := (decide ((x_t_10 % (2 : Int)) = (1 : Int)))) (P_eq (c := cInt) (x := (x_t_10 % (2 : Int))) (y := (1 : Int)) eqInt (P_mod h_12 P_int (by decide)) P_int)) ?_ ?_ fun x_b_5 x_m_3 => ?_
  · refine B_asg (c0 := (fun z => D.lst .own (List.map cStr.e z))) (fun z => D.lst .frz (List.map cStr.e z)) (M_catL (c := cStr) (l := (List.reverse x_s_1.1)) (m := (cut x_s_1.1 none (some (1 : Int)))) (f := .own) (g := .own) (P_rev (c := cStr) (l := x_s_1.1) (f := .frz) (P_varF (c := cStr) (l := x_s_1.1) (fl := .frz) rfl (by rfl))) (P_slcL (c := cStr) (l := x_s_1.1) (f := .frz) (P_varF (c := cStr) (l := x_s_1.1) (fl := .frz) rfl (by rfl)) bnd_no (bnd_at rfl P_int))) (item_own cStr) (lt_ rfl) fun x_on_2 => ?_
    show Bx _ _ _ [some (cInt.e x_cell_here), some (cInt.e x_width), some (D.lst .frz (List.map cInt.e x_draws_here)), some (D.lst .frz (List.map cStr.e x_on_2)), some (D.lst .frz (List.map cStr.e x_s_1.2)), some (D.lst .frz (List.map cStr.e x_codes_here)), some (cInt.e x_share), (x_b_4 7), (x_b_4 8)] _ _
    refine B_asg (c0 := (fun z => D.lst .own (List.map cStr.e z))) (fun z => D.lst .frz (List.map cStr.e z)) (M_catL (c := cStr) (l := x_s_1.2) (m := (cut x_s_1.2 (some (-1 : Int)) none)) (f := .frz) (g := .own) (P_varF (c := cStr) (l := x_s_1.2) (fl := .frz) rfl (by rfl)) (P_slcL (c := cStr) (l := x_s_1.2) (f := .frz) (P_varF (c := cStr) (l := x_s_1.2) (fl := .frz) rfl (by rfl)) (bnd_at rfl (P_neg P_int)) bnd_no)) (item_own cStr) (lt_ rfl) fun x_off_2 => ?_
    show Bx _ _ _ [some (cInt.e x_cell_here), some (cInt.e x_width), some (D.lst .frz (List.map cInt.e x_draws_here)), some (D.lst .frz (List.map cStr.e x_on_2)), some (D.lst .frz (List.map cStr.e x_off_2)), some (D.lst .frz (List.map cStr.e x_codes_here)), some (cInt.e x_share), (x_b_4 7), (x_b_4 8)] _ _
    exact B_nil ⟨(fun i => List.getD [some (cInt.e x_cell_here), some (cInt.e x_width), some (D.lst .frz (List.map cInt.e x_draws_here)), some (D.lst .frz (List.map cStr.e x_on_2)), some (D.lst .frz (List.map cStr.e x_off_2)), some (D.lst .frz (List.map cStr.e x_codes_here)), some (cInt.e x_share), (x_b_4 7), (x_b_4 8)] i none), rfl⟩
  · exact B_nil ⟨(fun i => List.getD [some (cInt.e x_cell_here), some (cInt.e x_width), some (D.lst .frz (List.map cInt.e x_draws_here)), some (D.lst .frz (List.map cStr.e x_s_1.1)), some (D.lst .frz (List.map cStr.e x_s_1.2)), some (D.lst .frz (List.map cStr.e x_codes_here)), some (cInt.e x_share), (x_b_4 7), (x_b_4 8)] i none), rfl⟩
  show Bx _ _ _ [some (cInt.e x_cell_here), some (cInt.e x_width), some (D.lst .frz (List.map cInt.e x_draws_here)), some (D.lst .frz (List.map cStr.e x_m_3.1)), some (D.lst .frz (List.map cStr.e x_m_3.2)), some (D.lst .frz (List.map cStr.e x_codes_here)), some (cInt.e x_share), (x_b_4 7), (x_b_4 8)] _ _
  exact B_ret (Ev.pure (c := (fun z => ownE ((cQ (cL cStr) (cL cStr)).e z))) (x := (x_m_3.1, x_m_3.2)) (P_lst (ds := [(D.lst .frz (List.map cStr.e x_m_3.1)), (D.lst .frz (List.map cStr.e x_m_3.2))]) (itms_cons (itm_c (c := (cL cStr)) (x := x_m_3.1) (P_varF (c := cStr) (l := x_m_3.1) (fl := .frz) rfl (by rfl))) (itms_cons (itm_c (c := (cL cStr)) (x := x_m_3.2) (P_varF (c := cStr) (l := x_m_3.2) (fl := .frz) rfl (by rfl))) itms_nil)) (by exact Nat.le_of_ble_eq_true rfl))) (fun z => (item_ownE (cQ (cL cStr) (cL cStr)) z).1) (fun _ => (rt_f (item_ownE (cQ (cL cStr) (cL cStr)) _).2))
theorem ok__law_avoids {n : Nat} (fl_x_off : Fl) (hf_fl_x_off : fl_x_off.lock = fl_x_off) (x_cube_here : (List Nat)) (x_off : (List (List Nat))) : ∀ r, m__law_avoids x_cube_here x_off = some r → C (n + 2) i__law_avoids [(cStr.e x_cube_here), (D.lst fl_x_off (List.map cStr.e x_off))] = some (cBool.e r) := by
  refine call_Bx (df := d__law_avoids) (cc := cBool.e) rfl rfl (by decide) (all_cons (ok_c (c := cStr)) (all_cons (ok_fl (c := cStr) hf_fl_x_off) all_nil)) rfl ?_
  show Bx _ (C (n + 1)) b__law_avoids [some (cStr.e x_cube_here), some (D.lst fl_x_off (List.map cStr.e x_off)), none] _ _
  unfold b__law_avoids m__law_avoids
  refine B_forR (E := fun (x_b : Nat → Option D) (x_s : Unit) => [some (cStr.e x_cube_here), some (D.lst fl_x_off (List.map cStr.e x_off)), (x_b 2)]) (t := cStr.e) (b0 := (fun i => List.getD [some (cStr.e x_cube_here), some (D.lst fl_x_off (List.map cStr.e x_off)), none] i none)) (s0 := ()) (E1 := fun (x_b : Nat → Option D) (x_s : Unit) (x_y : (List Nat)) => [some (cStr.e x_cube_here), some (D.lst fl_x_off (List.map cStr.e x_off)), some (cStr.e x_y)]) (O' := Rt cBool.e) Rt.is (fun _ _ h => h) (It_seqS (It_lst (c := cStr) (l := x_off) (f := fl_x_off) (fl_ne hf_fl_x_off) (P_varF (c := cStr) (l := x_off) (fl := fl_x_off) hf_fl_x_off (getE_selF (c := cStr) hf_fl_x_off (by rfl))))) (fun _ _ => rfl) (fun x_b x_s x_y => (bind_name (Cd.fz cStr x_y) rfl (lt_ rfl))) (fun x_b x_s x_y => ?_) fun x_b_1 x_s_1 => ?_
  · show Bx _ _ _ [some (cStr.e x_cube_here), some (D.lst fl_x_off (List.map cStr.e x_off)), some (cStr.e x_y)] _ _
    refine B_ite1 (M_call (cc := cBool.e) (args_cons (arg_c (c := cStr) (x := x_cube_here) (P_varC (c := cStr) (x := x_cube_here) (by rfl))) (args_cons (arg_c (c := cStr) (x := x_y) (P_varC (c := cStr) (x := x_y) (by rfl))) args_nil)) (ok__law_in (n := n) x_cube_here x_y)) ?_ ?_
    · exact B_ret (Ev.pure (c := cBool.e) (x := false) P_bl) (Cd.nl cBool) (fun _ => ⟨(rt_c cBool _), rfl⟩)
    exact B_nil ⟨(fun i => List.getD [some (cStr.e x_cube_here), some (D.lst fl_x_off (List.map cStr.e x_off)), some (cStr.e x_y)] i none), .inl rfl⟩
  show Bx _ _ _ [some (cStr.e x_cube_here), some (D.lst fl_x_off (List.map cStr.e x_off)), (x_b_1 2)] _ _
  exact B_ret (Ev.pure (c := cBool.e) (x := true) P_bl) (Cd.nl cBool) (fun _ => (rt_c cBool _))
theorem ok__law_with {n : Nat}  (x_cube_here : (List Nat)) (x_k : Int) (x_sign : (List Nat)) : ∀ r, m__law_with x_cube_here x_k x_sign = some r → C (n + 1) i__law_with [(cStr.e x_cube_here), (cInt.e x_k), (cStr.e x_sign)] = some (cStr.e r) := by
  refine call_Bx (df := d__law_with) (cc := cStr.e) rfl rfl (by decide) (all_cons (ok_c (c := cStr)) (all_cons (ok_c (c := cInt)) (all_cons (ok_c (c := cStr)) all_nil))) rfl ?_
  show Bx _ (C (n + 0)) b__law_with [some (cStr.e x_cube_here), some (cInt.e x_k), some (cStr.e x_sign)] _ _
  unfold b__law_with m__law_with
  refine Bx.hoist (e := (.bin .add (.slc (.var 0) .nop (.var 1)) (.var 2))) (c1 := cStr.e) (M_catS (P_slcS (P_varC (c := cStr) (x := x_cube_here) (by rfl)) bnd_no (bnd_at rfl (P_varC (c := cInt) (x := x_k) (by rfl)))) (P_varC (c := cStr) (x := x_sign) (by rfl))) fun x_t h => ?_
  exact B_ret (M_catS h (P_slcS (P_varC (c := cStr) (x := x_cube_here) (by rfl)) (bnd_at rfl (P_add (P_varC (c := cInt) (x := x_k) (by rfl)) P_int)) bnd_no)) (Cd.nl cStr) (fun _ => (rt_c cStr _))
theorem ok__law_expand {n : Nat} (fl_x_off : Fl) (hf_fl_x_off : fl_x_off.lock = fl_x_off) (x_cube_here : (List Nat)) (x_off : (List (List Nat))) : ∀ r, m__law_expand x_cube_here x_off = some r → C (n + 3) i__law_expand [(cStr.e x_cube_here), (D.lst fl_x_off (List.map cStr.e x_off))] = some (cStr.e r) := by
  refine call_Bx (df := d__law_expand) (cc := cStr.e) rfl rfl (by decide) (all_cons (ok_c (c := cStr)) (all_cons (ok_fl (c := cStr) hf_fl_x_off) all_nil)) rfl ?_
  show Bx _ (C (n + 2)) b__law_expand [some (cStr.e x_cube_here), some (D.lst fl_x_off (List.map cStr.e x_off)), none] _ _
  unfold b__law_expand m__law_expand
  refine B_for (E := fun (x_b : Nat → Option D) (x_s : ((List Nat))) => [some (cStr.e x_s), some (D.lst fl_x_off (List.map cStr.e x_off)), (x_b 2)]) (t := cInt.e) (b0 := (fun i => List.getD [some (cStr.e x_cube_here), some (D.lst fl_x_off (List.map cStr.e x_off)), none] i none)) (s0 := x_cube_here) (E1 := fun (x_b : Nat → Option D) (x_s : ((List Nat))) (x_y : Int) => [some (cStr.e x_s), some (D.lst fl_x_off (List.map cStr.e x_off)), some (cInt.e x_y)]) (It_r1S (It_rng1 (P_lenS (P_varC (c := cStr) (x := x_cube_here) (by rfl))))) (fun _ _ => rfl) (fun x_b x_s x_y => (bind_name (Cd.fz cInt x_y) rfl (lt_ rfl))) (fun x_b x_s x_y => ?_) fun x_b_2 x_s_1 => ?_
  · show Bx _ _ _ [some (cStr.e x_s), some (D.lst fl_x_off (List.map cStr.e x_off)), some (cInt.e x_y)] _ _
    refine Bx.hoist (e := (.call i__law_with (.cons (.var 0) (.cons (.var 2) (.cons (.str [45]) .nil))))) (c1 := cStr.e) (M_call (cc := cStr.e) (args_cons (arg_c (c := cStr) (x := x_s) (P_varC (c := cStr) (x := x_s) (by rfl))) (args_cons (arg_c (c := cInt) (x := x_y) (P_varC (c := cInt) (x := x_y) (by rfl))) (args_cons (arg_c (c := cStr) (x := ([45] : List Nat)) P_str) args_nil))) (ok__law_with (n := n + 1) x_s x_y ([45] : List Nat))) fun x_r h => ?_
    refine B_iteJ (E := fun (x_b_1 : Nat → Option D) x_m => [some (cStr.e x_m), some (D.lst fl_x_off (List.map cStr.e x_off)), some (cInt.e x_y)]) (M_call (cc := cBool.e) (args_cons (arg_c (c := cStr) (x := x_r) h) (args_cons (arg_fl (c := cStr) (l := x_off) (fl := fl_x_off) hf_fl_x_off (P_varF (c := cStr) (l := x_off) (fl := fl_x_off) hf_fl_x_off (by rfl))) args_nil)) (ok__law_avoids (n := n) fl_x_off hf_fl_x_off x_r x_off)) ?_ ?_ fun x_b_1 x_m => ?_
    · refine B_asg (c0 := cStr.e) cStr.e (M_call (cc := cStr.e) (args_cons (arg_c (c := cStr) (x := x_s) (P_varC (c := cStr) (x := x_s) (by rfl))) (args_cons (arg_c (c := cInt) (x := x_y) (P_varC (c := cInt) (x := x_y) (by rfl))) (args_cons (arg_c (c := cStr) (x := ([45] : List Nat)) P_str) args_nil))) (ok__law_with (n := n + 1) x_s x_y ([45] : List Nat))) (item_c cStr) (lt_ rfl) fun x_cube_here_1 => ?_
      show Bx _ _ _ [some (cStr.e x_cube_here_1), some (D.lst fl_x_off (List.map cStr.e x_off)), some (cInt.e x_y)] _ _
      exact B_nil ⟨(fun i => List.getD [some (cStr.e x_cube_here_1), some (D.lst fl_x_off (List.map cStr.e x_off)), some (cInt.e x_y)] i none), rfl⟩
    · exact B_nil ⟨(fun i => List.getD [some (cStr.e x_s), some (D.lst fl_x_off (List.map cStr.e x_off)), some (cInt.e x_y)] i none), rfl⟩
    show Bx _ _ _ [some (cStr.e x_m), some (D.lst fl_x_off (List.map cStr.e x_off)), some (cInt.e x_y)] _ _
    exact B_nil ⟨(fun i => List.getD [some (cStr.e x_m), some (D.lst fl_x_off (List.map cStr.e x_off)), some (cInt.e x_y)] i none), .inl rfl⟩
  show Bx _ _ _ [some (cStr.e x_s_1), some (D.lst fl_x_off (List.map cStr.e x_off)), (x_b_2 2)] _ _
  exact B_ret (Ev.pure (c := cStr.e) (x := x_s_1) (P_varC (c := cStr) (x := x_s_1) (by rfl))) (Cd.nl cStr) (fun _ => (rt_c cStr _))
theorem ok__law_compact {n : Nat} (fl_x_on : Fl) (hf_fl_x_on : fl_x_on.lock = fl_x_on) (fl_x_off : Fl) (hf_fl_x_off : fl_x_off.lock = fl_x_off) (x_on : (List (List Nat))) (x_off : (List (List Nat))) : ∀ r, m__law_compact x_on x_off = some r → C (n + 4) i__law_compact [(D.lst fl_x_on (List.map cStr.e x_on)), (D.lst fl_x_off (List.map cStr.e x_off))] = some ((fun z => D.lst .frz (List.map cStr.e z)) r) := by
  refine call_Bx (df := d__law_compact) (cc := (fun z => D.lst .frz (List.map cStr.e z))) rfl rfl (by decide) (all_cons (ok_fl (c := cStr) hf_fl_x_on) (all_cons (ok_fl (c := cStr) hf_fl_x_off) all_nil)) rfl ?_
  show Bx _ (C (n + 3)) b__law_compact [some (D.lst fl_x_on (List.map cStr.e x_on)), some (D.lst fl_x_off (List.map cStr.e x_off)), none, none, none, none, none, none, none] _ _
  unfold b__law_compact m__law_compact
  refine B_asgO (c0 := (fun z => D.lst .own (List.map cStr.e z))) (Ev.pure (c := (fun z => D.lst .own (List.map cStr.e z))) (x := ([] : List (List Nat))) (P_lstM (c := cStr) (l := []) (itmM_nil (c := cStr)) (by exact Nat.le_of_ble_eq_true rfl))) (fun _ => nl_own) (lt_ rfl) fun x_cover => ?_
  show Bx _ _ _ [some (D.lst fl_x_on (List.map cStr.e x_on)), some (D.lst fl_x_off (List.map cStr.e x_off)), some (D.lst .own (List.map cStr.e x_cover)), none, none, none, none, none, none] _ _
  refine B_for (E := fun (x_b : Nat → Option D) (x_s : ((List (List Nat)))) => [some (D.lst fl_x_on (List.map cStr.e x_on)), some (D.lst fl_x_off (List.map cStr.e x_off)), some (D.lst .own (List.map cStr.e x_s)), (x_b 3), none, none, none, none, none]) (t := cStr.e) (b0 := (fun i => List.getD [some (D.lst fl_x_on (List.map cStr.e x_on)), some (D.lst fl_x_off (List.map cStr.e x_off)), some (D.lst .own (List.map cStr.e x_cover)), none, none, none, none, none, none] i none)) (s0 := x_cover) (E1 := fun (x_b : Nat → Option D) (x_s : ((List (List Nat)))) (x_y : (List Nat)) => [some (D.lst fl_x_on (List.map cStr.e x_on)), some (D.lst fl_x_off (List.map cStr.e x_off)), some (D.lst .own (List.map cStr.e x_s)), some (cStr.e x_y), none, none, none, none, none]) (It_seqS (It_own (c := cStr) (l := (List.mergeSort x_on leS)) (M_sort (c := cStr) (l := x_on) (f := fl_x_on) srStr (P_varF (c := cStr) (l := x_on) (fl := fl_x_on) hf_fl_x_on (getE_selF (c := cStr) hf_fl_x_on (by rfl)))))) (fun _ _ => rfl) (fun x_b x_s x_y => (bind_name (Cd.fz cStr x_y) rfl (lt_ rfl))) (fun x_b x_s x_y => ?_) fun x_b_2 x_s_1 => ?_
  · show Bx _ _ _ [some (D.lst fl_x_on (List.map cStr.e x_on)), some (D.lst fl_x_off (List.map cStr.e x_off)), some (D.lst .own (List.map cStr.e x_s)), some (cStr.e x_y), none, none, none, none, none] _ _
    refine Bx.hoist (e := (.call i__law_covered (.cons (.var 2) (.cons (.var 3) .nil)))) (c1 := cBool.e) (M_call (cc := cBool.e) (args_cons (arg_fl (c := cStr) (l := x_s) (fl := .lck) rfl (P_varO (c := cStr) (l := x_s) (by rfl))) (args_cons (arg_c (c := cStr) (x := x_y) (P_varC (c := cStr) (x := x_y) (by rfl))) args_nil)) (ok__law_covered (n := n + 1) .lck rfl x_s x_y)) fun x_r h => ?_
    refine B_iteJ (E := fun (x_b_1 : Nat → Option D) x_m => [some (D.lst fl_x_on (List.map cStr.e x_on)), some (D.lst fl_x_off (List.map cStr.e x_off)), some (D.lst .own (List.map cStr.e x_m)), some (cStr.e x_y), none, none, none, none, none]) (Ev.pure (c := cBool.e) (x := (!x_r)) (P_not h)) ?_ ?_ fun x_b_1 x_m => ?_
    · refine B_app (c := cStr) (l := x_s) (c0 := cStr.e) (by rfl) (M_call (cc := cStr.e) (args_cons (arg_c (c := cStr) (x := x_y) (P_varC (c := cStr) (x := x_y) (by rfl))) (args_cons (arg_fl (c := cStr) (l := x_off) (fl := fl_x_off) hf_fl_x_off (P_varF (c := cStr) (l := x_off) (fl := fl_x_off) hf_fl_x_off (by rfl))) args_nil)) (ok__law_expand (n := n) fl_x_off hf_fl_x_off x_y x_off)) (item_c cStr) fun x_cover_1 => ?_
      show Bx _ _ _ [some (D.lst fl_x_on (List.map cStr.e x_on)), some (D.lst fl_x_off (List.map cStr.e x_off)), some (D.lst .own (List.map cStr.e x_cover_1)), some (cStr.e x_y), none, none, none, none, none] _ _
      exact B_nil ⟨(fun i => List.getD [some (D.lst fl_x_on (List.map cStr.e x_on)), some (D.lst fl_x_off (List.map cStr.e x_off)), some (D.lst .own (List.map cStr.e x_cover_1)), some (cStr.e x_y), none, none, none, none, none] i none), rfl⟩
    · exact B_nil ⟨(fun i => List.getD [some (D.lst fl_x_on (List.map cStr.e x_on)), some (D.lst fl_x_off (List.map cStr.e x_off)), some (D.lst .own (List.map cStr.e x_s)), some (cStr.e x_y), none, none, none, none, none] i none), rfl⟩
    show Bx _ _ _ [some (D.lst fl_x_on (List.map cStr.e x_on)), some (D.lst fl_x_off (List.map cStr.e x_off)), some (D.lst .own (List.map cStr.e x_m)), some (cStr.e x_y), none, none, none, none, none] _ _
    exact B_nil ⟨(fun i => List.getD [some (D.lst fl_x_on (List.map cStr.e x_on)), some (D.lst fl_x_off (List.map cStr.e x_off)), some (D.lst .own (List.map cStr.e x_m)), some (cStr.e x_y), none, none, none, none, none] i none), .inl rfl⟩
  show Bx _ _ _ [some (D.lst fl_x_on (List.map cStr.e x_on)), some (D.lst fl_x_off (List.map cStr.e x_off)), some (D.lst .own (List.map cStr.e x_s_1)), (x_b_2 3), none, none, none, none, none] _ _
  refine B_cast (env' := [some (D.lst fl_x_on (List.map cStr.e x_on)), some (D.lst fl_x_off (List.map cStr.e x_off)), some (D.lst .own (List.map (cO cStr).e (List.map some x_s_1))), (x_b_2 3), none, none, none, none, none]) (by simp only [map_some]) ?_
  show Bx _ _ _ [some (D.lst fl_x_on (List.map cStr.e x_on)), some (D.lst fl_x_off (List.map cStr.e x_off)), some (D.lst .own (List.map (cO cStr).e (List.map some x_s_1))), (x_b_2 3), none, none, none, none, none] _ _
  refine B_for (E := fun (x_b_3 : Nat → Option D) (x_s_2 : ((List (Option (List Nat))))) => [some (D.lst fl_x_on (List.map cStr.e x_on)), some (D.lst fl_x_off (List.map cStr.e x_off)), some (D.lst .own (List.map (cO cStr).e x_s_2)), (x_b_2 3), (x_b_3 4), (x_b_3 5), (x_b_3 6), none, none]) (t := cInt.e) (b0 := (fun i => List.getD [some (D.lst fl_x_on (List.map cStr.e x_on)), some (D.lst fl_x_off (List.map cStr.e x_off)), some (D.lst .own (List.map (cO cStr).e (List.map some x_s_1))), (x_b_2 3), none, none, none, none, none] i none)) (s0 := (List.map some x_s_1)) (E1 := fun (x_b_3 : Nat → Option D) (x_s_2 : ((List (Option (List Nat))))) (x_y_1 : Int) => [some (D.lst fl_x_on (List.map cStr.e x_on)), some (D.lst fl_x_off (List.map cStr.e x_off)), some (D.lst .own (List.map (cO cStr).e x_s_2)), (x_b_2 3), some (cInt.e x_y_1), (x_b_3 5), (x_b_3 6), none, none]) (It_r1S (It_rng1 (P_lenL (c := (cO cStr)) (l := (List.map some x_s_1)) (f := .lck) (P_varO (c := (cO cStr)) (l := (List.map some x_s_1)) (by rfl))))) (fun _ _ => rfl) (fun x_b_3 x_s_2 x_y_1 => (bind_name (Cd.fz cInt x_y_1) rfl (lt_ rfl))) (fun x_b_3 x_s_2 x_y_1 => ?_) fun x_b_6 x_s_3 => ?_
  · show Bx _ _ _ [some (D.lst fl_x_on (List.map cStr.e x_on)), some (D.lst fl_x_off (List.map cStr.e x_off)), some (D.lst .own (List.map (cO cStr).e x_s_2)), (x_b_2 3), some (cInt.e x_y_1), (x_b_3 5), (x_b_3 6), none, none] _ _
    refine B_asg (c0 := cInt.e) cInt.e (Ev.pure (c := cInt.e) (x := (((List.length x_s_2 : Int) - (1 : Int)) - x_y_1)) (P_sub (P_sub (P_lenL (c := (cO cStr)) (l := x_s_2) (f := .lck) (P_varO (c := (cO cStr)) (l := x_s_2) (by rfl))) P_int) (P_varC (c := cInt) (x := x_y_1) (by rfl)))) (item_c cInt) (lt_ rfl) fun x_at => ?_
    show Bx _ _ _ [some (D.lst fl_x_on (List.map cStr.e x_on)), some (D.lst fl_x_off (List.map cStr.e x_off)), some (D.lst .own (List.map (cO cStr).e x_s_2)), (x_b_2 3), some (cInt.e x_y_1), some (cInt.e x_at), (x_b_3 6), none, none] _ _
    refine B_asg (c0 := (fun z => D.lst .own (List.map cStr.e z))) (fun z => D.lst .frz (List.map cStr.e z)) (M_lcG (ca := cInt.e) (cb := cStr.e) (It_rng1 (P_lenL (c := (cO cStr)) (l := x_s_2) (f := .lck) (P_varO (c := (cO cStr)) (l := x_s_2) (by rfl)))) fun x_y_2 => lcF_of (env1 := [some (D.lst fl_x_on (List.map cStr.e x_on)), some (D.lst fl_x_off (List.map cStr.e x_off)), some (D.lst .own (List.map (cO cStr).e x_s_2)), (x_b_2 3), some (cInt.e x_y_1), some (cInt.e x_at), (x_b_3 6), none, some (cInt.e x_y_2)]) (d := cStr.e) (bind_name (Cd.fz cInt x_y_2) rfl (lt_ rfl)) (cond_at rfl (M_and (x := (!(decide (x_y_2 = x_at)))) (P_ne (c := cInt) (x := x_y_2) (y := x_at) eqInt (P_varC (c := cInt) (x := x_y_2) (by rfl)) (P_varC (c := cInt) (x := x_at) (by rfl))) (Ev.hoist (e0 := (.idx (.var 2) (.var 8))) (c1 := (cO cStr).e) (M_idxL (c := (cO cStr)) (l := x_s_2) (f := .lck) (P_varO (c := (cO cStr)) (l := x_s_2) (by rfl)) (P_varC (c := cInt) (x := x_y_2) (by rfl))) fun x_t h_2 => (Ev.pure (c := cBool.e) (x := (Option.isSome x_t)) (P_isN (c := cStr) (n := true) (o := x_t) (fun _ => rfl) h_2))))) (Ev.hoist (e0 := (.idx (.var 2) (.var 8))) (c1 := (cO cStr).e) (M_idxL (c := (cO cStr)) (l := x_s_2) (f := .lck) (P_varO (c := (cO cStr)) (l := x_s_2) (by rfl)) (P_varC (c := cInt) (x := x_y_2) (by rfl))) fun x_t_2 h_4 => (M_un (c := cStr) h_4)) (item_c cStr)) (item_own cStr) (lt_ rfl) fun x_rest => ?_
    show Bx _ _ _ [some (D.lst fl_x_on (List.map cStr.e x_on)), some (D.lst fl_x_off (List.map cStr.e x_off)), some (D.lst .own (List.map (cO cStr).e x_s_2)), (x_b_2 3), some (cInt.e x_y_1), some (cInt.e x_at), some (D.lst .frz (List.map cStr.e x_rest)), none, none] _ _
    refine Bx.hoist (e := (.lc (.var 3) (.name 3) (.seq (.var 0)) (.not (.call i__law_covered (.cons (.var 6) (.cons (.var 3) .nil)))))) (c1 := (fun z => D.lst .own (List.map cStr.e z))) (M_lcG (ca := cStr.e) (cb := cStr.e) (It_lst (c := cStr) (l := x_on) (f := fl_x_on) (fl_ne hf_fl_x_on) (P_varF (c := cStr) (l := x_on) (fl := fl_x_on) hf_fl_x_on (by rfl))) fun x_y_3 => lcF_of (env1 := [some (D.lst fl_x_on (List.map cStr.e x_on)), some (D.lst fl_x_off (List.map cStr.e x_off)), some (D.lst .own (List.map (cO cStr).e x_s_2)), some (cStr.e x_y_3), some (cInt.e x_y_1), some (cInt.e x_at), some (D.lst .frz (List.map cStr.e x_rest)), none, none]) (d := cStr.e) (bind_name (Cd.fz cStr x_y_3) rfl (lt_ rfl)) (cond_at rfl (Ev.hoist (e0 := (.call i__law_covered (.cons (.var 6) (.cons (.var 3) .nil)))) (c1 := cBool.e) (M_call (cc := cBool.e) (args_cons (arg_fl (c := cStr) (l := x_rest) (fl := .frz) rfl (P_varF (c := cStr) (l := x_rest) (fl := .frz) rfl (by rfl))) (args_cons (arg_c (c := cStr) (x := x_y_3) (P_varC (c := cStr) (x := x_y_3) (by rfl))) args_nil)) (ok__law_covered (n := n + 1) .frz rfl x_rest x_y_3)) fun x_r_2 h_7 => (Ev.pure (c := cBool.e) (x := (!x_r_2)) (P_not h_7)))) (Ev.pure (c := cStr.e) (x := x_y_3) (P_varC (c := cStr) (x := x_y_3) (by rfl))) (item_c cStr)) fun x_t_5 h_8 => ?_
    refine B_iteJ (E := fun (x_b_5 : Nat → Option D) x_m_1 => [some (D.lst fl_x_on (List.map cStr.e x_on)), some (D.lst fl_x_off (List.map cStr.e x_off)), some (D.lst .own (List.map (cO cStr).e x_m_1)), (x_b_2 3), some (cInt.e x_y_1), some (cInt.e x_at), some (D.lst .frz (List.map cStr.e x_rest)), none, none]) (Ev.pure (c := cBool.e) (x := (decide ((List.length x_t_5 : Int) = (0 : Int)))) (P_eq (c := cInt) (x := (List.length x_t_5 : Int)) (y := (0 : Int)) eqInt (P_lenL (c := cStr) (l := x_t_5) (f := .own) h_8) P_int)) ?_ ?_ fun x_b_5 x_m_1 => ?_
    · refine B_setI (c := (cO cStr)) (l := x_s_2) (c0 := (cO cStr).e) (by rfl) (Ev.pure (c := (cO cStr).e) (x := none) (P_none cStr P_non)) (item_c (cO cStr)) (Ev.pure (c := cInt.e) (x := x_at) (P_varC (c := cInt) (x := x_at) (by rfl))) fun x_cover_2 => ?_
      show Bx _ _ _ [some (D.lst fl_x_on (List.map cStr.e x_on)), some (D.lst fl_x_off (List.map cStr.e x_off)), some (D.lst .own (List.map (cO cStr).e x_cover_2)), (x_b_2 3), some (cInt.e x_y_1), some (cInt.e x_at), some (D.lst .frz (List.map cStr.e x_rest)), none, none] _ _
      exact B_nil ⟨(fun i => List.getD [some (D.lst fl_x_on (List.map cStr.e x_on)), some (D.lst fl_x_off (List.map cStr.e x_off)), some (D.lst .own (List.map (cO cStr).e x_cover_2)), (x_b_2 3), some (cInt.e x_y_1), some (cInt.e x_at), some (D.lst .frz (List.map cStr.e x_rest)), none, none] i none), rfl⟩
    · exact B_nil ⟨(fun i => List.getD [some (D.lst fl_x_on (List.map cStr.e x_on)), some (D.lst fl_x_off (List.map cStr.e x_off)), some (D.lst .own (List.map (cO cStr).e x_s_2)), (x_b_2 3), some (cInt.e x_y_1), some (cInt.e x_at), some (D.lst .frz (List.map cStr.e x_rest)), none, none] i none), rfl⟩
    show Bx _ _ _ [some (D.lst fl_x_on (List.map cStr.e x_on)), some (D.lst fl_x_off (List.map cStr.e x_off)), some (D.lst .own (List.map (cO cStr).e x_m_1)), (x_b_2 3), some (cInt.e x_y_1), some (cInt.e x_at), some (D.lst .frz (List.map cStr.e x_rest)), none, none] _ _
    exact B_nil ⟨(fun i => List.getD [some (D.lst fl_x_on (List.map cStr.e x_on)), some (D.lst fl_x_off (List.map cStr.e x_off)), some (D.lst .own (List.map (cO cStr).e x_m_1)), (x_b_2 3), some (cInt.e x_y_1), some (cInt.e x_at), some (D.lst .frz (List.map cStr.e x_rest)), none, none] i none), .inl rfl⟩
  show Bx _ _ _ [some (D.lst fl_x_on (List.map cStr.e x_on)), some (D.lst fl_x_off (List.map cStr.e x_off)), some (D.lst .own (List.map (cO cStr).e x_s_3)), (x_b_2 3), (x_b_6 4), (x_b_6 5), (x_b_6 6), none, none] _ _
  refine B_fz (c := (cO cStr)) (l := x_s_3) (by rfl) ?_
  show Bx _ _ _ [some (D.lst fl_x_on (List.map cStr.e x_on)), some (D.lst fl_x_off (List.map cStr.e x_off)), some (D.lst .frz (List.map (cO cStr).e x_s_3)), (x_b_2 3), (x_b_6 4), (x_b_6 5), (x_b_6 6), none, none] _ _
  exact B_ret (M_lcG (ca := (cO cStr).e) (cb := cStr.e) (It_lst (c := (cO cStr)) (l := x_s_3) (f := .frz) (by decide) (P_varF (c := (cO cStr)) (l := x_s_3) (fl := .frz) rfl (by rfl))) fun x_y_4 => lcF_of (env1 := [some (D.lst fl_x_on (List.map cStr.e x_on)), some (D.lst fl_x_off (List.map cStr.e x_off)), some (D.lst .frz (List.map (cO cStr).e x_s_3)), (x_b_2 3), (x_b_6 4), (x_b_6 5), (x_b_6 6), some ((cO cStr).e x_y_4), none]) (d := cStr.e) (bind_name (Cd.fz (cO cStr) x_y_4) rfl (lt_ rfl)) (cond_at rfl (Ev.pure (c := cBool.e) (x := (Option.isSome x_y_4)) (P_isN (c := cStr) (n := true) (o := x_y_4) (fun _ => rfl) (P_varC (c := (cO cStr)) (x := x_y_4) (by rfl))))) (M_un (c := cStr) (P_varC (c := (cO cStr)) (x := x_y_4) (by rfl))) (item_c cStr)) (fun _ => nl_own) (fun _ => (rt_f frz_own))
theorem ok_law {n : Nat}  (x_script : (List Int)) : ∀ r, m_law x_script = some r → C (n + 5) i_law [(cScr.e x_script)] = some (cBool.e r) := by
  refine call_Bx (df := d_law) (cc := cBool.e) rfl rfl (by decide) (all_cons (ok_c (c := cScr)) all_nil) rfl ?_
  show Bx _ (C (n + 4)) b_law [some (cScr.e x_script), none, none, none, none, none, none, none, none, none] _ _
  unfold b_law m_law
  refine Bx.hoist (e := (.call i__law_cell (.cons (.var 0) (.cons (.int 0) .nil)))) (c1 := cInt.e) (M_call (cc := cInt.e) (args_cons (arg_c (c := cScr) (x := x_script) (P_varC (c := cScr) (x := x_script) (by rfl))) (args_cons (arg_c (c := cInt) (x := (0 : Int)) P_int) args_nil)) (ok__law_cell (n := n + 3) x_script (0 : Int))) fun x_r h => ?_
  refine B_asg (c0 := cInt.e) cInt.e (Ev.pure (c := cInt.e) (x := (x_r % (7 : Int))) (P_mod (P_intI h) P_int (by decide))) (item_c cInt) (lt_ rfl) fun x_width => ?_
  show Bx _ _ _ [some (cScr.e x_script), some (cInt.e x_width), none, none, none, none, none, none, none, none] _ _
  refine Bx.hoist (e := (.call i__law_cell (.cons (.var 0) (.cons (.int 1) .nil)))) (c1 := cInt.e) (M_call (cc := cInt.e) (args_cons (arg_c (c := cScr) (x := x_script) (P_varC (c := cScr) (x := x_script) (by rfl))) (args_cons (arg_c (c := cInt) (x := (1 : Int)) P_int) args_nil)) (ok__law_cell (n := n + 3) x_script (1 : Int))) fun x_r_1 h_1 => ?_
  refine B_asgL (c0 := (cQ (cL cStr) (cL cStr)).e) (f := .frz) (ds := fun x_p => [(D.lst .frz (List.map cStr.e x_p.1)), (D.lst .frz (List.map cStr.e x_p.2))]) (env' := fun x_p => [some (cScr.e x_script), some (cInt.e x_width), none, none, none, none, some (D.lst .frz (List.map cStr.e x_p.1)), some (D.lst .frz (List.map cStr.e x_p.2)), none, none]) (M_call (cc := (cQ (cL cStr) (cL cStr)).e) (args_cons (arg_c (c := cInt) (x := x_r_1) h_1) (args_cons (arg_c (c := cInt) (x := x_width) (P_varC (c := cInt) (x := x_width) (by rfl))) args_nil)) (ok__law_function (n := n + 1) x_r_1 x_width)) (fun _ => rfl) (fun x_p => (fz_cons (Cd.fz (cL cStr) x_p.1) (fz_cons (Cd.fz (cL cStr) x_p.2) fz_nil))) (fun x_p => (sEs_cons (Cd.fz (cL cStr) x_p.1) (lt_ rfl) (sEs_cons (Cd.fz (cL cStr) x_p.2) (lt_ rfl) sEs_nil))) fun x_p => ?_
  show Bx _ _ _ [some (cScr.e x_script), some (cInt.e x_width), none, none, none, none, some (D.lst .frz (List.map cStr.e x_p.1)), some (D.lst .frz (List.map cStr.e x_p.2)), none, none] _ _
  refine Bx.hoist (e := (.call i__law_cell (.cons (.var 0) (.cons (.int 2) .nil)))) (c1 := cInt.e) (M_call (cc := cInt.e) (args_cons (arg_c (c := cScr) (x := x_script) (P_varC (c := cScr) (x := x_script) (by rfl))) (args_cons (arg_c (c := cInt) (x := (2 : Int)) P_int) args_nil)) (ok__law_cell (n := n + 3) x_script (2 : Int))) fun x_r_3 h_3 => ?_
  refine B_asg (c0 := (fun z => D.lst .frz (List.map cInt.e z))) (fun z => D.lst .frz (List.map cInt.e z)) (M_call (cc := (fun z => D.lst .frz (List.map cInt.e z))) (args_cons (arg_c (c := cInt) (x := x_r_3) h_3) (args_cons (arg_c (c := cInt) (x := (8 : Int)) P_int) args_nil)) (ok__law_draws (n := n + 3) x_r_3 (8 : Int))) (item_c (cL cInt)) (lt_ rfl) fun x_draws_here => ?_
  show Bx _ _ _ [some (cScr.e x_script), some (cInt.e x_width), some (D.lst .frz (List.map cInt.e x_draws_here)), none, none, none, some (D.lst .frz (List.map cStr.e x_p.1)), some (D.lst .frz (List.map cStr.e x_p.2)), none, none] _ _
  refine B_asg (c0 := (fun z => D.lst .own (List.map cStr.e z))) (fun z => D.lst .frz (List.map cStr.e z)) (M_lcG (ca := cInt.e) (cb := cStr.e) (Itr.hoist (e0 := (.idx (.var 2) (.int 4))) (c1 := cInt.e) (M_idxL (c := cInt) (l := x_draws_here) (f := .frz) (P_varF (c := cInt) (l := x_draws_here) (fl := .frz) rfl (by rfl)) P_int) fun x_t h_5 => (It_rng1 (P_mod h_5 P_int (by decide)))) fun x_y => lcF_of (env1 := [some (cScr.e x_script), some (cInt.e x_width), some (D.lst .frz (List.map cInt.e x_draws_here)), none, none, none, some (D.lst .frz (List.map cStr.e x_p.1)), some (D.lst .frz (List.map cStr.e x_p.2)), some (cInt.e x_y), none]) (d := cStr.e) (bind_name (Cd.fz cInt x_y) rfl (lt_ rfl)) cond_no (Ev.hoist (e0 := (.idx (.var 2) (.var 8))) (c1 := cInt.e) (M_idxL (c := cInt) (l := x_draws_here) (f := .frz) (P_varF (c := cInt) (l := x_draws_here) (fl := .frz) rfl (by rfl)) (P_varC (c := cInt) (x := x_y) (by rfl))) fun x_t_1 h_6 => (Ev.hoist (e0 := (.idx (.var 2) (.bin .add (.int 4) (.var 8)))) (c1 := cInt.e) (M_idxL (c := cInt) (l := x_draws_here) (f := .frz) (P_varF (c := cInt) (l := x_draws_here) (fl := .frz) rfl (by rfl)) (P_add P_int (P_varC (c := cInt) (x := x_y) (by rfl)))) fun x_t_2 h_7 => (M_call (cc := cStr.e) (args_cons (arg_c (c := cInt) (x := (x_t_1 + ((4096 : Int) * x_t_2))) (P_add h_6 (P_mulL P_int h_7 rfl))) (args_cons (arg_c (c := cInt) (x := x_width) (P_varC (c := cInt) (x := x_width) (by rfl))) args_nil)) (ok__law_cube (n := n + 3) (x_t_1 + ((4096 : Int) * x_t_2)) x_width)))) (item_c cStr)) (item_own cStr) (lt_ rfl) fun x_cover => ?_
  show Bx _ _ _ [some (cScr.e x_script), some (cInt.e x_width), some (D.lst .frz (List.map cInt.e x_draws_here)), some (D.lst .frz (List.map cStr.e x_cover)), none, none, some (D.lst .frz (List.map cStr.e x_p.1)), some (D.lst .frz (List.map cStr.e x_p.2)), none, none] _ _
  refine Bx.hoist (e := (.idx (.var 2) (.int 5))) (c1 := cInt.e) (M_idxL (c := cInt) (l := x_draws_here) (f := .frz) (P_varF (c := cInt) (l := x_draws_here) (fl := .frz) rfl (by rfl)) P_int) fun x_t_4 h_10 => ?_
  refine B_iteJ (E := fun (x_b_2 : Nat → Option D) x_m_2 => [some (cScr.e x_script), some (cInt.e x_width), some (D.lst .frz (List.map cInt.e x_draws_here)), some (D.lst .frz (List.map cStr.e x_m_2)), none, none, some (D.lst .frz (List.map cStr.e x_p.1)), some (D.lst .frz (List.map cStr.e x_p.2)), none, (x_b_2 9)]) (Ev.pure (c := cBool.e) (x := (decide ((x_t_4 % (2 : Int)) = (1 : Int)))) (P_eq (c := cInt) (x := (x_t_4 % (2 : Int))) (y := (1 : Int)) eqInt (P_mod h_10 P_int (by decide)) P_int)) ?_ ?_ fun x_b_2 x_m_2 => ?_
  · refine B_asg (c0 := (fun z => D.lst .frz (List.map cStr.e z))) (fun z => D.lst .frz (List.map cStr.e z)) (M_call (cc := (fun z => D.lst .frz (List.map cStr.e z))) (args_cons (arg_fl (c := cStr) (l := x_p.1) (fl := .frz) rfl (P_varF (c := cStr) (l := x_p.1) (fl := .frz) rfl (by rfl))) (args_cons (arg_fl (c := cStr) (l := x_p.2) (fl := .frz) rfl (P_varF (c := cStr) (l := x_p.2) (fl := .frz) rfl (by rfl))) args_nil)) (ok__law_compact (n := n) .frz rfl .frz rfl x_p.1 x_p.2)) (item_c (cL cStr)) (lt_ rfl) fun x_cover_1 => ?_
    show Bx _ _ _ [some (cScr.e x_script), some (cInt.e x_width), some (D.lst .frz (List.map cInt.e x_draws_here)), some (D.lst .frz (List.map cStr.e x_cover_1)), none, none, some (D.lst .frz (List.map cStr.e x_p.1)), some (D.lst .frz (List.map cStr.e x_p.2)), none, none] _ _
    refine Bx.hoist (e := (.idx (.var 2) (.int 6))) (c1 := cInt.e) (M_idxL (c := cInt) (l := x_draws_here) (f := .frz) (P_varF (c := cInt) (l := x_draws_here) (fl := .frz) rfl (by rfl)) P_int) fun x_t_5 h_12 => ?_
    refine B_iteJ (E := fun (x_b : Nat → Option D) x_m => [some (cScr.e x_script), some (cInt.e x_width), some (D.lst .frz (List.map cInt.e x_draws_here)), some (D.lst .frz (List.map cStr.e x_m)), none, none, some (D.lst .frz (List.map cStr.e x_p.1)), some (D.lst .frz (List.map cStr.e x_p.2)), none, (x_b 9)]) (Ev.pure (c := cBool.e) (x := ((decide ((x_t_5 % (3 : Int)) = (1 : Int))) && (decide ((0 : Int) < (List.length x_cover_1 : Int))))) (P_and (P_eq (c := cInt) (x := (x_t_5 % (3 : Int))) (y := (1 : Int)) eqInt (P_mod h_12 P_int (by decide)) P_int) (P_gt (P_lenL (c := cStr) (l := x_cover_1) (f := .frz) (P_varF (c := cStr) (l := x_cover_1) (fl := .frz) rfl (by rfl))) P_int))) ?_ ?_ fun x_b x_m => ?_
    · refine Bx.hoist (e := (.idx (.var 2) (.int 7))) (c1 := cInt.e) (M_idxL (c := cInt) (l := x_draws_here) (f := .frz) (P_varF (c := cInt) (l := x_draws_here) (fl := .frz) rfl (by rfl)) P_int) fun x_t_6 h_13 => ?_
      refine B_asg (c0 := cInt.e) cInt.e (M_mod h_13 (P_lenL (c := cStr) (l := x_cover_1) (f := .frz) (P_varF (c := cStr) (l := x_cover_1) (fl := .frz) rfl (by rfl)))) (item_c cInt) (lt_ rfl) fun x_at => ?_
      show Bx _ _ _ [some (cScr.e x_script), some (cInt.e x_width), some (D.lst .frz (List.map cInt.e x_draws_here)), some (D.lst .frz (List.map cStr.e x_cover_1)), none, none, some (D.lst .frz (List.map cStr.e x_p.1)), some (D.lst .frz (List.map cStr.e x_p.2)), none, some (cInt.e x_at)] _ _
      refine B_asg (c0 := (fun z => D.lst .own (List.map cStr.e z))) (fun z => D.lst .frz (List.map cStr.e z)) (M_catL (c := cStr) (l := (cut x_cover_1 none (some x_at))) (m := (cut x_cover_1 (some (x_at + (1 : Int))) none)) (f := .own) (g := .own) (P_slcL (c := cStr) (l := x_cover_1) (f := .frz) (P_varF (c := cStr) (l := x_cover_1) (fl := .frz) rfl (by rfl)) bnd_no (bnd_at rfl (P_varC (c := cInt) (x := x_at) (by rfl)))) (P_slcL (c := cStr) (l := x_cover_1) (f := .frz) (P_varF (c := cStr) (l := x_cover_1) (fl := .frz) rfl (by rfl)) (bnd_at rfl (P_add (P_varC (c := cInt) (x := x_at) (by rfl)) P_int)) bnd_no)) (item_own cStr) (lt_ rfl) fun x_cover_2 => ?_
      show Bx _ _ _ [some (cScr.e x_script), some (cInt.e x_width), some (D.lst .frz (List.map cInt.e x_draws_here)), some (D.lst .frz (List.map cStr.e x_cover_2)), none, none, some (D.lst .frz (List.map cStr.e x_p.1)), some (D.lst .frz (List.map cStr.e x_p.2)), none, some (cInt.e x_at)] _ _
      exact B_nil ⟨(fun i => List.getD [some (cScr.e x_script), some (cInt.e x_width), some (D.lst .frz (List.map cInt.e x_draws_here)), some (D.lst .frz (List.map cStr.e x_cover_2)), none, none, some (D.lst .frz (List.map cStr.e x_p.1)), some (D.lst .frz (List.map cStr.e x_p.2)), none, some (cInt.e x_at)] i none), rfl⟩
    · exact B_nil ⟨(fun i => List.getD [some (cScr.e x_script), some (cInt.e x_width), some (D.lst .frz (List.map cInt.e x_draws_here)), some (D.lst .frz (List.map cStr.e x_cover_1)), none, none, some (D.lst .frz (List.map cStr.e x_p.1)), some (D.lst .frz (List.map cStr.e x_p.2)), none, none] i none), rfl⟩
    show Bx _ _ _ [some (cScr.e x_script), some (cInt.e x_width), some (D.lst .frz (List.map cInt.e x_draws_here)), some (D.lst .frz (List.map cStr.e x_m)), none, none, some (D.lst .frz (List.map cStr.e x_p.1)), some (D.lst .frz (List.map cStr.e x_p.2)), none, (x_b 9)] _ _
    refine Bx.hoist (e := (.idx (.var 2) (.int 6))) (c1 := cInt.e) (M_idxL (c := cInt) (l := x_draws_here) (f := .frz) (P_varF (c := cInt) (l := x_draws_here) (fl := .frz) rfl (by rfl)) P_int) fun x_t_9 h_16 => ?_
    refine B_iteJ (E := fun (x_b_1 : Nat → Option D) x_m_1 => [some (cScr.e x_script), some (cInt.e x_width), some (D.lst .frz (List.map cInt.e x_draws_here)), some (D.lst .frz (List.map cStr.e x_m_1)), none, none, some (D.lst .frz (List.map cStr.e x_p.1)), some (D.lst .frz (List.map cStr.e x_p.2)), none, (x_b 9)]) (Ev.pure (c := cBool.e) (x := (decide ((x_t_9 % (3 : Int)) = (2 : Int)))) (P_eq (c := cInt) (x := (x_t_9 % (3 : Int))) (y := (2 : Int)) eqInt (P_mod h_16 P_int (by decide)) P_int)) ?_ ?_ fun x_b_1 x_m_1 => ?_
    · refine Bx.hoist (e := (.idx (.var 2) (.int 0))) (c1 := cInt.e) (M_idxL (c := cInt) (l := x_draws_here) (f := .frz) (P_varF (c := cInt) (l := x_draws_here) (fl := .frz) rfl (by rfl)) P_int) fun x_t_10 h_17 => ?_
      refine Bx.hoist (e := (.idx (.var 2) (.int 1))) (c1 := cInt.e) (M_idxL (c := cInt) (l := x_draws_here) (f := .frz) (P_varF (c := cInt) (l := x_draws_here) (fl := .frz) rfl (by rfl)) P_int) fun x_t_11 h_18 => ?_
      refine Bx.hoist (e := (.call i__law_cube (.cons (.bin .add (.idx (.var 2) (.int 0)) (.bin .mul (.int 4096) (.idx (.var 2) (.int 1)))) (.cons (.var 1) .nil)))) (c1 := cStr.e) (M_call (cc := cStr.e) (args_cons (arg_c (c := cInt) (x := (x_t_10 + ((4096 : Int) * x_t_11))) (P_add h_17 (P_mulL P_int h_18 rfl))) (args_cons (arg_c (c := cInt) (x := x_width) (P_varC (c := cInt) (x := x_width) (by rfl))) args_nil)) (ok__law_cube (n := n + 3) (x_t_10 + ((4096 : Int) * x_t_11)) x_width)) fun x_r_7 h_19 => ?_
      refine B_asg (c0 := (fun z => D.lst .own (List.map cStr.e z))) (fun z => D.lst .frz (List.map cStr.e z)) (M_catL (c := cStr) (l := x_m) (m := ([x_r_7] : List (List Nat))) (f := .frz) (g := .own) (P_varF (c := cStr) (l := x_m) (fl := .frz) rfl (by rfl)) (P_lstM (c := cStr) (l := [x_r_7]) (itmM_cons (c := cStr) (x := x_r_7) (l := []) (itm_c (c := cStr) (x := x_r_7) h_19) (itmM_nil (c := cStr))) (by exact Nat.le_of_ble_eq_true rfl))) (item_own cStr) (lt_ rfl) fun x_cover_3 => ?_
      show Bx _ _ _ [some (cScr.e x_script), some (cInt.e x_width), some (D.lst .frz (List.map cInt.e x_draws_here)), some (D.lst .frz (List.map cStr.e x_cover_3)), none, none, some (D.lst .frz (List.map cStr.e x_p.1)), some (D.lst .frz (List.map cStr.e x_p.2)), none, (x_b 9)] _ _
      exact B_nil ⟨(fun i => List.getD [some (cScr.e x_script), some (cInt.e x_width), some (D.lst .frz (List.map cInt.e x_draws_here)), some (D.lst .frz (List.map cStr.e x_cover_3)), none, none, some (D.lst .frz (List.map cStr.e x_p.1)), some (D.lst .frz (List.map cStr.e x_p.2)), none, (x_b 9)] i none), rfl⟩
    · exact B_nil ⟨(fun i => List.getD [some (cScr.e x_script), some (cInt.e x_width), some (D.lst .frz (List.map cInt.e x_draws_here)), some (D.lst .frz (List.map cStr.e x_m)), none, none, some (D.lst .frz (List.map cStr.e x_p.1)), some (D.lst .frz (List.map cStr.e x_p.2)), none, (x_b 9)] i none), rfl⟩
    show Bx _ _ _ [some (cScr.e x_script), some (cInt.e x_width), some (D.lst .frz (List.map cInt.e x_draws_here)), some (D.lst .frz (List.map cStr.e x_m_1)), none, none, some (D.lst .frz (List.map cStr.e x_p.1)), some (D.lst .frz (List.map cStr.e x_p.2)), none, (x_b 9)] _ _
    exact B_nil ⟨(fun i => List.getD [some (cScr.e x_script), some (cInt.e x_width), some (D.lst .frz (List.map cInt.e x_draws_here)), some (D.lst .frz (List.map cStr.e x_m_1)), none, none, some (D.lst .frz (List.map cStr.e x_p.1)), some (D.lst .frz (List.map cStr.e x_p.2)), none, (x_b 9)] i none), rfl⟩
  · exact B_nil ⟨(fun i => List.getD [some (cScr.e x_script), some (cInt.e x_width), some (D.lst .frz (List.map cInt.e x_draws_here)), some (D.lst .frz (List.map cStr.e x_cover)), none, none, some (D.lst .frz (List.map cStr.e x_p.1)), some (D.lst .frz (List.map cStr.e x_p.2)), none, none] i none), rfl⟩
  show Bx _ _ _ [some (cScr.e x_script), some (cInt.e x_width), some (D.lst .frz (List.map cInt.e x_draws_here)), some (D.lst .frz (List.map cStr.e x_m_2)), none, none, some (D.lst .frz (List.map cStr.e x_p.1)), some (D.lst .frz (List.map cStr.e x_p.2)), none, (x_b_2 9)] _ _
  refine B_forR (E := fun (x_b_3 : Nat → Option D) (x_s : Unit) => [some (cScr.e x_script), some (cInt.e x_width), some (D.lst .frz (List.map cInt.e x_draws_here)), some (D.lst .frz (List.map cStr.e x_m_2)), (x_b_3 4), none, some (D.lst .frz (List.map cStr.e x_p.1)), some (D.lst .frz (List.map cStr.e x_p.2)), none, (x_b_2 9)]) (t := cStr.e) (b0 := (fun i => List.getD [some (cScr.e x_script), some (cInt.e x_width), some (D.lst .frz (List.map cInt.e x_draws_here)), some (D.lst .frz (List.map cStr.e x_m_2)), none, none, some (D.lst .frz (List.map cStr.e x_p.1)), some (D.lst .frz (List.map cStr.e x_p.2)), none, (x_b_2 9)] i none)) (s0 := ()) (E1 := fun (x_b_3 : Nat → Option D) (x_s : Unit) (x_y_1 : (List Nat)) => [some (cScr.e x_script), some (cInt.e x_width), some (D.lst .frz (List.map cInt.e x_draws_here)), some (D.lst .frz (List.map cStr.e x_m_2)), some (cStr.e x_y_1), none, some (D.lst .frz (List.map cStr.e x_p.1)), some (D.lst .frz (List.map cStr.e x_p.2)), none, (x_b_2 9)]) (O' := Rt cBool.e) Rt.is (fun _ _ h => h) (It_seqS (Itr.hoist (e0 := (.call i__law_codes (.cons (.var 1) .nil))) (c1 := (fun z => D.lst .frz (List.map cStr.e z))) (M_call (cc := (fun z => D.lst .frz (List.map cStr.e z))) (args_cons (arg_c (c := cInt) (x := x_width) (P_varC (c := cInt) (x := x_width) (getE_selC (c := cInt) (by rfl)))) args_nil) (ok__law_codes (n := n + 2) x_width)) fun x_r_8 h_21 => (It_lst (c := cStr) (l := x_r_8) (f := .frz) (by decide) h_21))) (fun _ _ => rfl) (fun x_b_3 x_s x_y_1 => (bind_name (Cd.fz cStr x_y_1) rfl (lt_ rfl))) (fun x_b_3 x_s x_y_1 => ?_) fun x_b_4 x_s_1 => ?_
  · show Bx _ _ _ [some (cScr.e x_script), some (cInt.e x_width), some (D.lst .frz (List.map cInt.e x_draws_here)), some (D.lst .frz (List.map cStr.e x_m_2)), some (cStr.e x_y_1), none, some (D.lst .frz (List.map cStr.e x_p.1)), some (D.lst .frz (List.map cStr.e x_p.2)), none, (x_b_2 9)] _ _
    refine Bx.hoist (e := (.call i_cover_contains (.cons (.bi .list (.cons (.var 3) .nil)) (.cons (.var 4) .nil)))) (c1 := cBool.e) (M_call (cc := cBool.e) (args_cons (arg_own (c := cStr) (l := x_m_2) (P_listL (c := cStr) (l := x_m_2) (f := .frz) (P_varF (c := cStr) (l := x_m_2) (fl := .frz) rfl (by rfl)))) (args_cons (arg_c (c := cStr) (x := x_y_1) (P_varC (c := cStr) (x := x_y_1) (by rfl))) args_nil)) (ok_cover_contains (n := n + 2) .frz rfl x_m_2 x_y_1)) fun x_r_9 h_22 => ?_
    refine Bx.hoist (e := (.call i__law_covered (.cons (.var 3) (.cons (.var 4) .nil)))) (c1 := cBool.e) (M_call (cc := cBool.e) (args_cons (arg_fl (c := cStr) (l := x_m_2) (fl := .frz) rfl (P_varF (c := cStr) (l := x_m_2) (fl := .frz) rfl (by rfl))) (args_cons (arg_c (c := cStr) (x := x_y_1) (P_varC (c := cStr) (x := x_y_1) (by rfl))) args_nil)) (ok__law_covered (n := n + 2) .frz rfl x_m_2 x_y_1)) fun x_r_10 h_23 => ?_
    refine Bx.hoist (e := (.call i__law_is_bool (.cons (.call i_cover_contains (.cons (.bi .list (.cons (.var 3) .nil)) (.cons (.var 4) .nil))) (.cons (.call i__law_covered (.cons (.var 3) (.cons (.var 4) .nil))) .nil)))) (c1 := cBool.e) (M_call (cc := cBool.e) (args_cons (arg_c (c := cBool) (x := x_r_9) h_22) (args_cons (arg_c (c := cBool) (x := x_r_10) h_23) args_nil)) (ok__law_is_bool (n := n + 3) x_r_9 x_r_10)) fun x_r_11 h_24 => ?_
    refine B_ite1 (Ev.pure (c := cBool.e) (x := (!x_r_11)) (P_not h_24)) ?_ ?_
    · exact B_ret (Ev.pure (c := cBool.e) (x := false) P_bl) (Cd.nl cBool) (fun _ => ⟨(rt_c cBool _), rfl⟩)
    exact B_nil ⟨(fun i => List.getD [some (cScr.e x_script), some (cInt.e x_width), some (D.lst .frz (List.map cInt.e x_draws_here)), some (D.lst .frz (List.map cStr.e x_m_2)), some (cStr.e x_y_1), none, some (D.lst .frz (List.map cStr.e x_p.1)), some (D.lst .frz (List.map cStr.e x_p.2)), none, (x_b_2 9)] i none), .inl rfl⟩
  show Bx _ _ _ [some (cScr.e x_script), some (cInt.e x_width), some (D.lst .frz (List.map cInt.e x_draws_here)), some (D.lst .frz (List.map cStr.e x_m_2)), (x_b_4 4), none, some (D.lst .frz (List.map cStr.e x_p.1)), some (D.lst .frz (List.map cStr.e x_p.2)), none, (x_b_2 9)] _ _
  refine Bx.hoist (e := (.lc (.var 4) (.name 4) (.seq (.var 6)) (.not (.call i__law_covered (.cons (.var 3) (.cons (.var 4) .nil)))))) (c1 := (fun z => D.lst .own (List.map cStr.e z))) (M_lcG (ca := cStr.e) (cb := cStr.e) (It_lst (c := cStr) (l := x_p.1) (f := .frz) (by decide) (P_varF (c := cStr) (l := x_p.1) (fl := .frz) rfl (by rfl))) fun x_y_3 => lcF_of (env1 := [some (cScr.e x_script), some (cInt.e x_width), some (D.lst .frz (List.map cInt.e x_draws_here)), some (D.lst .frz (List.map cStr.e x_m_2)), some (cStr.e x_y_3), none, some (D.lst .frz (List.map cStr.e x_p.1)), some (D.lst .frz (List.map cStr.e x_p.2)), none, (x_b_2 9)]) (d := cStr.e) (bind_name (Cd.fz cStr x_y_3) rfl (lt_ rfl)) (cond_at rfl (Ev.hoist (e0 := (.call i__law_covered (.cons (.var 3) (.cons (.var 4) .nil)))) (c1 := cBool.e) (M_call (cc := cBool.e) (args_cons (arg_fl (c := cStr) (l := x_m_2) (fl := .frz) rfl (P_varF (c := cStr) (l := x_m_2) (fl := .frz) rfl (by rfl))) (args_cons (arg_c (c := cStr) (x := x_y_3) (P_varC (c := cStr) (x := x_y_3) (by rfl))) args_nil)) (ok__law_covered (n := n + 2) .frz rfl x_m_2 x_y_3)) fun x_r_12 h_25 => (Ev.pure (c := cBool.e) (x := (!x_r_12)) (P_not h_25)))) (Ev.pure (c := cStr.e) (x := x_y_3) (P_varC (c := cStr) (x := x_y_3) (by rfl))) (item_c cStr)) fun x_t_13 h_26 => ?_
  refine B_asg (c0 := cBool.e) cBool.e (Ev.pure (c := cBool.e) (x := (decide ((List.length x_t_13 : Int) = (0 : Int)))) (P_eq (c := cInt) (x := (List.length x_t_13 : Int)) (y := (0 : Int)) eqInt (P_lenL (c := cStr) (l := x_t_13) (f := .own) h_26) P_int)) (item_c cBool) (lt_ rfl) fun x_good => ?_
  show Bx _ _ _ [some (cScr.e x_script), some (cInt.e x_width), some (D.lst .frz (List.map cInt.e x_draws_here)), some (D.lst .frz (List.map cStr.e x_m_2)), (x_b_4 4), some (cBool.e x_good), some (D.lst .frz (List.map cStr.e x_p.1)), some (D.lst .frz (List.map cStr.e x_p.2)), none, (x_b_2 9)] _ _
  refine B_asg (c0 := cBool.e) cBool.e (M_and (x := x_good) (P_varC (c := cBool) (x := x_good) (by rfl)) (Ev.hoist (e0 := (.lc (.var 4) (.name 4) (.seq (.var 7)) (.call i__law_covered (.cons (.var 3) (.cons (.var 4) .nil))))) (c1 := (fun z => D.lst .own (List.map cStr.e z))) (M_lcG (ca := cStr.e) (cb := cStr.e) (It_lst (c := cStr) (l := x_p.2) (f := .frz) (by decide) (P_varF (c := cStr) (l := x_p.2) (fl := .frz) rfl (by rfl))) fun x_y_4 => lcF_of (env1 := [some (cScr.e x_script), some (cInt.e x_width), some (D.lst .frz (List.map cInt.e x_draws_here)), some (D.lst .frz (List.map cStr.e x_m_2)), some (cStr.e x_y_4), some (cBool.e x_good), some (D.lst .frz (List.map cStr.e x_p.1)), some (D.lst .frz (List.map cStr.e x_p.2)), none, (x_b_2 9)]) (d := cStr.e) (bind_name (Cd.fz cStr x_y_4) rfl (lt_ rfl)) (cond_at rfl (M_call (cc := cBool.e) (args_cons (arg_fl (c := cStr) (l := x_m_2) (fl := .frz) rfl (P_varF (c := cStr) (l := x_m_2) (fl := .frz) rfl (by rfl))) (args_cons (arg_c (c := cStr) (x := x_y_4) (P_varC (c := cStr) (x := x_y_4) (by rfl))) args_nil)) (ok__law_covered (n := n + 2) .frz rfl x_m_2 x_y_4))) (Ev.pure (c := cStr.e) (x := x_y_4) (P_varC (c := cStr) (x := x_y_4) (by rfl))) (item_c cStr)) fun x_t_14 h_28 => (Ev.pure (c := cBool.e) (x := (decide ((List.length x_t_14 : Int) = (0 : Int)))) (P_eq (c := cInt) (x := (List.length x_t_14 : Int)) (y := (0 : Int)) eqInt (P_lenL (c := cStr) (l := x_t_14) (f := .own) h_28) P_int)))) (item_c cBool) (lt_ rfl) fun x_good_1 => ?_
  show Bx _ _ _ [some (cScr.e x_script), some (cInt.e x_width), some (D.lst .frz (List.map cInt.e x_draws_here)), some (D.lst .frz (List.map cStr.e x_m_2)), (x_b_4 4), some (cBool.e x_good_1), some (D.lst .frz (List.map cStr.e x_p.1)), some (D.lst .frz (List.map cStr.e x_p.2)), none, (x_b_2 9)] _ _
  refine Bx.hoist (e := (.call i_implements (.cons (.bi .list (.cons (.var 3) .nil)) (.cons (.bi .list (.cons (.var 6) .nil)) (.cons (.bi .list (.cons (.var 7) .nil)) .nil))))) (c1 := cBool.e) (M_call (cc := cBool.e) (args_cons (arg_own (c := cStr) (l := x_m_2) (P_listL (c := cStr) (l := x_m_2) (f := .frz) (P_varF (c := cStr) (l := x_m_2) (fl := .frz) rfl (by rfl)))) (args_cons (arg_own (c := cStr) (l := x_p.1) (P_listL (c := cStr) (l := x_p.1) (f := .frz) (P_varF (c := cStr) (l := x_p.1) (fl := .frz) rfl (by rfl)))) (args_cons (arg_own (c := cStr) (l := x_p.2) (P_listL (c := cStr) (l := x_p.2) (f := .frz) (P_varF (c := cStr) (l := x_p.2) (fl := .frz) rfl (by rfl)))) args_nil))) (ok_implements (n := n + 1) .frz rfl .frz rfl .frz rfl x_m_2 x_p.1 x_p.2)) fun x_r_14 h_30 => ?_
  exact B_ret (M_call (cc := cBool.e) (args_cons (arg_c (c := cBool) (x := x_r_14) h_30) (args_cons (arg_c (c := cBool) (x := x_good_1) (P_varC (c := cBool) (x := x_good_1) (by rfl))) args_nil)) (ok__law_is_bool (n := n + 3) x_r_14 x_good_1)) (Cd.nl cBool) (fun _ => (rt_c cBool _))
end K29

set_option maxHeartbeats 4000000
namespace K29
open PV Cub
theorem v__law_cell (ns : List Int) (k : Nat) : m__law_cell ns (k : Int) = some (cell ns k) := by
  unfold m__law_cell cell
  by_cases h : k < ns.length
  · simp [h, getI_nat h]
  · simp [h]
theorem v__law_draws (c : Int) {m : Nat} (hm : m ≤ 1000000) : m__law_draws c (m : Int) = some (draws c m) := by
  unfold m__law_draws
  simp only [Option.bind_some, rngO_nat hm]
  refine foldO_bind (fun s y => drawsG c s y.toNat) (fun i s => s.1.length = i) rfl (fun i s y hy hI => ?_) fun _ => ?_
  · obtain ⟨k, hk, rfl⟩ := mem_range_int (List.mem_of_getElem? hy)
    have hi : i < m := by simpa using (List.getElem?_eq_some_iff.mp hy).1
    have b : ∀ x : Int, 0 ≤ x % 2147483647 ∧ x % 2147483647 < 2147483647 := fun x => by omega
    have b2 : ∀ x : Int, 0 ≤ x % 2147483629 ∧ x % 2147483629 < 2147483629 := fun x => by omega
    refine ⟨?_, ?_⟩
    rotate_left
    · unfold drawsG; split <;> simp [hI]
    · simp only [Int.toNat_natCast]
      by_cases q : 1000000000000000000 ≤ c ∧ 0 < s.2
      · have e : drawsG c s k = (s.1 ++ [s.2 % 4096], s.2 / 4096) := if_pos q
        rw [e]
        simp only [q.1, q.2, decide_true, Bool.and_self, if_true]
        rw [appG_ok (by omega)]
        rfl
      · have e : drawsG c s k = (s.1 ++ [drawMix c k], s.2) := if_neg q
        rw [e]
        have e2 : (decide (1000000000000000000 ≤ c) && decide (0 < s.2)) = false := by
          rw [← Bool.decide_and]
          exact decide_eq_false q
        simp only [e2, Bool.false_eq_true, if_false]
        obtain ⟨l1, u1⟩ := b (c * 48271 + ((k : Int) + 1) * 69621)
        rw [mulO_L (by omega) (by omega), Option.bind_some]
        have e3 : drawMix c k = (((((c * 48271 + ((k : Int) + 1) * 69621) % 2147483647) * ((c * 48271 + ((k : Int) + 1) * 69621) % 2147483647) + ((c * 48271 + ((k : Int) + 1) * 69621) % 2147483647) * 16807 + (k : Int) * 7919) % 2147483629) * ((((c * 48271 + ((k : Int) + 1) * 69621) % 2147483647) * ((c * 48271 + ((k : Int) + 1) * 69621) % 2147483647) + ((c * 48271 + ((k : Int) + 1) * 69621) % 2147483647) * 16807 + (k : Int) * 7919) % 2147483629) + c + 13 * (k : Int)) % 2147483587 / 7 % 4096 := rfl
        rw [e3]
        generalize (c * 48271 + ((k : Int) + 1) * 69621) % 2147483647 = m1 at *
        obtain ⟨l2, u2⟩ := b2 (m1 * m1 + m1 * 16807 + (k : Int) * 7919)
        rw [mulO_L (by omega) (by omega), Option.bind_some, appG_ok (by omega)]
        rfl
  · show some _ = some _
    rw [foldl_range_int]
    rfl
theorem v__law_is_bool (b c : Bool) : m__law_is_bool b c = some (decide (b = c)) := by
  unfold m__law_is_bool
  cases b <;> cases c <;> rfl
theorem v__law_cube (d : Int) {w : Nat} (hw : w ≤ 1000) : m__law_cube d (w : Int) = some (cubeOf d w) := by
  unfold m__law_cube
  simp only [Option.bind_some, rngO_nat (show w ≤ 1000000 by omega)]
  refine foldO_bind (fun s _ => (s.1 / 3, s.2 ++ [sgn s.1])) (fun i s => s.2.length = i) rfl (fun i s y hy hI => ?_) fun _ => ?_
  · have hi : i < w := by simpa using (List.getElem?_eq_some_iff.mp hy).1
    refine ⟨?_, by simp [hI]⟩
    rw [sgn_at, Option.map_some, Option.bind_some, catS_ok (by simp; omega)]
    rfl
  · rw [foldl_range_int, cube_fold]
    simp
theorem v__law_code_of (d : Int) {w : Nat} (hw : w ≤ 1000) : m__law_code_of d (w : Int) = some (codeOf d w []) := by
  unfold m__law_code_of
  simp only [Option.bind_some, rngO_nat (show w ≤ 1000000 by omega)]
  refine foldO_bind (fun s _ => (s.1 / 2, bit s.1 :: s.2)) (fun i s => s.2.length = i) rfl (fun i s y hy hI => ?_) fun _ => ?_
  · have hi : i < w := by simpa using (List.getElem?_eq_some_iff.mp hy).1
    refine ⟨?_, by simp [hI]⟩
    rw [bit_at, Option.map_some, Option.bind_some, catS_ok (by simp; omega)]
    rfl
  · rw [foldl_range_int, code_fold]
    simp
theorem v__law_codes {w : Nat} (hw : w < 9) : m__law_codes (w : Int) = some (codes w) := by
  unfold m__law_codes
  have hp := codes_le hw
  rw [pow_at hw, Option.bind_some, rngO_nat (show 2 ^ w ≤ 1000000 by omega), Option.bind_some]
  rw [lcG_map (fun y => codeOf y w []) (by simp; omega) fun y hy => by
    obtain ⟨k, hk, rfl⟩ := mem_range_int hy
    rw [v__law_code_of _ (by omega)]
    rfl]
  rw [Option.bind_some, List.map_map]
  rfl
theorem v__law_in {c x : List Nat} (h : c.length = x.length) (hx : x.length ≤ 1000) : m__law_in c x = some (isInZ c x) := by
  unfold m__law_in
  simp only [Option.bind_some, rngO_nat (show x.length ≤ 1000000 by omega)]
  have e := isIn_eq c x h
  unfold isIn at e
  refine some_bind (fun y => c.getD y.toNat 0 != 45 && c.getD y.toNat 0 != x.getD y.toNat 0) false (fun y hy => ?_) (fun z => ?_) fun z => ?_
  · obtain ⟨k, hk, rfl⟩ := mem_range_int hy
    rw [getI_getD 0 (show k < c.length by omega), getI_getD 0 hk]
    simp only [Option.map_some, Option.bind_some, Int.toNat_natCast]
    by_cases z : c.getD k 0 = 45
    · simp [z, -List.getD_eq_getElem?_getD]
    · by_cases z2 : c.getD k 0 = x.getD k 0
      · simp [z, ← z2, -List.getD_eq_getElem?_getD]
      · simp [z, z2, -List.getD_eq_getElem?_getD]
  · rw [any_range] at z
    simp only [Int.toNat_natCast] at z
    rw [← e, z]
    rfl
  · rw [any_range] at z
    simp only [Int.toNat_natCast] at z
    rw [← e, z]
    rfl
theorem v__law_covered {cs : List (List Nat)} {x : List Nat} (h : ∀ c ∈ cs, c.length = x.length) (hx : x.length ≤ 1000) : m__law_covered cs x = some (covered cs x) := by
  unfold m__law_covered
  rw [Option.bind_some]
  refine some_bind (fun c => isInZ c x) true (fun c hc => ?_) (fun z => ?_) fun z => ?_
  · rw [v__law_in (h c hc) hx]
    cases isInZ c x <;> rfl
  · unfold covered; rw [z]; rfl
  · unfold covered; rw [z]; rfl
theorem fn_step {w : Nat} (hw : w < 7) {ds : List Int} (len : ds.length = 40) (bnd : ∀ k, 0 ≤ ds.getD k 0 ∧ ds.getD k 0 < 4096) {sh : Int} (sp : 0 < sh) {i : Nat} {s : List (List Nat) × List (List Nat)} {y : Int} (hy : ((List.range (codes w).length).map fun k : Nat => (k : Int))[i]? = some y) (hI : FI w i s) : ∃ s', (fun (x_s : List (List Nat) × List (List Nat)) (x_y : Int) => (getI ds 38).bind fun x_t_1 => (getI ds ((x_y + x_t_1) % 37)).bind fun x_t_2 => (getI ([1, 7] : List Int) (x_y / 32 % 2)).bind fun x_t_3 => (divO x_t_2 x_t_3).bind fun x_t_4 => (modO x_t_4 sh).bind fun x_draw =>
    (some (decide ((32 : Int) ≤ x_y))).bind fun x_k => (if x_k then ((getI ds (x_y % 31)).bind fun x_t_6 => (modO (x_draw + x_t_6) sh).bind fun x_draw_1 => some x_draw_1) else (some x_draw)).bind fun x_m =>
    (some (decide (x_m = (1 : Int)))).bind fun x_k_1 => (if x_k_1 then ((getI (codes w) x_y).bind fun x_a => (appG x_s.1 x_a).bind fun x_on_1 => some x_on_1) else (some x_s.1)).bind fun x_m_1 =>
    (some (decide (x_m = (2 : Int)))).bind fun x_k_2 => (if x_k_2 then ((getI (codes w) x_y).bind fun x_a_1 => (appG x_s.2 x_a_1).bind fun x_off_1 => some x_off_1) else (some x_s.2)).bind fun x_m_2 =>
    some (x_m_1, x_m_2)) s y = some s' ∧ FI w (i + 1) s' := by
  have hp : 2 ^ w ≤ 64 := Nat.pow_le_pow_right (n := 2) (by decide) (show w ≤ 6 by omega)
  have cl := codes_len w
  have g38 : getI ds 38 = some (ds.getD 38 0) := getI_of (k := 38) 0 rfl (by omega)
  obtain ⟨hi, hy⟩ := List.getElem?_eq_some_iff.mp hy
  have hi : i < (codes w).length := by simpa using hi
  have hy : y = (i : Int) := by rw [← hy]; simp
  subst hy
  have cx : (codes w)[i]? = some ((codes w).getD i []) := by rw [List.getD_eq_getElem?_getD, List.getElem?_eq_getElem hi]; rfl
  have gx : getI (codes w) (i : Int) = some ((codes w).getD i []) := getI_getD [] hi
  generalize (codes w).getD i [] = x at *
  have d := hI.d
  have e := hI.e
  obtain ⟨a, ha, ea⟩ : ∃ a : Nat, a < 37 ∧ ((i : Int) + ds.getD 38 0) % 37 = a := ⟨(((i : Int) + ds.getD 38 0) % 37).toNat, by omega, by omega⟩
  obtain ⟨b, hb, eb⟩ : ∃ b : Nat, b < 31 ∧ (i : Int) % 31 = b := ⟨((i : Int) % 31).toNat, by omega, by omega⟩
  have ga : getI ds (a : Int) = some (ds.getD a 0) := getI_getD 0 (by omega)
  have gb : getI ds (b : Int) = some (ds.getD b 0) := getI_getD 0 (by omega)
  obtain ⟨q, hq, eq⟩ : ∃ q : Int, (0 < q ∧ q < 8) ∧ getI ([1, 7] : List Int) ((i : Int) / 32 % 2) = some q := by
    rcases (by omega : (i : Int) / 32 % 2 = 0 ∨ (i : Int) / 32 % 2 = 1) with z | z <;> rw [z]
    · exact ⟨1, by omega, rfl⟩
    · exact ⟨7, by omega, rfl⟩
  simp only [g38, Option.bind_some, ea, ga, eq, divO_ok hq.1 (show q < 1073741824 by omega), modO_ok sp, eb, gb]
  obtain ⟨v, ev⟩ : ∃ v : Int, (if decide ((32 : Int) ≤ (i : Int)) = true then some ((ds.getD a 0 / q % sh + ds.getD b 0) % sh) else some (ds.getD a 0 / q % sh)) = some v := by
    split <;> exact ⟨_, rfl⟩
  rw [ev, Option.bind_some, gx]
  simp only [Option.bind_some]
  by_cases v1 : v = 1
  · subst v1
    refine ⟨_, ?_, hI.left cx⟩
    simp [appG_ok (show s.1.length ≤ 1000000 by omega)]
  · by_cases v2 : v = 2
    · subst v2
      refine ⟨_, ?_, hI.right cx⟩
      simp [appG_ok (show s.2.length ≤ 1000000 by omega)]
    · refine ⟨_, ?_, hI.skip⟩
      simp [v1, v2]
theorem v__law_function {w : Nat} (hw : w < 7) (c : Int) : ∃ on off, m__law_function c (w : Int) = some (on, off) ∧ FN w on off := by
  unfold m__law_function
  have hd : m__law_draws c 40 = some (draws c 40) := by
    rw [show (40 : Int) = ((40 : Nat) : Int) from rfl]
    exact v__law_draws c (by omega)
  rw [hd, Option.bind_some, Option.bind_some, Option.bind_some, v__law_codes (show w < 9 by omega), Option.bind_some]
  have len := draws_len c 40
  have bnd := draws_bnd c 40
  generalize draws c 40 = ds at *
  have hp : 2 ^ w ≤ 64 := Nat.pow_le_pow_right (n := 2) (by decide) (show w ≤ 6 by omega)
  have cl := codes_len w
  have g39 : getI ds 39 = some (ds.getD 39 0) := getI_of (k := 39) 0 rfl (by omega)
  have g38 : getI ds 38 = some (ds.getD 38 0) := getI_of (k := 38) 0 rfl (by omega)
  have g36 : getI ds 36 = some (ds.getD 36 0) := getI_of (k := 36) 0 rfl (by omega)
  rw [g39, Option.bind_some]
  obtain ⟨sh, hs⟩ : ∃ sh : Int, sh = 3 + ds.getD 39 0 % 3 := ⟨_, rfl⟩
  have sp : 0 < sh := by omega
  rw [← hs, Option.bind_some, rngO_nat (by omega), Option.bind_some]
  obtain ⟨s, e, I⟩ := foldO_ex (f := fun (x_s : List (List Nat) × List (List Nat)) (x_y : Int) => (getI ds 38).bind fun x_t_1 => (getI ds ((x_y + x_t_1) % 37)).bind fun x_t_2 => (getI ([1, 7] : List Int) (x_y / 32 % 2)).bind fun x_t_3 => (divO x_t_2 x_t_3).bind fun x_t_4 => (modO x_t_4 sh).bind fun x_draw =>
    (some (decide ((32 : Int) ≤ x_y))).bind fun x_k => (if x_k then ((getI ds (x_y % 31)).bind fun x_t_6 => (modO (x_draw + x_t_6) sh).bind fun x_draw_1 => some x_draw_1) else (some x_draw)).bind fun x_m =>
    (some (decide (x_m = (1 : Int)))).bind fun x_k_1 => (if x_k_1 then ((getI (codes w) x_y).bind fun x_a => (appG x_s.1 x_a).bind fun x_on_1 => some x_on_1) else (some x_s.1)).bind fun x_m_1 =>
    (some (decide (x_m = (2 : Int)))).bind fun x_k_2 => (if x_k_2 then ((getI (codes w) x_y).bind fun x_a_1 => (appG x_s.2 x_a_1).bind fun x_off_1 => some x_off_1) else (some x_s.2)).bind fun x_m_2 =>
    some (x_m_1, x_m_2)) (fun i s => FI w i s) ((List.range (codes w).length).map fun k : Nat => (k : Int)) 0 ([], []) ⟨fun _ h => (by cases h), fun _ h => (by cases h), fun _ h => (by cases h), Nat.le_refl _, Nat.le_refl _⟩ fun i s y hy hI => by
      rw [Nat.zero_add] at hI ⊢
      exact fn_step hw len bnd sp hy hI
  rw [e, Option.bind_some, g36, Option.bind_some, Option.bind_some]
  rw [Nat.zero_add] at I
  have li : ((List.range (codes w).length).map fun k : Nat => (k : Int)).length ≤ 64 := by simp [cl]; omega
  have d := I.d
  have f := I.e
  by_cases q : ds.getD 36 0 % 2 = 1
  · have c1 := cut_len (l := s.1) (a := none) (b := some 1)
    have c2 := cut_len (l := s.2) (a := some (-1)) (b := none)
    refine ⟨s.1.reverse ++ cut s.1 none (some 1), s.2 ++ cut s.2 (some (-1)) none, ?_, I.fn li (fun x hx => ?_) (fun x hx => ?_) (by simp; omega) (by simp; omega)⟩
    · simp only [q, decide_true, if_true]
      rw [catL_ok (by simp; omega), Option.bind_some, catL_ok (by omega)]
      rfl
    · rcases List.mem_append.mp hx with z | z
      · exact List.mem_reverse.mp z
      · exact cut_mem z
    · rcases List.mem_append.mp hx with z | z
      · exact z
      · exact cut_mem z
  · exact ⟨s.1, s.2, by simp [q, -List.getD_eq_getElem?_getD], I.fn li (fun x hx => hx) (fun x hx => hx) (by omega) (by omega)⟩
theorem v__law_avoids {c : List Nat} {off : List (List Nat)} (h : ∀ x ∈ off, x.length = c.length) (hl : c.length ≤ 1000) : m__law_avoids c off = some (avoidB off c) := by
  unfold m__law_avoids
  rw [Option.bind_some]
  refine some_bind (fun x => isInZ c x) false (fun x hx => ?_) (fun z => ?_) fun z => ?_
  · rw [v__law_in (h x hx).symm (by rw [h x hx]; exact hl), Option.bind_some]
    cases isInZ c x <;> rfl
  · unfold avoidB; rw [z]; rfl
  · unfold avoidB; rw [z]; rfl
theorem v__law_with {c : List Nat} {k x : Nat} (hk : k < c.length) (hl : c.length ≤ 1000) : m__law_with c (k : Int) [x] = some (withC c k x) := by
  unfold m__law_with
  have e : ((k : Int) + 1) = ((k + 1 : Nat) : Int) := by omega
  rw [cut_to (by omega), e, cut_from (by omega), catS_ok (by simp; omega), Option.bind_some, catS_ok (by simp; omega)]
  rfl
theorem v__law_expand {c : List Nat} {off : List (List Nat)} (h : ∀ x ∈ off, x.length = c.length) (hl : c.length ≤ 1000) : m__law_expand c off = some (expandF off c) := by
  unfold m__law_expand
  rw [rngO_nat (by omega), Option.bind_some]
  refine foldO_bind (fun s y => expF off s y.toNat) (fun i s => s.length = c.length) rfl (fun i s y hy hI => ?_) fun _ => ?_
  · obtain ⟨k, hk, rfl⟩ := mem_range_int (List.mem_of_getElem? hy)
    refine ⟨?_, by rw [Int.toNat_natCast, expF_len _ _ _ (by omega), hI]⟩
    simp only [v__law_with (show k < s.length by omega) (show s.length ≤ 1000 by omega), Option.bind_some]
    rw [v__law_avoids (by rw [withC_len _ _ _ (by omega), hI]; exact h) (by rw [withC_len _ _ _ (by omega)]; omega)]
    simp only [Option.bind_some, Int.toNat_natCast]
    unfold expF
    cases avoidB off (withC s k 45) <;> rfl
  · rw [foldl_range_int]
    rfl
theorem v__law_compact {w : Nat} (hw : w < 7) {on off : List (List Nat)} (F : FN w on off) : m__law_compact on off = some (compactF on off) := by
  unfold m__law_compact
  rw [bS, bS]
  have sl : ∀ x ∈ on.mergeSort leS, x ∈ on := fun x hx => (List.mergeSort_perm on leS).mem_iff.mp hx
  have ln : (on.mergeSort leS).length = on.length := (List.mergeSort_perm on leS).length_eq
  have G := grown_on F
  unfold compactF
  have lon := F.lon
  refine foldO_bind (growS off) (fun i s => s.length ≤ i ∧ ∀ c ∈ s, c.length = w) ⟨Nat.le_refl _, fun _ h => by cases h⟩ (fun i s x hx hI => ?_) fun _ => ?_
  · obtain ⟨hi, hx⟩ := List.getElem?_eq_some_iff.mp hx
    have hx : x ∈ on := sl x (hx ▸ List.getElem_mem hi)
    have xl := (F.ons x hx).1
    have ho : ∀ y ∈ off, y.length = x.length := fun y hy => by rw [(F.offs y hy).1, xl]
    rw [v__law_covered (fun c hc => by rw [hI.2 c hc, xl]) (by omega)]
    rw [bS, bS, v__law_expand ho (by omega)]
    rw [bS, appG_ok (by omega), bS]
    unfold growS
    have e1 : s.length ≤ i + 1 := by omega
    have e2 : ∀ c ∈ s ++ [expandF off x], c.length = w := fun c hc => by
      rcases List.mem_append.mp hc with z | z
      · exact hI.2 c z
      · rw [List.mem_singleton.mp z, expand_len, xl]
    cases covered s x
    · exact ⟨rfl, by simp; omega, e2⟩
    · exact ⟨rfl, e1, hI.2⟩
  · have gl := G.len
    rw [ln] at gl
    have ok := fun c hc => (G.ok c hc).2
    have eg : (on.mergeSort leS).foldl (growS off) [] = growF off (on.mergeSort leS) := rfl
    rw [eg]
    generalize growF off (on.mergeSort leS) = cov at *
    clear eg
    rw [rngO_nat (by simp; omega), bS]
    have ml : (cov.map some).length = cov.length := by simp
    refine foldO_bind (fun (s : List (Option (List Nat))) (y : Int) => markS on s (s.length - 1 - y.toNat)) (fun i s => s.length = cov.length ∧ ∃ M, s = (cov.take (cov.length - i)).map some ++ M ∧ (∀ c ∈ M, ∀ z, c = some z → z ∈ cov) ∧ trimF on (cov.length - i) (s.filterMap id) = trimF on cov.length cov) ⟨by simp, [], by simp [List.take_of_length_le], fun _ h => (by cases h), by simp⟩ (fun i s y hy hI => ?_) fun hI => ?_
    · obtain ⟨k, hk, rfl⟩ := mem_range_int (List.mem_of_getElem? hy)
      obtain ⟨hi, hy⟩ := List.getElem?_eq_some_iff.mp hy
      have hi : i < cov.length := by simpa using hi
      have hy : k = i := by have := hy; simp at this; omega
      subst hy
      obtain ⟨h1, M, h2, h3, h4⟩ := hI
      obtain ⟨a, ha⟩ : ∃ a, cov.length - k = a + 1 := ⟨cov.length - k - 1, by omega⟩
      have ha' : cov.length - (k + 1) = a := by omega
      rw [ha] at h2 h4
      rw [ha']
      have eat : (s.length : Int) - 1 - (k : Int) = (a : Int) := by omega
      have eat' : s.length - 1 - k = a := by omega
      rw [bS, eat, rngO_nat (by omega), bS]
      simp only [Int.toNat_natCast, eat']
      have al : a < cov.length := by omega
      have tk : cov.take (a + 1) = cov.take a ++ [cov[a]] := by rw [List.take_succ, List.getElem?_eq_getElem al]; rfl
      have sM : s = (cov.take a).map some ++ some cov[a] :: M := by rw [h2, tk, List.map_append, List.append_assoc]; rfl
      have la : (cov.take a).length = a := by rw [List.length_take]; omega
      have se : s.set a none = (cov.take a).map some ++ none :: M := by
        rw [sM, List.set_append_right _ _ (by rw [List.length_map, la]; exact Nat.le_refl _), List.length_map, la, Nat.sub_self]
        rfl
      have fs : ∀ l : List (List Nat), (l.map some).filterMap id = l := fun l => by rw [List.filterMap_map]; simp
      have sf : (s.set a none).filterMap id = cov.take a ++ M.filterMap id := by rw [se, List.filterMap_append, fs]; rfl
      have rest : lcG ((List.range s.length).map fun k : Nat => (k : Int)) (fun x_y_2 => (Option.bind (if (!(decide (x_y_2 = (a : Int)))) then (Option.bind (getI s x_y_2) fun x_t => (some (Option.isSome x_t))) else some false) fun k => if k then Option.map some (Option.bind (getI s x_y_2) fun x_t_2 => x_t_2) else some none)) = some (cov.take a ++ M.filterMap id) := by
        rw [lcG_fm (fun y => if y.toNat = a then none else (s[y.toNat]?).join) (by simp; omega) fun y hy => by
          obtain ⟨j, hj, rfl⟩ := mem_range_int hy
          rw [Int.toNat_natCast]
          by_cases q : j = a
          · subst q; simp
          · rw [getI_nat hj]
            have : (!(decide ((j : Int) = (a : Int)))) = true := by simp; omega
            rw [if_pos this, bS, if_neg q, List.getElem?_eq_getElem hj, bS, bS]
            cases s[j] <;> rfl]
        congr 1
        exact marks_rest sM la
      rw [rest, bS]
      have rl : ∀ c ∈ cov.take a ++ M.filterMap id, c.length = w := fun c hc => by
        rcases List.mem_append.mp hc with z | z
        · exact ok c (List.mem_of_mem_take z)
        · obtain ⟨o, ho, e⟩ := List.mem_filterMap.mp z
          exact ok c (h3 o ho c e)
      rw [bS, lcG_filter (fun x => !(covered (cov.take a ++ M.filterMap id) x)) (by omega) fun x hx => by
        rw [v__law_covered (fun c hc => by rw [rl c hc, (F.ons x hx).1]) (by rw [(F.ons x hx).1]; omega), bS, bS]
        cases covered (cov.take a ++ M.filterMap id) x <;> rfl]
      rw [bS, bS, bS, bS, setG_nat (show a < s.length by omega), bS]
      have all : decide (((on.filter fun x => !(covered (cov.take a ++ M.filterMap id) x)).length : Int) = 0) = allIn on (cov.take a ++ M.filterMap id) := by
        rw [Bool.eq_iff_iff, decide_eq_true_iff]
        unfold allIn
        rw [List.all_eq_true]
        constructor
        · intro h x hx
          have : (on.filter fun x => !(covered (cov.take a ++ M.filterMap id) x)) = [] := List.length_eq_zero_iff.mp (by omega)
          have := (List.filter_eq_nil_iff.mp this) x hx
          simpa using this
        · intro h
          have : (on.filter fun x => !(covered (cov.take a ++ M.filterMap id) x)) = [] := List.filter_eq_nil_iff.mpr fun x hx => by simp [h x hx]
          rw [this]; rfl
      rw [all]
      have fm : s.filterMap id = cov.take a ++ cov[a] :: M.filterMap id := by rw [sM, List.filterMap_append, fs]; rfl
      have dr : dropAt (s.filterMap id) a = cov.take a ++ M.filterMap id := by
        unfold dropAt
        rw [fm, List.take_append_of_le_length (by omega), List.take_of_length_le (by omega), List.drop_append, List.drop_of_length_le (by omega), la, show a + 1 - a = 1 by omega]
        rfl
      have ms : markS on s a = if allIn on (cov.take a ++ M.filterMap id) then s.set a none else s := by
        unfold markS
        rw [sf]
      have h5 : trimF on (a + 1) (s.filterMap id) = trimF on a (if allIn on (dropAt (s.filterMap id) a) then dropAt (s.filterMap id) a else s.filterMap id) := rfl
      rw [h5, dr] at h4
      rw [ms]
      by_cases q : allIn on (cov.take a ++ M.filterMap id) = true
      · rw [if_pos q] at h4
        simp only [q, if_true]
        refine ⟨rfl, by simp [h1], none :: M, se, fun c hc z e => ?_, ?_⟩
        · rcases List.mem_cons.mp hc with u | u
          · rw [u] at e; cases e
          · exact h3 c u z e
        · rw [← h4, sf]
      · have q : allIn on (cov.take a ++ M.filterMap id) = false := by simpa using q
        rw [q] at h4
        simp only [q, Bool.false_eq_true, if_false] at h4 ⊢
        refine ⟨rfl, h1, some cov[a] :: M, sM, fun c hc z e => ?_, h4⟩
        rcases List.mem_cons.mp hc with u | u
        · rw [u] at e; cases e; exact List.getElem_mem al
        · exact h3 c u z e
    · generalize ((List.range (cov.map some).length).map fun k : Nat => (k : Int)).foldl (fun (s : List (Option (List Nat))) (y : Int) => markS on s (s.length - 1 - y.toNat)) (cov.map some) = s at *
      obtain ⟨h1, M, h2, h3, h4⟩ := hI
      rw [show cov.length - ((List.range (cov.map some).length).map fun k : Nat => (k : Int)).length = 0 by simp] at h4
      rw [bS, lcG_fm (fun c => c) (by omega) fun c hc => by cases c <;> rfl, bS]
      rw [← h4]
      rfl
theorem v_contains {c x : List Nat} (h : c.length = x.length) : m_contains c x = some (isInZ c x) := by
  unfold m_contains
  rw [Option.bind_some]
  have aux : ∀ (c x : List Nat), c.length = x.length → isInZ c x = !((c.zip x).map fun p => ([p.1], [p.2])).any fun y => !(decide (y.1 = ([45] : List Nat))) && !(decide (y.1 = y.2)) := by
    intro c
    induction c with
    | nil => intro x _; rfl
    | cons a c ih =>
      intro x hx
      cases x with
      | nil => rfl
      | cons b x =>
        show ((a == 45 || a == b) && isInZ c x) = _
        rw [ih x (by simpa using hx), List.zip_cons_cons, List.map_cons, List.any_cons, Bool.not_or]
        congr 1
        simp only [List.cons.injEq, and_true]
        by_cases z : a = 45
        · simp [z]
        · by_cases z2 : a = b
          · simp [z2]
          · simp [z, z2]
  refine some_bind (fun y => !(decide (y.1 = ([45] : List Nat))) && !(decide (y.1 = y.2))) false (fun y hy => ?_) (fun z => ?_) fun z => ?_
  · rw [Option.bind_some]
    cases (!(decide (y.1 = ([45] : List Nat))) && !(decide (y.1 = y.2))) <;> rfl
  · rw [aux c x h, z]; rfl
  · rw [aux c x h, z]; rfl
theorem v_cover_contains {cs : List (List Nat)} {x : List Nat} (h : ∀ c ∈ cs, c.length = x.length) : m_cover_contains cs x = some (covered cs x) := by
  unfold m_cover_contains
  rw [Option.bind_some, anyO_eq (fun c => isInZ c x) cs fun c hc => v_contains (h c hc)]
  rfl
theorem v_implements {w : Nat} {cs on off : List (List Nat)} (h : ∀ c ∈ cs, c.length = w) (h1 : ∀ x ∈ on, x.length = w) (h2 : ∀ x ∈ off, x.length = w) : m_implements cs on off = some (allIn on cs && !(off.any fun x => covered cs x)) := by
  unfold m_implements
  rw [Option.bind_some, allO_eq (fun x => covered cs x) on fun x hx => v_cover_contains fun c hc => by rw [h c hc, h1 x hx]]
  simp only [bS]
  rw [anyO_eq (fun x => covered cs x) off fun x hx => v_cover_contains fun c hc => by rw [h c hc, h2 x hx]]
  simp only [bS]
  show (if (!(allIn on cs)) = true then some false else some (!(off.any fun x => covered cs x))) = _
  cases allIn on cs <;> rfl
theorem v_law (ns : List Int) : m_law ns = some true := by
  unfold m_law
  have c0 : m__law_cell ns 0 = some (cell ns 0) := v__law_cell ns 0
  have c1 : m__law_cell ns 1 = some (cell ns 1) := v__law_cell ns 1
  have c2 : m__law_cell ns 2 = some (cell ns 2) := v__law_cell ns 2
  have hd : m__law_draws (cell ns 2) 8 = some (draws (cell ns 2) 8) := by
    rw [show (8 : Int) = ((8 : Nat) : Int) from rfl]
    exact v__law_draws _ (by omega)
  obtain ⟨w, hw, ew⟩ : ∃ w : Nat, w < 7 ∧ cell ns 0 % 7 = w := ⟨(cell ns 0 % 7).toNat, by omega, by omega⟩
  obtain ⟨on, off, ef, F⟩ := v__law_function hw (cell ns 1)
  rw [c0, bS, ew, bS, c1, bS, ef, bS, c2, bS, hd, bS]
  dsimp only
  have len := draws_len (cell ns 2) 8
  have bnd := draws_bnd (cell ns 2) 8
  generalize draws (cell ns 2) 8 = ds at *
  obtain ⟨m, hm, em⟩ : ∃ m : Nat, m ≤ 4 ∧ ds.getD 4 0 % 5 = m := ⟨(ds.getD 4 0 % 5).toNat, by omega, by omega⟩
  have g4 : getI ds 4 = some (ds.getD 4 0) := getI_of (k := 4) 0 rfl (by omega)
  have g5 : getI ds 5 = some (ds.getD 5 0) := getI_of (k := 5) 0 rfl (by omega)
  have g6 : getI ds 6 = some (ds.getD 6 0) := getI_of (k := 6) 0 rfl (by omega)
  have g7 : getI ds 7 = some (ds.getD 7 0) := getI_of (k := 7) 0 rfl (by omega)
  have g0 : getI ds 0 = some (ds.getD 0 0) := getI_of (k := 0) 0 rfl (by omega)
  have g1 : getI ds 1 = some (ds.getD 1 0) := getI_of (k := 1) 0 rfl (by omega)
  rw [g4, bS, em, rngO_nat (by omega), bS]
  rw [lcG_map (fun y => cubeOf (ds.getD y.toNat 0 + 4096 * ds.getD (4 + y.toNat) 0) w) (by simp; omega) fun y hy => by
    obtain ⟨k, hk, rfl⟩ := mem_range_int hy
    have a1 : getI ds (k : Int) = some (ds.getD k 0) := getI_getD 0 (by omega)
    have a2 : getI ds (4 + (k : Int)) = some (ds.getD (4 + k) 0) := getI_of (k := 4 + k) 0 (by omega) (by omega)
    rw [a1, a2]
    simp only [bS, if_true, v__law_cube _ (show w ≤ 1000 by omega), Option.map_some]
    rfl]
  rw [bS, g5, bS, bS, g6, g7, g0, g1]
  obtain ⟨cs, hcs⟩ : ∃ cs, cs = ((List.range m).map fun k : Nat => (k : Int)).map (fun y => cubeOf (ds.getD y.toNat 0 + 4096 * ds.getD (4 + y.toNat) 0) w) := ⟨_, rfl⟩
  rw [← hcs]
  have hc : ∀ a ∈ cs, Cube a ∧ a.length = w := fun a ha => by
    rw [hcs] at ha
    obtain ⟨y, _, rfl⟩ := List.mem_map.mp ha
    exact ⟨cubeOf_cube w _, cubeOf_len _ _⟩
  have hl : cs.length ≤ 4 := by rw [hcs]; simpa using hm
  clear hcs
  have G := grown_on F
  have lon := F.lon
  have gl := G.len
  rw [(List.mergeSort_perm on leS).length_eq] at gl
  have cl : (compactF on off).length ≤ 128 := by have := trimF_len on (growF off (on.mergeSort leS)).length (growF off (on.mergeSort leS)); unfold compactF; omega
  have cc : ∀ a ∈ compactF on off, Cube a ∧ a.length = w := fun a ha => G.ok a (trimF_mem on _ _ a ha)
  rw [v__law_compact hw F, bS, bS, bS]
  generalize compactF on off = cf at *
  have key1 : ∃ cs' : List (List Nat), (if (decide (ds.getD 6 0 % 3 = 1) && decide ((0 : Int) < (cf.length : Int))) = true then (some (ds.getD 7 0)).bind fun x_t_6 => (modO x_t_6 (cf.length : Int)).bind fun x_at =>
      (catL (cut cf none (some x_at)) (cut cf (some (x_at + 1)) none)).bind fun x_cover_2 => some x_cover_2 else some cf) = some cs' ∧ (∀ a ∈ cs', Cube a ∧ a.length = w) ∧ cs'.length ≤ 128 := by
    by_cases q : (decide (ds.getD 6 0 % 3 = 1) && decide ((0 : Int) < (cf.length : Int))) = true
    · rw [if_pos q]
      rw [Bool.and_eq_true, decide_eq_true_iff, decide_eq_true_iff] at q
      obtain ⟨i, hi, ei⟩ : ∃ i : Nat, i < cf.length ∧ ds.getD 7 0 % (cf.length : Int) = i := by
        have h1 := Int.emod_nonneg (ds.getD 7 0) (show (cf.length : Int) ≠ 0 by omega)
        have h2 := Int.emod_lt_of_pos (ds.getD 7 0) q.2
        exact ⟨(ds.getD 7 0 % (cf.length : Int)).toNat, by omega, by omega⟩
      have e1 : ((i : Int) + 1) = ((i + 1 : Nat) : Int) := by omega
      have dl := dropAt_len cf i
      have e3 : catL (cf.take i) (cf.drop (i + 1)) = some (dropAt cf i) := catL_ok (by simp; omega)
      refine ⟨dropAt cf i, ?_, fun a ha => cc a (dropAt_mem ha), by omega⟩
      rw [bS, modO_ok q.2, ei, bS, e1, cut_to', cut_from', e3, bS]
    · rw [if_neg q]
      exact ⟨cf, rfl, cc, cl⟩
  obtain ⟨c1, e1, h1, l1⟩ := key1
  rw [e1, bS, bS, bS]
  have key2 : ∃ cs' : List (List Nat), (if decide (ds.getD 6 0 % 3 = 2) = true then (some (ds.getD 0 0)).bind fun x_t_10 => (some (ds.getD 1 0)).bind fun x_t_11 => (m__law_cube (x_t_10 + 4096 * x_t_11) (w : Int)).bind fun x_r_7 => (catL c1 [x_r_7]).bind fun x_cover_3 => some x_cover_3 else some c1) = some cs' ∧ (∀ a ∈ cs', Cube a ∧ a.length = w) ∧ cs'.length ≤ 129 := by
    by_cases q : decide (ds.getD 6 0 % 3 = 2) = true
    · rw [if_pos q, bS, bS, v__law_cube _ (show w ≤ 1000 by omega), bS, catL_ok (by simp; omega), bS]
      refine ⟨_, rfl, fun a ha => ?_, by simp; omega⟩
      rcases List.mem_append.mp ha with z | z
      · exact h1 a z
      · rw [List.mem_singleton.mp z]; exact ⟨cubeOf_cube w _, cubeOf_len _ _⟩
    · rw [if_neg q]
      exact ⟨c1, rfl, h1, by omega⟩
  obtain ⟨c2, e2, h2, l2⟩ := key2
  rw [e2, bS]
  have key3 : ∃ cs' : List (List Nat), (if decide (ds.getD 5 0 % 2 = 1) = true then some c2 else some cs) = some cs' ∧ (∀ a ∈ cs', Cube a ∧ a.length = w) ∧ cs'.length ≤ 129 := by
    split
    · exact ⟨c2, rfl, h2, l2⟩
    · exact ⟨cs, rfl, hc, by omega⟩
  obtain ⟨cv, e3, hv, lv⟩ := key3
  rw [e3, bS, v__law_codes (show w < 9 by omega), bS, bS]
  have hvl : ∀ c ∈ cv, c.length = w := fun c h => (hv c h).2
  refine none_bind (fun x hx => ?_) ?_
  · have xl := (mem_codes.mp hx).1
    rw [v_cover_contains (fun c hc => by rw [hvl c hc, xl]), bS, v__law_covered (fun c hc => by rw [hvl c hc, xl]) (by omega), bS, v__law_is_bool]
    simp
  · rw [Sum.elim_inl]
    have on1 : ∀ x ∈ on, x.length = w := fun x h => (F.ons x h).1
    have off1 : ∀ x ∈ off, x.length = w := fun x h => (F.offs x h).1
    have loff := F.loff
    rw [bS, lcG_filter (fun x => !(covered cv x)) (by omega) fun x hx => by
      rw [v__law_covered (fun c hc => by rw [hvl c hc, on1 x hx]) (by rw [on1 x hx]; omega), bS, bS]
      cases covered cv x <;> rfl]
    rw [bS, bS, bS]
    rw [lcG_filter (fun x => covered cv x) (by omega) fun x hx => by
      rw [v__law_covered (fun c hc => by rw [hvl c hc, off1 x hx]) (by rw [off1 x hx]; omega), bS]
      cases covered cv x <;> rfl]
    rw [bS, v_implements hvl on1 off1]
    have a1 : decide (((on.filter fun x => !(covered cv x)).length : Int) = 0) = allIn on cv := by
      rw [Bool.eq_iff_iff, decide_eq_true_iff]
      unfold allIn
      rw [List.all_eq_true]
      constructor
      · intro h x hx
        have : (on.filter fun x => !(covered cv x)) = [] := List.length_eq_zero_iff.mp (by omega)
        have := (List.filter_eq_nil_iff.mp this) x hx
        simpa using this
      · intro h
        have : (on.filter fun x => !(covered cv x)) = [] := List.filter_eq_nil_iff.mpr fun x hx => by simp [h x hx]
        rw [this]; rfl
    have a2 : decide (((off.filter fun x => covered cv x).length : Int) = 0) = !(off.any fun x => covered cv x) := by
      rw [Bool.eq_iff_iff, decide_eq_true_iff, Bool.not_eq_true', List.any_eq_false]
      constructor
      · intro h x hx
        have : (off.filter fun x => covered cv x) = [] := List.length_eq_zero_iff.mp (by omega)
        exact (List.filter_eq_nil_iff.mp this) x hx
      · intro h
        have : (off.filter fun x => covered cv x) = [] := List.filter_eq_nil_iff.mpr h
        rw [this]; rfl
    rw [a1, a2]
    cases allIn on cv
    · simp [v__law_is_bool, bS]
    · simp [v__law_is_bool, bS]
end K29

namespace K29
open PV
theorem ev_law (ns : List Int) (hl : ns.length ≤ 63) : C 5 i_law [.scr ns] = some (.bl true) := ok_law (n := 0) ns true (v_law ns)
end K29

set_option maxHeartbeats 0

namespace K29
open PySem PySem.Spec PyProof.Rows L2 PV
theorem rows_ok : (tbl.all fun r => rowC (tabT tbl []) r) = true := by decide +kernel
abbrev R : PySem.W.OpenRow := PySem.W.OpenLaw.row PySem.Challenge.rw_clockless_k29_implementing_covers
abbrev hk : PySem.W.Hook := He.hookX 4 (tabF tbl) (tabD tbl) [] (tabG tbl) (fun _ => true)
def ob (s : PySem.W.SharedT) : He.AlX := He.obsX 4 (tabF tbl) (tabD tbl) [] (tabG tbl) (fun _ => true) (HandSHeadRun.getT s)
theorem ob_eq (s : PySem.W.SharedT) : ob s = hk.obs s.abs := He.obsX_eq (HandSHeadRun.getT_eq s)
def loose : List PySem.Str := ["__name__", "contains", "cover_contains", "implements", "_law_cell", "_law_draws", "_law_is_bool", "_law_cube", "_law_code_of", "_law_codes", "_law_in", "_law_covered", "_law_function", "_law_avoids", "_law_with", "_law_expand", "_law_compact"]
theorem hrun (w : World) : HandSHeadRun.RunEq R (PySem.W.view R.prog [19]) hk ob 2600 loose w := by
  intro os
  kernel_rfl
end K29
open PySem PySem.W PySem.Calls PyProof.Rows
theorem PySem.Challenge.cw_clockless_k29_implementing_covers_holds : PySem.Challenge.rw_clockless_k29_implementing_covers.Holds := by
  w_on; o_law
  refine HandSHeadRun.head_any (r := OpenLaw.row PySem.Challenge.rw_clockless_k29_implementing_covers) (q := view (OpenLaw.row PySem.Challenge.rw_clockless_k29_implementing_covers).prog [19]) (H := K29.hk) (ob := K29.ob) (M := 2600) (loose := K29.loose) (d := HandSHeadRun.topDef (OpenLaw.row PySem.Challenge.rw_clockless_k29_implementing_covers).prog 19) (kwd := []) K29.ob_eq
    (by kernel_rfl) (fun s => by kernel_rfl) K29.hrun (by kernel_rfl) (by kernel_rfl) (by kernel_rfl) (by rfl) (by first | assumption | decide +kernel) (by decide +kernel) ⟨rfl, rfl, rfl, rfl, rfl, by decide +kernel⟩ ?hw ?hc
  case hw => w_witness2
  case hc =>
    refine LamX.walk_ofTsE (l := PySem.Challenge.rw_clockless_k29_implementing_covers) (n := 63) (k := 2 * 5) (x := "_law_script") (CX := fun _ => L2.CX0) rfl (by decide) (by kernel_rfl) ⟨rfl, by decide, by decide⟩ ?F (fun _ _ _ _ _ z => z)
    intro w mg fa h Y G hmg0
    have hmg : mg ("law" : PySem.Str) = some (.ref fa) := by
      have e : (HandSHeadRun.topDef (OpenLaw.row PySem.Challenge.rw_clockless_k29_implementing_covers).prog 19).name = ("law" : PySem.Str) := by kernel_rfl
      rw [← e]
      exact hmg0
    exact PV.law_F (tbl := K29.tbl) (i := K29.i_law) (n := 5) rfl rfl rfl K29.rows_ok (fun ns hl => K29.ev_law ns hl) w mg fa h Y G hmg
