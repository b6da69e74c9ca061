import PyProof.Rows.All
import Wide.All
import OpenK.AllK
import Wide.FinOn
import HandS.ForMost
import HandS.Wide
import HandS.Gcd
import HandS.Flow
import HandS.ForExc
import HandS.MakeKw
import HandS.TupAny
import HandS.IsInst
import HandS.DeepEq
import HandS.More
import HandS.Conv
import HandS.Small
import HandS.WordsDict
import HandS.NoneIn
import HandS.Style
import HandS.Ends
import HandS.EndBits
import HandS.HeadHook2
import HandS.Codes
import HandS.Head0
import HandS.Head1
import HandS.Head2
import HandS.HeadEnd
import Open.Row
import KE.KStateDown
import Lean
import PySem.Challenge.RW_growthpapers_k90_classes_made_by_hand
set_option Elab.async false
set_option linter.all false
set_option maxRecDepth 100000
set_option autoImplicit false
set_option autoImplicit true
set_option maxHeartbeats 4000000
/-! Mini: a small evaluator of the Python that stands in the package and the laws: its syntax, its values, its runs. Plain Lean. -/
namespace Mini
open PySem L2

/-- values: tuples by value, lists, dicts, instances by number in the store, defs and classes by number in the program -/
inductive AV where
  | non | bl (b : Bool) | int (i : Int) | str (x : Str) | ty (n : String)
  | tup (xs : List AV)
  | ref (k : Nat)
  | glo (g : Nat)
/-- objects of the store -/
inductive AO where
  | lst (xs : List AV)
  | rls (xs : List AV)
  | dct (kvs : List (Str × AV))
  | ins (c : Nat) (fs : List (Str × AV))
abbrev AH := List AO
/-- a result: a value; an exception of the program's own class c with its fields; what is not carried -/
inductive R (α : Type) where
  | ok (a : α) (h : AH)
  | exc (c : Nat) (fs : List (Str × AV)) (h : AH)
  | bad
def R.bind {α β : Type} (r : R α) (f : α → AH → R β) : R β := match r with
  | .ok a h => f a h
  | .exc c fs h => .exc c fs h
  | .bad => .bad
inductive Bop where
  | add | sub | mul | fdiv | mod | pow | shl | shr | band | bor | bxor
inductive Cop where
  | eq | ne | lt | le | gt | ge | is | isnot | in_ | notin
/-- built-in functions -/
inductive Bi where
  | len | abs | min2 | max2 | repr | isinst | tuple | list | int | all | any | gcd | bitlen
/-- methods of built-in types -/
inductive Bm where
  | append | bitlen
mutual
inductive ME where
  | var (i : Nat)
  | int (i : Int) | str (x : Str) | bl (b : Bool) | non
  | glo (g : Nat)
  | ty (n : String)
  | bop (o : Bop) (a b : ME)
  | neg (a : ME)
  | cmp (o : Cop) (a b : ME)
  | cmp2 (o o' : Cop) (a b c : ME)
  | and_ (a b : ME) | or_ (a b : ME) | not_ (a : ME)
  | ite (c a b : ME)
  | tup (es : MEs) | lst (es : MEs) | dct (ks : List Str) (vs : MEs)
  | idx (a b : ME)
  | fld (a : ME) (f : Str)
  | call (g : Nat) (es : MEs)
  | callk (g : Nat) (es : MEs) (ks : List Str) (vs : MEs)
  | bi (b : Bi) (es : MEs)
  | met (m : Bm) (o : ME) (es : MEs)
  | comp (t : MT) (src : MI) (elt : ME) (own : List Nat)
inductive MEs where
  | nil | cons (e : ME) (es : MEs)
/-- what is walked -/
inductive MI where
  | seq (e : ME) | range (e : ME)
/-- targets -/
inductive MT where
  | name (i : Nat) | tup (is : List Nat)
end
mutual
inductive MS where
  | set (i : Nat) (e : ME)
  | par (i j : Nat) (a b : ME)
  | par3 (i j k : Nat) (a b c : ME)
  | unp (is : List Nat) (e : ME)
  | setI (o i e : ME)
  | setF (o : ME) (f : Str) (e : ME)
  | ex (e : ME)
  | ret (e : ME) | retN
  | if_ (c : ME) (a b : MSs)
  | for_ (t : MT) (src : MI) (body : MSs)
  | brk | cnt | pass
inductive MSs where
  | nil | cons (s : MS) (r : MSs)
end
/-- a def: how many parameters, how many slots, its body -/
structure MDef where
  np : Nat
  params : List Str
  ns : Nat
  body : MSs
/-- a class: its __init__, its __eq__, its __ne__ (defs by number) -/
structure MCls where
  init : Nat
  eq : Option Nat
  ne : Option Nat
inductive MG where
  | def_ (d : MDef)
  | cls (c : MCls)
  | val (v : AV)
abbrev Prog := Nat → Option MG

/-! ### values -/
def optAll {α β : Type} (f : α → Option β) : List α → Option (List β)
  | [] => some []
  | x :: xs => match f x, optAll f xs with
    | some d, some ds => some (d :: ds)
    | _, _ => none
/-- data: what is nested of None, bools, ints, texts, tuples, lists -/
def toPy (h : AH) : Nat → AV → Option PyData
  | _, .non => some .none
  | _, .bl b => some (.bool b)
  | _, .int i => some (.int i)
  | _, .str x => some (.str x)
  | n + 1, .tup xs => (optAll (toPy h n) xs).map .tuple
  | n + 1, .ref k => match h[k]? with
    | some (.lst xs) => (optAll (toPy h n) xs).map .list
    | some (.rls xs) => (optAll (toPy h n) xs).map .list
    | _ => none
  | _, _ => none
/-- data, with dicts in it -/
def toPyD (h : AH) : Nat → AV → Option PyData
  | _, .non => some .none
  | _, .bl b => some (.bool b)
  | _, .int i => some (.int i)
  | _, .str x => some (.str x)
  | n + 1, .tup xs => (optAll (toPyD h n) xs).map .tuple
  | n + 1, .ref k => match h[k]? with
    | some (.lst xs) => (optAll (toPyD h n) xs).map .list
    | some (.rls xs) => (optAll (toPyD h n) xs).map .list
    | some (.dct kvs) => (optAll (fun p : Str × AV => (toPyD h n p.2).map fun d => (PyData.str p.1, d)) kvs).map .dict
    | _ => none
  | _, _ => none
/-- the items of a list or tuple -/
def seqOf (h : AH) : AV → Option (List AV)
  | .tup xs => some xs
  | .ref k => match h[k]? with
    | some (.lst xs) => some xs
    | some (.rls xs) => some xs
    | _ => none
  | _ => none
/-- whether an int may be multiplied by another -/
def mulOk (i j : Int) : Bool := decide (i.natAbs.log2 + j.natAbs.log2 < 900000)
def bopI : Bop → Int → Int → Option Int
  | .add, i, j => some (i + j)
  | .sub, i, j => some (i - j)
  | .mul, i, j => if mulOk i j then some (i * j) else none
  | .fdiv, i, j => if decide (j ≠ 0) && decide (j.natAbs.log2 < 9000) then some (i.fdiv j) else none
  | .mod, i, j => if decide (j ≠ 0) then some (i.fmod j) else none
  | .pow, i, j => if decide (0 ≤ j) && decide (j ≤ 1000000) && decide (i.natAbs < 2 ^ 64) then some (i ^ j.toNat) else none
  | .shl, i, j => if decide (0 ≤ j) && decide (j ≤ 1000000) && decide (i.natAbs < 2 ^ 64) then some (i * 2 ^ j.toNat) else none
  | .shr, i, j => if decide (0 ≤ j) then some (i / 2 ^ j.toNat) else none
  | .band, i, j => some (Builtin.bitAnd i j)
  | .bor, i, j => some (Builtin.bitOr i j)
  | .bxor, i, j => some (Builtin.bitXor i j)
/-- what raises nothing -/
abbrev O (α : Type) := Option (α × AH)
def R.of {α : Type} : O α → R α
  | some (a, h) => .ok a h
  | none => .bad
def bopA (o : Bop) (x y : AV) (h : AH) : O AV := match x, y with
  | .int i, .int j => (bopI o i j).map fun k => (.int k, h)
  | .ref a, .ref b => match o, h[a]?, h[b]? with
    | .add, some (.lst xs), some (.lst ys) => if xs.length + ys.length ≤ sizeLine then some (.ref h.length, h ++ [.lst (xs ++ ys)]) else none
    | _, _, _ => none
  | _, _ => none
def cmpI : Cop → Int → Int → Option Bool
  | .lt, i, j => some (decide (i < j))
  | .le, i, j => some (decide (i ≤ j))
  | .gt, i, j => some (decide (j < i))
  | .ge, i, j => some (decide (j ≤ i))
  | .eq, i, j => some (decide (i = j))
  | .ne, i, j => some (!decide (i = j))
  | _, _, _ => none
def isNon : AV → Bool
  | .non => true
  | _ => false
/-- == of data -/
def eqPy (h : AH) (x y : AV) : Option Bool := match toPy h 60 x, toPy h 60 y with
  | some d, some e => if SeqAt.shaped d && SeqAt.shaped e then some (PyData.eqv d e) else none
  | _, _ => none
def all2 {α : Type} (f : α → α → Bool) : List α → List α → Bool
  | [], [] => true
  | x :: xs, y :: ys => f x y && all2 f xs ys
  | _, _ => false
/-- the same, by what they hold down to the same objects -/
def sameA : Nat → AV → AV → Bool
  | n + 1, .tup xs, .tup ys => all2 (sameA n) xs ys
  | _ + 1, .non, .non => true
  | _ + 1, .bl a, .bl b => decide (a = b)
  | _ + 1, .int a, .int b => decide (a = b)
  | _ + 1, .str a, .str b => decide (a = b)
  | _ + 1, .ref a, .ref b => decide (a = b)
  | _, _, _ => false
def noTy : AV → Bool
  | .ty _ => false
  | _ => true
def nodupB : List Str → Bool
  | [] => true
  | x :: r => !r.contains x && nodupB r
/-- == that is true for it is the same: tuples, a dict itself -/
def topSame (h : AH) : AV → AV → Bool
  | .tup xs, .tup ys => all2 (sameA 20) xs ys
  | .ref a, .ref b => decide (a = b) && (match h[a]? with
    | some (.dct kvs) => nodupB (kvs.map (·.1)) && kvs.all (fun q => noTy q.2)
    | _ => false)
  | _, _ => false
def eqStr : AV → AV → Option Bool
  | .str a, .str b => some (decide (a = b))
  | _, _ => none
def eqTop (h : AH) (x y : AV) : Option Bool := match eqStr x y with
  | some b => some b
  | none => if topSame h x y = true then some true else eqPy h x y
def neTop (h : AH) (x y : AV) : Option Bool := match eqStr x y with
  | some b => some b
  | none => eqPy h x y
/-- the class of an instance -/
def insOf (h : AH) : AV → Option Nat
  | .ref k => match h[k]? with
    | some (.ins c _) => some c
    | _ => none
  | _ => none
section
variable (P : Prog) (cal : Nat → List AV → AH → R AV)
def clsAt (g : Nat) : Option MCls := match P g with
  | some (.cls c) => some c
  | _ => none
def tnames : List String := ["NoneType", "bool", "int", "str", "tuple", "list", "dict"]
/-- a class: a built-in one, one of the program -/
inductive TD where
  | b (T : String) | c (g : Nat)
/-- the class of a value -/
def tdOf (h : AH) : AV → Option TD
  | .non => some (.b "NoneType") | .bl _ => some (.b "bool") | .int _ => some (.b "int") | .str _ => some (.b "str") | .tup _ => some (.b "tuple")
  | .ref k => match h[k]? with
    | some (.lst _) => some (.b "list")
    | some (.rls _) => some (.b "list")
    | some (.dct _) => some (.b "dict")
    | some (.ins c _) => some (.c c)
    | none => none
  | _ => none
/-- a class as a value -/
def tdC : AV → Option TD
  | .ty U => some (.b U)
  | .glo g => some (.c g)
  | _ => none
def isTy (T U : String) : Bool := decide (T = U) || (decide (T = "bool") && decide (U = "int"))
def isCls (g : Nat) : Bool := (clsAt P g).isSome
/-- whether one class is under another one -/
def isTD : TD → TD → Option Bool
  | .b T, .b U => if tnames.contains T && tnames.contains U then some (isTy T U) else none
  | .c g, .c k => if isCls P g && isCls P k then some (decide (g = k)) else none
  | .c g, .b U => if isCls P g && tnames.contains U then some false else none
  | .b T, .c g => if isCls P g && tnames.contains T then some false else none
def isInst1 (h : AH) (x c : AV) : Option Bool := match tdOf h x, tdC c with
  | some t, some u => isTD P t u
  | _, _ => none
def isInsts (h : AH) (x : AV) : List AV → Option Bool
  | [] => none
  | [c] => isInst1 P h x c
  | c :: cs => match isInst1 P h x c, isInsts h x cs with
    | some a, some b => some (a || b)
    | _, _ => none
def R.val {α : Type} : R α → O α
  | .ok a h => some (a, h)
  | _ => none
/-- an own == or != -/
def ownA (f : MCls → Option Nat) (x y : AV) (h : AH) : Option (O AV) := (insOf h x).map fun c => match (clsAt P c).bind f, tdOf h y with
  | some g, some t => if (isTD P t t).isSome then (cal g [x, y] h).val else none
  | _, _ => none
def cmpA (o : Cop) (x y : AV) (h : AH) : O AV := match x, y with
  | .int i, .int j => (cmpI o i j).map fun b => (.bl b, h)
  | x, y => match o with
    | .is => if isNon y then some (.bl (isNon x), h) else none
    | .isnot => if isNon y then some (.bl (!isNon x), h) else none
    | .eq => match ownA P cal (·.eq) x y h with
      | some r => r
      | none => (eqTop h x y).map fun b => (.bl b, h)
    | .ne => match ownA P cal (·.ne) x y h with
      | some r => r
      | none => (neTop h x y).map fun b => (.bl (!b), h)
    | _ => none
def boolsOf : List AV → Option (List Bool)
  | [] => some []
  | .bl b :: r => (boolsOf r).map (b :: ·)
  | _ => none
def biLen (vs : List AV) (h : AH) : O AV := match vs with
  | [x] => (seqOf h x).map fun xs => (.int xs.length, h)
  | _ => none
def biAbs (vs : List AV) (h : AH) : O AV := match vs with
  | [.int i] => some (.int (if i < 0 then -i else i), h)
  | _ => none
def biMin (vs : List AV) (h : AH) : O AV := match vs with
  | [.int i, .int j] => some (.int (if j < i then j else i), h)
  | _ => none
def biMax (vs : List AV) (h : AH) : O AV := match vs with
  | [.int i, .int j] => some (.int (if j > i then j else i), h)
  | _ => none
def biGcd (vs : List AV) (h : AH) : O AV := match vs with
  | [.int i, .int j] => some (.int (Nat.gcd i.natAbs j.natAbs : Nat), h)
  | _ => none
def biInt (vs : List AV) (h : AH) : O AV := match vs with
  | [.int i] => some (.int i, h)
  | [.bl k] => some (.int (if k then 1 else 0), h)
  | _ => none
def showOk (d : PyData) : Bool := d.showable && decide (d.shown.length ≤ sizeLine) && decide (d.depth ≤ 64)
def biRepr (vs : List AV) (h : AH) : O AV := match vs with
  | [x] => match toPyD h 60 x with
    | some d => if showOk d then some (.str d.shown, h) else none
    | none => none
  | _ => none
def biIsinst (vs : List AV) (h : AH) : O AV := match vs with
  | [x, .tup cs] => (isInsts P h x cs).map fun b => (.bl b, h)
  | [x, c] => (isInst1 P h x c).map fun b => (.bl b, h)
  | _ => none
def biTuple (vs : List AV) (h : AH) : O AV := match vs with
  | [x] => (seqOf h x).map fun xs => (.tup xs, h)
  | _ => none
def biList (vs : List AV) (h : AH) : O AV := match vs with
  | [x] => (seqOf h x).map fun xs => (.ref h.length, h ++ [.lst xs])
  | _ => none
def biAll (vs : List AV) (h : AH) : O AV := match vs with
  | [.ref k] => ((seqOf h (.ref k)).bind boolsOf).map fun bs => (.bl (bs.all id), h)
  | _ => none
def biAny (vs : List AV) (h : AH) : O AV := match vs with
  | [.ref k] => ((seqOf h (.ref k)).bind boolsOf).map fun bs => (.bl (bs.any id), h)
  | _ => none
def biA (b : Bi) (vs : List AV) (h : AH) : O AV := match b with
  | .len => biLen vs h
  | .abs => biAbs vs h
  | .min2 => biMin vs h
  | .max2 => biMax vs h
  | .gcd => biGcd vs h
  | .int => biInt vs h
  | .repr => biRepr vs h
  | .isinst => biIsinst P vs h
  | .tuple => biTuple vs h
  | .list => biList vs h
  | .all => biAll vs h
  | .any => biAny vs h
  | .bitlen => none
def metAppend (x : AV) (vs : List AV) (h : AH) : O AV := match x, vs with
  | .ref k, [y] => match h[k]? with
    | some (.lst xs) => if xs.length < sizeLine then some (.non, h.set k (.lst (xs ++ [y]))) else none
    | _ => none
  | _, _ => none
def metA (m : Bm) (x : AV) (vs : List AV) (h : AH) : O AV := match m with
  | .append => metAppend x vs h
  | .bitlen => none
def idxD (k : Nat) (z : Str) (h : AH) : O AV := match h[k]? with
  | some (.dct kvs) => (kvs.lookup z).map fun v => (v, h)
  | _ => none
def idxS (x : AV) (i : Int) (h : AH) : O AV := match seqOf h x with
  | some xs => (atI xs i).map fun v => (v, h)
  | none => none
def idxA (x y : AV) (h : AH) : O AV := match y with
  | .str z => match x with
    | .ref k => idxD k z h
    | _ => none
  | .int i => idxS x i h
  | _ => none
/-- a dict's key stored -/
def putA (kvs : List (Str × AV)) (z : Str) (v : AV) : List (Str × AV) :=
  if (kvs.any fun kv => decide (kv.1 = z)) = true then kvs.map (fun kv => if kv.1 = z then (kv.1, v) else kv) else kvs ++ [(z, v)]
/-- a field stored -/
def putFA (z : Str) (v : AV) : List (Str × AV) → List (Str × AV)
  | [] => [(z, v)]
  | (y, u) :: r => if y = z then (y, v) :: r else (y, u) :: putFA z v r
def setIA (x y v : AV) (h : AH) : O Unit := match x, y with
  | .ref k, .str z => match h[k]? with
    | some (.dct kvs) => if kvs.length < 1000 then some ((), (h.set k (.dct (putA kvs z v)))) else none
    | _ => none
  | _, _ => none
def fldA (x : AV) (f : Str) (h : AH) : O AV := match x with
  | .ref k => match h[k]? with
    | some (.ins c fs) => match fs.lookup f with
      | some v => if isCls P c then some (v, h) else none
      | none => none
    | _ => none
  | _ => none
def setFA (x : AV) (f : Str) (v : AV) (h : AH) : O Unit := match x with
  | .ref k => match h[k]? with
    | some (.ins c fs) => if fs.length < 900 ∧ isCls P c = true then some ((), (h.set k (.ins c (putFA f v fs)))) else none
    | _ => none
  | _ => none
/-- a call of a def, of a class -/
def callG (g : Nat) (vs : List AV) (h : AH) : R AV := match P g with
  | some (.def_ _) => cal g vs h
  | some (.cls c) => match cal c.init (.ref h.length :: vs) (h ++ [.ins g []]) with
    | .ok .non h' => .ok (.ref h.length) h'
    | .ok _ _ => .bad
    | .exc c fs h' => .exc c fs h'
    | .bad => .bad
  | _ => .bad
def dctOf : List Str → List AV → Option (List (Str × AV))
  | [], [] => some []
  | k :: ks, v :: vs => (dctOf ks vs).map ((k, v) :: ·)
  | _, _ => none
/-! ### runs -/
abbrev Sg := List (Option AV)
def getS (σ : Sg) (i : Nat) : Option AV := match σ[i]? with
  | some (some v) => some v
  | _ => none
inductive RS where
  | nx (σ : Sg) (h : AH)
  | rt (v : AV) (h : AH)
  | bk (σ : Sg) (h : AH)
  | ct (σ : Sg) (h : AH)
  | exc (c : Nat) (fs : List (Str × AV)) (σ : Sg) (h : AH)
  | bad
def R.stm {α : Type} (r : R α) (σ : Sg) (f : α → AH → RS) : RS := match r with
  | .ok a h => f a h
  | .exc c fs h => .exc c fs σ h
  | .bad => .bad
def setMany : Sg → List Nat → List AV → Option Sg
  | σ, [], [] => some σ
  | σ, i :: is, v :: vs => setMany (σ.set i (some v)) is vs
  | _, _, _ => none
def putT (σ : Sg) (h : AH) : MT → AV → Option Sg
  | .name i, v => some (σ.set i (some v))
  | .tup is, .tup vs => setMany σ is vs
  | .tup _, _ => none
/-- a walk over a tuple's items -/
def walkT (f : AV → Sg → AH → RS) : List AV → Sg → AH → RS
  | [], σ, h => .nx σ h
  | x :: xs, σ, h => match f x σ h with
    | .nx σ' h' => walkT f xs σ' h'
    | .ct σ' h' => walkT f xs σ' h'
    | .bk σ' h' => .nx σ' h'
    | r => r
/-- a walk over the list at k, from its item i on, n turns at most -/
def walkL (f : AV → Sg → AH → RS) (k : Nat) : Nat → Nat → Sg → AH → RS
  | 0, i, σ, h => match seqOf h (.ref k) with
    | some xs => if xs.length ≤ i then .nx σ h else .bad
    | none => .bad
  | n + 1, i, σ, h => match seqOf h (.ref k) with
    | some xs => match xs[i]? with
      | none => .nx σ h
      | some x => match f x σ h with
        | .nx σ' h' => walkL f k n (i + 1) σ' h'
        | .ct σ' h' => walkL f k n (i + 1) σ' h'
        | .bk σ' h' => .nx σ' h'
        | r => r
    | none => .bad
def intsTo : Nat → List AV
  | 0 => []
  | n + 1 => intsTo n ++ [.int n]
/-- a walk over range(n) from i on -/
def walkR (f : AV → Sg → AH → RS) : Nat → Int → Sg → AH → RS
  | 0, _, σ, h => .nx σ h
  | n + 1, i, σ, h => match f (.int i) σ h with
    | .nx σ' h' => walkR f n (i + 1) σ' h'
    | .ct σ' h' => walkR f n (i + 1) σ' h'
    | .bk σ' h' => .nx σ' h'
    | r => r
inductive MIt where
  | tup (xs : List AV) | lst (k : Nat) | rng (n : Nat)
def walkI (f : AV → Sg → AH → RS) (it : MIt) (σ : Sg) (h : AH) : RS := match it with
  | .tup xs => walkT f xs σ h
  | .lst k => match seqOf h (.ref k) with
    | some xs => walkL f k xs.length 0 σ h
    | none => .bad
  | .rng n => walkR f n 0 σ h
def itOf (h : AH) : AV → Option MIt
  | .tup xs => some (.tup xs)
  | .ref k => if (seqOf h (.ref k)).isSome then some (.lst k) else none
  | _ => none
def wipeS (σ : Sg) : List Nat → Sg
  | [] => σ
  | i :: is => (wipeS σ is).set i none
/-- one turn of a comprehension whose list is at D: its σ is told anew each turn -/
def compTurn (D : Nat) (own : List Nat) (t : MT) (elt : Sg → AH → R AV) (x : AV) (σ : Sg) (h : AH) : RS := match putT (wipeS σ own) h t x with
  | none => .bad
  | some σ1 => match elt σ1 h with
    | .ok y h1 => match h1[D]? with
      | some (.lst acc) => if acc.length < sizeLine then .nx σ (h1.set D (.lst (acc ++ [y]))) else .bad
      | _ => .bad
    | _ => .bad
def findK {α : Type} (k : Str) : List Str → List α → Option α
  | y :: ys, v :: vs => if y = k then some v else findK k ys vs
  | _, _ => none
/-- the arguments of a call by place and by name, in the parameters' order -/
def bindK {α : Type} (ps : List Str) (vs : List α) (ks : List Str) (kvs : List α) : Option (List α) :=
  if vs.length + ks.length = ps.length ∧ ks.length = kvs.length then (optAll (fun p => findK p ks kvs) (ps.drop vs.length)).map (vs ++ ·) else none
/-- the names of a call: none twice, each a parameter that no place serves -/
def kwOk (ps : List Str) (n : Nat) (ks : List Str) : Bool := nodupB ks && ks.all fun k => (ps.drop n).contains k
def paramsOf (g : Nat) : Option (List Str) := match P g with
  | some (.def_ d) => some d.params
  | some (.cls c) => match P c.init with
    | some (.def_ d) => some (d.params.drop 1)
    | _ => none
  | _ => none
/-- a call by place alone -/
def callP (g : Nat) (vs : List AV) (h : AH) : R AV := match paramsOf P g with
  | some ps => if vs.length = ps.length then callG P cal g vs h else .bad
  | none => .bad
/-- a call by place and by name -/
def callKw (g : Nat) (ks : List Str) (vs kvs : List AV) (h : AH) : R AV := match paramsOf P g with
  | some ps => match bindK ps vs ks kvs with
    | some us => if kwOk ps vs.length ks = true then callG P cal g us h else .bad
    | none => .bad
  | none => .bad
/-- the receiver's class -/
def metTy (m : Bm) (x : AV) (h : AH) : Bool := match m, x with
  | .append, .ref k => (seqOf h (.ref k)).isSome
  | _, _ => false
def kMet (m : Bm) (f : AH → R (List AV)) (x : AV) (h : AH) : R AV := if metTy m x h then (f h).bind fun vs h2 => .of (metA m x vs h2) else .bad
def kNeg (x : AV) (h : AH) : R AV := match x with
  | .int i => .ok (.int (-i)) h
  | _ => .bad
def kNot (x : AV) (h : AH) : R AV := match x with
  | .bl b => .ok (.bl (!b)) h
  | _ => .bad
def kAnd (f : AH → R AV) (x : AV) (h : AH) : R AV := match x with
  | .bl true => f h
  | .bl false => .ok (.bl false) h
  | _ => .bad
def kOr (f : AH → R AV) (x : AV) (h : AH) : R AV := match x with
  | .bl true => .ok (.bl true) h
  | .bl false => f h
  | _ => .bad
def kIte (f g : AH → R AV) (x : AV) (h : AH) : R AV := match x with
  | .bl true => f h
  | .bl false => g h
  | _ => .bad
def kTup (vs : List AV) (h : AH) : R AV := if vs.length ≤ sizeLine then .ok (.tup vs) h else .bad
def kLst (vs : List AV) (h : AH) : R AV := if vs.length ≤ sizeLine then .ok (.ref h.length) (h ++ [.lst vs]) else .bad
/-- the pairs of a display stored in the dict at k -/
def kDct (k : Nat) (ks : List Str) (vs : List AV) (h : AH) : R AV := match h[k]?, dctOf ks vs with
  | some (.dct []), some kvs => if kvs.length ≤ 15 ∧ nodupB ks = true then .ok (.ref k) (h.set k (.dct kvs)) else .bad
  | _, _ => .bad
def kRange (x : AV) (h : AH) : R MIt := match x with
  | .int i => if -(2 ^ 62) ≤ i ∧ i < 2 ^ 62 then .ok (.rng i.toNat) h else .bad
  | _ => .bad
def kSeq (x : AV) (h : AH) : R MIt := match itOf h x with
  | some it => .ok it h
  | none => .bad
/-- behind a comprehension's walk -/
def kComp (k : Nat) : RS → R AV
  | .nx _ h => .ok (.ref k) h
  | _ => .bad
def kIf (f g : AH → RS) (x : AV) (h : AH) : RS := match x with
  | .bl true => f h
  | .bl false => g h
  | _ => .bad
def kUnp (σ : Sg) (is : List Nat) (v : AV) (h : AH) : RS := match seqOf h v with
  | some xs => match setMany σ is xs with
    | some σ' => .nx σ' h
    | none => .bad
  | none => .bad
def kTurn (t : MT) (f : Sg → AH → RS) (x : AV) (σ : Sg) (h : AH) : RS := match putT σ h t x with
  | some σ' => f σ' h
  | none => .bad
def kSeqS (f : Sg → AH → RS) : RS → RS
  | .nx σ h => f σ h
  | q => q
mutual
def evE (e : ME) (σ : Sg) (h : AH) : R AV := match e with
  | .var i => match getS σ i with
    | some v => .ok v h
    | none => .bad
  | .int i => .ok (.int i) h
  | .str x => .ok (.str x) h
  | .bl b => .ok (.bl b) h
  | .non => .ok .non h
  | .glo g => match P g with
    | some (.val v) => .ok v h
    | some _ => .ok (.glo g) h
    | none => .bad
  | .ty n => .ok (.ty n) h
  | .bop o a b => (evE a σ h).bind fun x h1 => (evE b σ h1).bind fun y h2 => .of (bopA o x y h2)
  | .neg a => (evE a σ h).bind kNeg
  | .cmp o a b => (evE a σ h).bind fun x h1 => (evE b σ h1).bind fun y h2 => .of (cmpA P cal o x y h2)
  | .cmp2 o o' a b c => (evE a σ h).bind fun x h1 => (evE b σ h1).bind fun y h2 => (R.of (cmpA P cal o x y h2)).bind (kAnd fun h3 => (evE c σ h3).bind fun w h4 => .of (cmpA P cal o' y w h4))
  | .and_ a b => (evE a σ h).bind (kAnd (evE b σ))
  | .or_ a b => (evE a σ h).bind (kOr (evE b σ))
  | .not_ a => (evE a σ h).bind kNot
  | .ite c a b => (evE c σ h).bind (kIte (evE a σ) (evE b σ))
  | .tup es => (evEs es σ h).bind kTup
  | .lst es => (evEs es σ h).bind kLst
  | .dct ks es => (evEs es σ (h ++ [.dct []])).bind (kDct h.length ks)
  | .idx a b => (evE a σ h).bind fun x h1 => (evE b σ h1).bind fun y h2 => .of (idxA x y h2)
  | .fld a f => (evE a σ h).bind fun x h1 => .of (fldA P x f h1)
  | .call g es => (evEs es σ h).bind (callP P cal g)
  | .callk g es ks kes => (evEs es σ h).bind fun vs h1 => (evEs kes σ h1).bind fun kvs h2 => callKw P cal g ks vs kvs h2
  | .bi b es => (evEs es σ h).bind fun vs h1 => .of (biA P b vs h1)
  | .met m o es => (evE o σ h).bind (kMet m (evEs es σ))
  | .comp t src elt own => (evI src σ h).bind fun it h1 => kComp h1.length (walkI (compTurn h1.length own t (evE elt)) it σ (h1 ++ [.lst []]))
def evEs (es : MEs) (σ : Sg) (h : AH) : R (List AV) := match es with
  | .nil => .ok [] h
  | .cons e es => (evE e σ h).bind fun v h1 => (evEs es σ h1).bind fun vs h2 => .ok (v :: vs) h2
def evI (i : MI) (σ : Sg) (h : AH) : R MIt := match i with
  | .seq e => (evE e σ h).bind kSeq
  | .range e => (evE e σ h).bind kRange
end
mutual
def evS (s : MS) (σ : Sg) (h : AH) : RS := match s with
  | .set i e => (evE P cal e σ h).stm σ fun v h1 => .nx (σ.set i (some v)) h1
  | .par i j a b => (evE P cal a σ h).stm σ fun x h1 => (evE P cal b σ h1).stm σ fun y h2 => .nx ((σ.set i (some x)).set j (some y)) h2
  | .par3 i j k a b c => (evE P cal a σ h).stm σ fun x h1 => (evE P cal b σ h1).stm σ fun y h2 => (evE P cal c σ h2).stm σ fun z h3 => .nx (((σ.set i (some x)).set j (some y)).set k (some z)) h3
  | .unp is e => (evE P cal e σ h).stm σ (kUnp σ is)
  | .setI o i e => (evE P cal e σ h).stm σ fun v h1 => (evE P cal o σ h1).stm σ fun x h2 => (evE P cal i σ h2).stm σ fun y h3 => (R.of (setIA x y v h3)).stm σ fun _ h4 => .nx σ h4
  | .setF o f e => (evE P cal e σ h).stm σ fun v h1 => (evE P cal o σ h1).stm σ fun x h2 => (R.of (setFA P x f v h2)).stm σ fun _ h3 => .nx σ h3
  | .ex e => (evE P cal e σ h).stm σ fun _ h1 => .nx σ h1
  | .ret e => (evE P cal e σ h).stm σ fun v h1 => .rt v h1
  | .retN => .rt .non h
  | .if_ c a b => (evE P cal c σ h).stm σ (kIf (evSs a σ) (evSs b σ))
  | .for_ t src body => (evI P cal src σ h).stm σ fun it h1 => walkI (kTurn t (evSs body)) it σ h1
  | .brk => .bk σ h
  | .cnt => .ct σ h
  | .pass => .nx σ h
def evSs (ss : MSs) (σ : Sg) (h : AH) : RS := match ss with
  | .nil => .nx σ h
  | .cons s r => kSeqS (evSs r) (evS s σ h)
end
end
/-- the run of def g, n calls deep at most -/
def calA (P : Prog) : Nat → Nat → List AV → AH → R AV
  | 0, _, _, _ => .bad
  | n + 1, g, vs, h => match P g with
    | some (.def_ d) => if vs.length = d.np then (match evSs P (calA P n) d.body (vs.map some ++ List.replicate (d.ns - d.np) none) h with
      | .nx _ h' => .ok .non h'
      | .rt v h' => .ok v h'
      | .exc c fs _ h' => .exc c fs h'
      | _ => .bad) else .bad
    | _ => .bad
end Mini
set_option autoImplicit true
set_option maxHeartbeats 4000000
/-! Mini, second part: how its values and its store stand in the layer's values and heap. -/
namespace Mini
open PySem PySem.Spec L2

/-- what is fixed: the written part, where the program's defs and classes stand -/
structure Gr where
  K : PySem.W.Frag
  ad : Nat → Addr

/-- a tuple: tracked, or of the written part -/
def TA (K : PySem.W.Frag) (H : Hp) (a : Addr) (xs : List V) : Prop :=
  H a = some (.tup xs) ∨ ∃ (o : Obj) (its : Array Value) (n : Nat), K.lookup a = some o ∧ o.cls = .type "tuple" ∧ o.data = .seq its n ∧ its.size ≤ sizeLine ∧ Vals xs its.toList
theorem TA.sq {K : PySem.W.Frag} {H : Hp} {a : Addr} {xs : List V} (h : TA K H a xs) : SqT K H a xs := h.elim (fun h => .inl (.inl h)) .inr
mutual
inductive RV (G : Gr) (ρ : List Addr) (H : Hp) : AV → V → Prop
  | non : RV G ρ H .non .non
  | bl (b : Bool) : RV G ρ H (.bl b) (.bl b)
  | int (i : Int) : RV G ρ H (.int i) (.int i)
  | str (x : Str) : RV G ρ H (.str x) (.str x)
  | ty (n : String) : RV G ρ H (.ty n) (.ty n)
  | tup {a : Addr} {vs : List V} {xs : List AV} : TA G.K H a vs → RVs G ρ H xs vs → RV G ρ H (.tup xs) (.ref a)
  | ref {k : Nat} {a : Addr} : ρ[k]? = some a → RV G ρ H (.ref k) (.ref a)
  | glo (g : Nat) : RV G ρ H (.glo g) (.ref (G.ad g))
inductive RVs (G : Gr) (ρ : List Addr) (H : Hp) : List AV → List V → Prop
  | nil : RVs G ρ H [] []
  | cons {x : AV} {v : V} {xs : List AV} {vs : List V} : RV G ρ H x v → RVs G ρ H xs vs → RVs G ρ H (x :: xs) (v :: vs)
end
/-- named values -/
inductive RF (G : Gr) (ρ : List Addr) (H : Hp) : List (Str × AV) → List (Str × V) → Prop
  | nil : RF G ρ H [] []
  | cons {f : Str} {x : AV} {v : V} {xs : List (Str × AV)} {vs : List (Str × V)} : RV G ρ H x v → RF G ρ H xs vs → RF G ρ H ((f, x) :: xs) ((f, v) :: vs)
/-- a dict's pairs -/
inductive RD (G : Gr) (ρ : List Addr) (H : Hp) : List (Str × AV) → List (Key × V) → Prop
  | nil : RD G ρ H [] []
  | cons {f : Str} {x : AV} {v : V} {xs : List (Str × AV)} {vs : List (Key × V)} : RV G ρ H x v → RD G ρ H xs vs → RD G ρ H ((f, x) :: xs) ((.inr f, v) :: vs)
/-- a list of the written part -/
def KL (K : PySem.W.Frag) (a : Addr) (xs : List V) : Prop :=
  ∃ (o : Obj) (its : Array Value) (n : Nat), K.lookup a = some o ∧ o.cls = .type "list" ∧ o.dict = none ∧ o.data = .seq its n ∧ its.size ≤ sizeLine ∧ Vals xs its.toList
/-- an object of the store -/
inductive RO (G : Gr) (ρ : List Addr) (H : Hp) : AO → Addr → Prop
  | lst {xs : List AV} {vs : List V} {a : Addr} : H a = some (.lst vs) → RVs G ρ H xs vs → RO G ρ H (.lst xs) a
  | frz {xs : List AV} {vs : List V} {a : Addr} {o : Obj} : H a = some (.frz o (.lst vs)) → RVs G ρ H xs vs → RO G ρ H (.rls xs) a
  | kls {xs : List AV} {vs : List V} {a : Addr} : KL G.K a vs → RVs G ρ H xs vs → RO G ρ H (.rls xs) a
  | dct {xs : List (Str × AV)} {vs : List (Key × V)} {a : Addr} : H a = some (.dK vs) → RD G ρ H xs vs → RO G ρ H (.dct xs) a
  | ins {c : Nat} {xs : List (Str × AV)} {vs : List (Str × V)} {a dx : Addr} : H a = some (.ins (G.ad c) dx vs) → RF G ρ H xs vs → RO G ρ H (.ins c xs) a
def AO.mut : AO → Bool
  | .rls _ => false
  | _ => true
/-- the store -/
structure RH (G : Gr) (ρ : List Addr) (h : AH) (H : Hp) : Prop where
  len : ρ.length = h.length
  at' : ∀ (k : Nat) (o : AO) (a : Addr), h[k]? = some o → ρ[k]? = some a → RO G ρ H o a
  nd : ∀ (j k : Nat) (o u : AO) (a : Addr), h[j]? = some o → h[k]? = some u → o.mut = true → u.mut = true → ρ[j]? = some a → ρ[k]? = some a → j = k
/-- from one state to a later one -/
structure Ext (G : Gr) (ρ : List Addr) (H : Hp) (ρ' : List Addr) (H' : Hp) : Prop where
  pre : ∃ l, ρ' = ρ ++ l
  tup : ∀ a vs, TA G.K H a vs → TA G.K H' a vs
theorem Ext.refl {G : Gr} {ρ : List Addr} {H : Hp} : Ext G ρ H ρ H := ⟨⟨[], by simp⟩, fun _ _ h => h⟩
theorem Ext.trans {G : Gr} {ρ ρ1 ρ2 : List Addr} {H H1 H2 : Hp} (a : Ext G ρ H ρ1 H1) (b : Ext G ρ1 H1 ρ2 H2) : Ext G ρ H ρ2 H2 := by
  obtain ⟨l, rfl⟩ := a.pre
  obtain ⟨l2, rfl⟩ := b.pre
  exact ⟨⟨l ++ l2, by simp⟩, fun c vs h => b.tup c vs (a.tup c vs h)⟩
theorem Ext.at {G : Gr} {ρ ρ' : List Addr} {H H' : Hp} (e : Ext G ρ H ρ' H') {k : Nat} {a : Addr} (h : ρ[k]? = some a) : ρ'[k]? = some a := by
  obtain ⟨l, rfl⟩ := e.pre
  obtain ⟨h1, h2⟩ := List.getElem?_eq_some_iff.mp h
  rw [List.getElem?_append_left h1]; exact h
section
variable {G : Gr} {ρ ρ' : List Addr} {H H' : Hp}
mutual
theorem RV.ext (e : Ext G ρ H ρ' H') : ∀ {x : AV} {v : V}, RV G ρ H x v → RV G ρ' H' x v
  | _, _, .non => .non
  | _, _, .bl b => .bl b
  | _, _, .int i => .int i
  | _, _, .str x => .str x
  | _, _, .ty n => .ty n
  | _, _, .tup h r => .tup (e.tup _ _ h) (RVs.ext e r)
  | _, _, .ref h => .ref (e.at h)
  | _, _, .glo g => .glo g
theorem RVs.ext (e : Ext G ρ H ρ' H') : ∀ {xs : List AV} {vs : List V}, RVs G ρ H xs vs → RVs G ρ' H' xs vs
  | _, _, .nil => .nil
  | _, _, .cons r t => .cons (RV.ext e r) (RVs.ext e t)
end
theorem RF.ext (e : Ext G ρ H ρ' H') : ∀ {xs : List (Str × AV)} {vs : List (Str × V)}, RF G ρ H xs vs → RF G ρ' H' xs vs
  | _, _, .nil => .nil
  | _, _, .cons r t => .cons (r.ext e) (RF.ext e t)
theorem RD.ext (e : Ext G ρ H ρ' H') : ∀ {xs : List (Str × AV)} {vs : List (Key × V)}, RD G ρ H xs vs → RD G ρ' H' xs vs
  | _, _, .nil => .nil
  | _, _, .cons r t => .cons (r.ext e) (RD.ext e t)
theorem RVs.length : ∀ {xs : List AV} {vs : List V}, RVs G ρ H xs vs → xs.length = vs.length
  | _, _, .nil => rfl
  | _, _, .cons _ t => by simp [RVs.length t]
theorem RF.length : ∀ {xs : List (Str × AV)} {vs : List (Str × V)}, RF G ρ H xs vs → xs.length = vs.length
  | _, _, .nil => rfl
  | _, _, .cons _ t => by simp [RF.length t]
theorem RD.length : ∀ {xs : List (Str × AV)} {vs : List (Key × V)}, RD G ρ H xs vs → xs.length = vs.length
  | _, _, .nil => rfl
  | _, _, .cons _ t => by simp [RD.length t]
theorem RVs.append : ∀ {xs ys : List AV} {vs ws : List V}, RVs G ρ H xs vs → RVs G ρ H ys ws → RVs G ρ H (xs ++ ys) (vs ++ ws)
  | _, _, _, _, .nil, s => s
  | _, _, _, _, .cons r t, s => .cons r (RVs.append t s)
theorem RVs.get : ∀ {xs : List AV} {vs : List V} {i : Nat} {x : AV}, RVs G ρ H xs vs → xs[i]? = some x → ∃ v, vs[i]? = some v ∧ RV G ρ H x v
  | _, _, _, _, .nil, e => by simp at e
  | _, _, 0, _, .cons r _, e => by simp at e; subst e; exact ⟨_, rfl, r⟩
  | _, _, i + 1, x, .cons _ t, e => by
    obtain ⟨u, h1, h2⟩ := RVs.get (i := i) (x := x) t (by simpa using e)
    exact ⟨u, by simpa using h1, h2⟩
theorem RVs.getR : ∀ {xs : List AV} {vs : List V} {i : Nat} {v : V}, RVs G ρ H xs vs → vs[i]? = some v → ∃ x, xs[i]? = some x ∧ RV G ρ H x v
  | _, _, _, _, .nil, e => by simp at e
  | _, _, 0, _, .cons r _, e => by simp at e; subst e; exact ⟨_, rfl, r⟩
  | _, _, i + 1, x, .cons _ t, e => by
    obtain ⟨u, h1, h2⟩ := RVs.getR (i := i) (v := x) t (by simpa using e)
    exact ⟨u, by simpa using h1, h2⟩
theorem RF.get : ∀ {xs : List (Str × AV)} {vs : List (Str × V)} {f : Str} {x : AV}, RF G ρ H xs vs → xs.lookup f = some x → ∃ v, vs.lookup f = some v ∧ RV G ρ H x v
  | _, _, f, x, .nil, e => by simp at e
  | (g, y) :: xs, (_, v) :: vs, f, x, .cons r t, e => by
    rw [List.lookup] at e ⊢
    cases q : (f == g) with
    | true => rw [q] at e; simp only [Option.some.injEq] at e; subst e; exact ⟨v, rfl, r⟩
    | false => rw [q] at e; exact RF.get t e
theorem RF.none : ∀ {xs : List (Str × AV)} {vs : List (Str × V)} {f : Str}, RF G ρ H xs vs → xs.lookup f = none → vs.lookup f = none
  | _, _, f, .nil, e => by simp
  | (g, y) :: xs, (_, v) :: vs, f, .cons r t, e => by
    rw [List.lookup] at e ⊢
    cases q : (f == g) with
    | true => rw [q] at e; simp at e
    | false => rw [q] at e; exact RF.none t e
/-- the slots -/
def RG (G : Gr) (ρ : List Addr) (H : Hp) (σA : Sg) (σ : St) : Prop := σA.length = σ.length ∧ ∀ (i : Nat) (x : AV), σA[i]? = some (some x) → ∃ v, σ[i]? = some (some v) ∧ RV G ρ H x v
theorem RG.ext (e : Ext G ρ H ρ' H') {σA : Sg} {σ : St} (r : RG G ρ H σA σ) : RG G ρ' H' σA σ := ⟨r.1, fun i x h => by
  obtain ⟨v, h1, h2⟩ := r.2 i x h
  exact ⟨v, h1, h2.ext e⟩⟩
theorem RG.set {σA : Sg} {σ : St} (r : RG G ρ H σA σ) (i : Nat) {x : AV} {v : V} (rv : RV G ρ H x v) : RG G ρ H (σA.set i (some x)) (σ.set i (some v)) := ⟨by simp [r.1], fun j y h => by
  by_cases hj : i = j
  · subst hj
    by_cases hl : i < σA.length
    · rw [List.getElem?_set_self hl] at h
      simp only [Option.some.injEq] at h
      subst h
      exact ⟨v, List.getElem?_set_self (by rw [← r.1]; exact hl), rv⟩
    · rw [List.getElem?_eq_none (by simpa using hl)] at h; cases h
  · rw [List.getElem?_set_ne hj] at h ⊢
    exact r.2 j y h⟩
theorem RG.setN {σA : Sg} {σ : St} (r : RG G ρ H σA σ) (i : Nat) : RG G ρ H (σA.set i none) (σ.set i none) := ⟨by simp [r.1], fun j y h => by
  by_cases hj : i = j
  · subst hj
    by_cases hl : i < σA.length
    · rw [List.getElem?_set_self hl] at h; cases h
    · rw [List.getElem?_eq_none (by simpa using hl)] at h; cases h
  · rw [List.getElem?_set_ne hj] at h ⊢
    exact r.2 j y h⟩
theorem RG.wipe {σA : Sg} {σ : St} (r : RG G ρ H σA σ) : ∀ own : List Nat, RG G ρ H (wipeS σA own) (wipe σ own)
  | [] => r
  | i :: is => (RG.wipe r is).setN i
/-- an object of the store that may be written is no tuple and is tracked -/
theorem RO.is (h : RO G ρ H o a) (m : o.mut = true) : ∃ u, H a = some u ∧ Mut (some u) ∧ (∀ xs, u ≠ .tup xs) ∧ (∀ o' xs, u ≠ .frz o' xs) := by
  cases h with
  | lst e _ => exact ⟨_, e, trivial, fun _ => nofun, fun _ _ => nofun⟩
  | frz e _ => cases m
  | kls e _ => cases m
  | dct e _ => exact ⟨_, e, trivial, fun _ => nofun, fun _ _ => nofun⟩
  | ins e _ => exact ⟨_, e, trivial, fun _ => nofun, fun _ _ => nofun⟩
/-- a new object, or one in the place of a thing that is no tuple -/
theorem Ext.upd {a : Addr} {u : HO} (h : ∀ xs, H a ≠ some (.tup xs)) (l : List Addr) : Ext G ρ H (ρ ++ l) (L2.upd H a u) := ⟨⟨l, rfl⟩, fun b vs z => by
  rcases z with z | z
  · exact .inl (by rw [upd_ne (fun e => by subst e; exact h _ z)]; exact z)
  · exact .inr z⟩
theorem Ext.new {a : Addr} {u : HO} (h : H a = Option.none) (l : List Addr) : Ext G ρ H (ρ ++ l) (L2.upd H a u) := Ext.upd (fun xs z => by rw [h] at z; cases z) l
theorem Ext.put {a : Addr} {u w : HO} (h : H a = some w) (h1 : ∀ xs, w ≠ .tup xs) (h2 : ∀ o' xs, w ≠ .frz o' xs) : Ext G ρ H ρ (L2.upd H a u) := by
  have e := Ext.upd (G := G) (ρ := ρ) (H := H) (a := a) (u := u) (fun xs z => by rw [h] at z; exact h1 xs (Option.some.inj z)) []
  simpa using e
/-- the objects that are not written stay -/
theorem RO.stay {o : AO} {a : Addr} (e : Ext G ρ H ρ' H') (k : ∀ u, H a = some u → H' a = some u) (h : RO G ρ H o a) : RO G ρ' H' o a := by
  cases h with
  | lst z r => exact .lst (k _ z) (r.ext e)
  | frz z r => exact .frz (k _ z) (r.ext e)
  | kls z r => exact .kls z (r.ext e)
  | dct z r => exact .dct (k _ z) (r.ext e)
  | ins z r => exact .ins (k _ z) (r.ext e)
/-- a new object of the store -/
theorem RH.new {h : AH} (r : RH G ρ h H) {p : Addr} {o : AO} {u : HO} (hp : H p = Option.none) (hm : o.mut = true) (ho : RO G (ρ ++ [p]) (L2.upd H p u) o p) : RH G (ρ ++ [p]) (h ++ [o]) (L2.upd H p u) := by
  have e : Ext G ρ H (ρ ++ [p]) (L2.upd H p u) := Ext.new hp [p]
  have split : ∀ {k : Nat} {o' : AO} {a : Addr}, (h ++ [o])[k]? = some o' → (ρ ++ [p])[k]? = some a → (k = h.length ∧ o' = o ∧ a = p) ∨ (h[k]? = some o' ∧ ρ[k]? = some a) := fun {k o' a} h1 h2 => by
    by_cases hk : k < h.length
    · rw [List.getElem?_append_left hk] at h1
      rw [List.getElem?_append_left (by rw [r.len]; exact hk)] at h2
      exact .inr ⟨h1, h2⟩
    · have hk2 : k = h.length := by
        have := (List.getElem?_eq_some_iff.mp h1).1
        simp at this; omega
      subst hk2
      rw [List.getElem?_append_right (Nat.le_refl _)] at h1
      rw [List.getElem?_append_right (by rw [r.len]; exact Nat.le_refl _)] at h2
      simp [r.len] at h1 h2
      exact .inl ⟨rfl, h1.symm, h2.symm⟩
  have old : ∀ {k : Nat} {o' : AO}, h[k]? = some o' → o'.mut = true → ρ[k]? = some p → False := fun {k o'} h1 m h2 => by
    obtain ⟨u', hu, _⟩ := (r.at' _ _ _ h1 h2).is m
    rw [hp] at hu; cases hu
  refine ⟨by simp [r.len], fun k o' a h1 h2 => ?_, fun j k o1 o2 a h1 h2 m1 m2 h3 h4 => ?_⟩
  · rcases split h1 h2 with ⟨_, rfl, rfl⟩ | ⟨q1, q2⟩
    · exact ho
    · exact (r.at' k o' a q1 q2).stay e fun u' hu => by rw [upd_ne (ne_of_none hu hp)]; exact hu
  · rcases split h1 h3 with ⟨rfl, rfl, rfl⟩ | ⟨q1, q3⟩
    · rcases split h2 h4 with ⟨rfl, _, _⟩ | ⟨q2, q4⟩
      · rfl
      · exact (old q2 m2 q4).elim
    · rcases split h2 h4 with ⟨rfl, rfl, rfl⟩ | ⟨q2, q4⟩
      · exact (old q1 m1 q3).elim
      · exact r.nd j k o1 o2 a q1 q2 m1 m2 q3 q4
/-- an object of the store written -/
theorem RH.put {h : AH} (r : RH G ρ h H) {k : Nat} {a : Addr} {o o' : AO} {u : HO} (hk : h[k]? = some o) (ha : ρ[k]? = some a) (hm : o.mut = true) (hm' : o'.mut = true) (ho : RO G ρ (L2.upd H a u) o' a) : RH G ρ (h.set k o') (L2.upd H a u) ∧ Ext G ρ H ρ (L2.upd H a u) := by
  obtain ⟨w, hw, hmu, h1, h2⟩ := (r.at' k o a hk ha).is hm
  have e : Ext G ρ H ρ (L2.upd H a u) := Ext.put hw h1 h2
  have hkl : k < h.length := (List.getElem?_eq_some_iff.mp hk).1
  refine ⟨⟨by simp [r.len], fun j o1 b h3 h4 => ?_, fun i j o1 o2 b h3 h4 m1 m2 h5 h6 => ?_⟩, e⟩
  · by_cases hj : k = j
    · subst hj
      rw [List.getElem?_set_self hkl] at h3
      cases h3
      rw [ha] at h4; cases h4
      exact ho
    · rw [List.getElem?_set_ne hj] at h3
      have q := r.at' j o1 b h3 h4
      by_cases hb : b = a
      · subst hb
        cases hm1 : o1.mut with
        | true => exact absurd (r.nd k j o o1 b hk h3 hm hm1 ha h4) hj
        | false =>
          cases q with
          | lst _ _ => cases hm1
          | dct _ _ => cases hm1
          | ins _ _ => cases hm1
          | frz z _ => rw [hw] at z; exact absurd (Option.some.inj z) (h2 _ _)
          | kls z rr => exact .kls z (rr.ext e)
      · exact q.stay e fun v hv => by rw [upd_ne hb]; exact hv
  · have back : ∀ {j : Nat} {o1 : AO}, (h.set k o')[j]? = some o1 → o1.mut = true → ∃ o2, h[j]? = some o2 ∧ o2.mut = true := fun {j o1} z m => by
      by_cases hj : k = j
      · subst hj; exact ⟨o, hk, hm⟩
      · rw [List.getElem?_set_ne hj] at z; exact ⟨o1, z, m⟩
    obtain ⟨p1, z1, y1⟩ := back h3 m1
    obtain ⟨p2, z2, y2⟩ := back h4 m2
    exact r.nd i j p1 p2 b z1 z2 y1 y2 h5 h6
end
end Mini
set_option autoImplicit false
set_option maxHeartbeats 4000000
/-! Mini, third part: what a run promises; defs that keep a promise where no repr is running; the context of a body. -/
namespace Mini
open PySem PySem.Spec L2
open PyProof.Rows hiding St

/-! ### what is wanted of a run -/
section
variable (G : Gr)
/-- an exception's fields in its own dict -/
def RX (ρ : List Addr) (H : Hp) (c : Nat) (fs : List (Str × AV)) (cls : Value) (d : Option Addr) : Prop :=
  cls = .ref (G.ad c) ∧ ∃ dd vs, d = some dd ∧ H dd = some (.xd vs) ∧ RF G ρ H fs vs
/-- a result r from (ρ, H): Q at its value, W at its exception -/
def Out {α : Type} (W : XK) (ρ : List Addr) (H : Hp) (r : R α) (Q : α → AH → List Addr → Hp → Prop) : Prop := match r with
  | .ok a h => ∀ ρ' H', Ext G ρ H ρ' H' → RH G ρ' h H' → Q a h ρ' H'
  | .exc c fs h => ∀ ρ' H' cls d, Ext G ρ H ρ' H' → RH G ρ' h H' → RX G ρ' H' c fs cls d → W cls d H'
  | .bad => False
end
section
variable {G : Gr} {ρ ρ' : List Addr} {H H' : Hp} {W : XK} {α β : Type}
theorem Out.later {r : R α} {Q : α → AH → List Addr → Hp → Prop} (e : Ext G ρ H ρ' H') (h : Out G W ρ H r Q) : Out G W ρ' H' r Q := by
  cases r with
  | ok a k => exact fun ρ2 H2 e2 rh => h ρ2 H2 (e.trans e2) rh
  | exc c fs k => exact fun ρ2 H2 cls d e2 rh => h ρ2 H2 cls d (e.trans e2) rh
  | bad => exact h
theorem Out.imp {r : R α} {Q Q' : α → AH → List Addr → Hp → Prop} (h : Out G W ρ H r Q) (k : ∀ a h' ρ' H', Ext G ρ H ρ' H' → RH G ρ' h' H' → Q a h' ρ' H' → Q' a h' ρ' H') : Out G W ρ H r Q' := by
  cases r with
  | ok a k' => exact fun ρ2 H2 e2 rh => k _ _ _ _ e2 rh (h ρ2 H2 e2 rh)
  | exc c fs k => exact h
  | bad => exact h
theorem Out.bind {r : R α} {f : α → AH → R β} {Q : β → AH → List Addr → Hp → Prop} (h : Out G W ρ H (r.bind f) Q) : Out G W ρ H r (fun a h' ρ' H' => Out G W ρ' H' (f a h') Q) := by
  cases r with
  | ok a k => exact fun ρ2 H2 e2 rh => Out.later e2 h
  | exc c fs k => exact h
  | bad => exact h
/-- a result without exceptions -/
theorem Out.of {r : O α} {Q : α → AH → List Addr → Hp → Prop} (h : Out G W ρ H (.of r) Q) : ∃ a h', r = some (a, h') ∧ ∀ ρ' H', Ext G ρ H ρ' H' → RH G ρ' h' H' → Q a h' ρ' H' := by
  cases r with
  | none => exact h.elim
  | some p => exact ⟨p.1, p.2, rfl, h⟩
end

/-! ### defs -/
section
variable (P : Program) (w : World) (K : PySem.W.Frag) (mg : Str → Option Value) (base : Heap)
structure FnG (k : Nat) (f : Addr) (fd : FuncData) (ps : List Str) (sp : Sp) : Prop where
  len : ∀ vs H Q E, sp vs H Q E → vs.length = ps.length
  run : ∀ (A : Around) (outer : List Env) (s : Shared) (H : Hp) (args : Args) (us : List Value) (vs : List V) (Q : VK) (E : XK), A.guards = some [] → Room k A → Env0 P w K mg base A outer s H → BindsTo s fd args (ps.zip us) → Vals vs us → sp vs H Q E →
    codeAny (model P w) A (.call (.ref f) args) (CR (L2.CX P w) outer P w H s Q E) s
end
theorem guards_make {A : Around} (g : A.guards = some []) (C : Addr) (us : List Value) (kw : List (Str × Value)) : (A.under (.builtin "type.__call__" ⟨.ref C :: us, kw⟩)).guards = some [] := by
  have e : Code.guards (.builtin "type.__call__" ⟨.ref C :: us, kw⟩) = [] := by simp [Code.guards, Code.isGuard, guardIds]
  unfold Around.under
  dsimp only
  rw [e, g]; rfl
section
variable {P : Program} {w : World} {K : PySem.W.Frag} {mg : Str → Option Value} {base : Heap}
theorem FnG.mono {j k : Nat} {f : Addr} {fd : FuncData} {ps : List Str} {sp : Sp} (F : FnG P w K mg base j f fd ps sp) (h : j ≤ k) : FnG P w K mg base k f fd ps sp :=
  ⟨F.len, fun A outer s H args us vs Q E g hr => F.run A outer s H args us vs Q E g (hr.mono h)⟩
theorem fn_ofG {k : Nat} {f : Addr} {name qual : Str} {params : Arguments} {body : List Stmt} {scope : Scope} {dV kV doc pm cdv ct oc : Value} {an od : Option Addr}
    {osl : Array (Option Value)} {N ps : List Str} {sp : Sp} (lk : K.lookup f = some ⟨oc, od, .func (PySem.W.fnOf name qual params body scope dV kV doc pm an cdv ct), osl⟩) (hcd : PySem.W.codeIn K cdv qual = true) (S : FnScope N ps scope)
    (len : ∀ vs H Q E, sp vs H Q E → vs.length = ps.length)
    (hbody : ∀ (A : Around) (outer : List Env) (s : Shared) (H : Hp) (vs : List V) (Q : VK) (E : XK), A.guards = some [] → Room k (A.deeper (envOfC qual scope s.heap.objs.size f cdv)) → sp vs H Q E →
      ∃ t, PSs (cxOf (L2.CX P w) P w K mg base N qual scope f cdv A outer s H E) body t ∧ t { nx := fun _ H' => Q .non H', rt := Q } (start N vs) H) :
    FnG P w K mg base (k + 1) f (PySem.W.fnOf name qual params body scope dV kV doc pm an cdv ct) ps sp := by
  refine ⟨len, fun A outer s H args us vs Q E g hr e0 hb r hsp => ?_⟩
  have hl := len _ _ _ _ hsp
  have KX : K.In s.heap := e0.mod.kin.keeps fun b o e => (e0.bs b o e).1
  have lim : s.heap.NoLimit := e0.mod.nolimit.keeps fun b o e => (e0.bs b o e).1
  have hkind : ∀ y ∈ ps.zip us, scope.names.lookup y.1 = some .local ∨ (scope.names.lookup y.1 = some .cell ∧ ((cellsFrom (s.heap.objs.size + 1) scope.names []).lookup y.1).isSome = true) := fun ⟨n, v⟩ hy => by
    rcases S.par n (List.of_mem_zip hy).1 with q | q
    · exact .inl q
    · exact .inr ⟨q, PySem.W.cellsFrom_some _ _ _ (.inl q)⟩
  refine codeAny_call_function hr.depth (KX _ _ lk) rfl S.co S.gen rfl (PySem.W.codeRec_of KX hcd) (hb _ _ _ _ ?_)
  refine wpAny_newFunctionEnv_cells S.kind hkind fun env he s1 x => ?_
  subst he
  refine ⟨lim.keeps x.toInCall.keep, codeAny_func ?_⟩
  obtain ⟨t, ht, hq⟩ := hbody A outer s H vs Q E g (hr.deeper _) hsp
  have I : Inv (cxOf (L2.CX P w) P w K mg base N qual scope f cdv A outer s H E) [] (start N vs) H s1 := inv_start S hr.hd e0 hl r x
  refine wpAny_mono (ht.run [] s1 (start N vs) H _ I hq) (fun fl s' hs => ?_) fun e s' hs => hs
  have fin : ∀ {σ' : L2.St} {H' : Hp} {v : V} {u : Value}, Inv (cxOf (L2.CX P w) P w K mg base N qual scope f cdv A outer s H E) [] σ' H' s' → RelV v u → Q v H' → CE outer P w H s Q u s' :=
    fun {σ' H' v u} J rv q => ⟨v, H', J.os, J.bare, J.base, J.hok, rv, q⟩
  cases fl with
  | ret u =>
    obtain ⟨v, σ', H', J, rv, q⟩ := hs
    exact fin J rv q
  | next =>
    obtain ⟨σ', H', J, q⟩ := hs
    exact fin (v := V.non) (u := Value.none) J rfl q
  | brk =>
    obtain ⟨_, _, _, q⟩ := hs
    exact False.elim q
  | cont =>
    obtain ⟨_, _, _, q⟩ := hs
    exact False.elim q
variable {X : Cx} {k : Nat} {f C : Addr} {fd : FuncData} {ps : List Str} {sp : Sp}
/-- the callee runs -/
theorem run_G {pins : List (Addr × Obj)} {σ : L2.St} {H : Hp} {s : Shared} {Q : VK} {us : List Value} {kw : List (Str × Value)} {vs : List V} {bs : List Value} {W : WX} (F : FnG X.prog X.w X.K X.mg X.base k f fd ps sp) (hg : X.A.guards = some []) (hr : Room k X.A) (tk : Takes X W)
    (I : Inv X pins σ H s) (b : BindsTo s fd ⟨us, kw⟩ (ps.zip bs)) (r : Vals vs bs) (h : sp vs H Q (WE W σ)) : wpAny (model X.prog X.w) X.A (call (.ref f) us kw) (EP X pins σ Q) X.xe s := by
  refine wpAny_call (codeAny_mono (F.run X.A X.stack s H ⟨us, kw⟩ bs vs Q (WE W σ) hg hr I.env0 b r h) fun r s' hq => ?_)
  cases r with
  | error e => exact passAt tk σ pins H s e s' I hq
  | ok fl =>
    cases fl with
    | ret u => exact I.after hq
    | next => exact False.elim hq
    | brk => exact False.elim hq
    | cont => exact False.elim hq
/-- a new instance and its dict, then __init__ -/
theorem run_mkG {pins : List (Addr × Obj)} {σ : L2.St} {H : Hp} {s : Shared} {Q : VK} {us : List Value} {kw : List (Str × Value)} {vs : List V} {bs : List Value} {W : WX} (M : Mk X.K C f) (F : FnG X.prog X.w X.K X.mg X.base k f fd ps sp) (hg : X.A.guards = some []) (hr : Room (k + 1) X.A) (tk : Takes X W)
    (I : Inv X pins σ H s) (b : ∀ (s : Shared) (x : Value), X.K.In s.heap → BindsTo s fd ⟨x :: us, kw⟩ (ps.zip (x :: bs))) (r : Vals vs bs)
    (h : ∀ x dx, H x = none → H dx = none → dx ≠ x → sp (.ref x :: vs) (upd (upd H dx (.own x)) x (.ins C dx [])) (fun v H2 => v = .non ∧ Q (.ref x) H2) (WE W σ)) :
    wpAny (model X.prog X.w) X.A (call (.ref C) us kw) (EP X pins σ Q) X.xe s := by
  have hq := h (s.heap.objs.size + 1) s.heap.objs.size (I.hok.fresh (Nat.le_succ _)) (I.hok.fresh (Nat.le_refl _)) (Nat.ne_of_lt (Nat.lt_succ_self _))
  have I2 := Inv.made (C := C) I
  have r2 : Vals (V.ref (s.heap.objs.size + 1) :: vs) (Value.ref (s.heap.objs.size + 1) :: bs) := .cons rfl r
  refine wpAny_call (make_map (f := f) I.kIn M.makes M.init (beq_iff_eq.mp M.fn) (codeAny_mono (F.run _ X.stack _ _ ⟨Value.ref (s.heap.objs.size + 1) :: us, kw⟩ (Value.ref (s.heap.objs.size + 1) :: bs) _ _ (WE W σ) (guards_make hg _ _ _) (hr.make C us kw)
    (I2.env0.make C us kw) (b _ _ I2.kIn) r2 hq) fun r s' hq' => ?_))
  cases r with
  | error e => exact passAt tk σ pins _ _ e s' I2 hq'
  | ok fl =>
    cases fl with
    | ret u =>
      obtain ⟨v, H', I3, rv, ev, q3⟩ := I2.after hq'
      subst ev
      exact ⟨rv, ⟨V.ref (s.heap.objs.size + 1), H', I3, rfl, q3⟩⟩
    | next => exact False.elim hq'
    | brk => exact False.elim hq'
    | cont => exact False.elim hq'
end
end Mini
set_option autoImplicit false
set_option maxHeartbeats 4000000
/-! Mini, fourth part: operations on values. -/
namespace Mini
open PySem PySem.Spec L2
open PyProof.Rows hiding St

/-- the program: the ground, its defs and classes by number, their names, which stand at the top, the names of fields -/
structure Top where
  G : Gr
  Pr : Prog
  nm : Nat → Str
  flds : List Str
/-- the names of built-ins, which the program leaves as they are -/
def bnames : List Str := ["len", "abs", "min", "max", "repr", "isinstance", "tuple", "list", "int", "all", "any", "range", "bool", "str", "dict", "sorted", "sum", "zip", "enumerate"]
def tdV (G : Gr) : TD → Value
  | .b T => .type T
  | .c g => .ref (G.ad g)
/-- what the written part says of a class -/
structure ClsOk (T : Top) (g : Nat) (c : MCls) : Prop where
  mkr : Mk T.G.K (T.G.ad g) (T.G.ad c.init)
  cls : Cls T.G.K (T.G.ad g)
  no : ∀ f ∈ T.flds, NoAttr T.G.K (T.G.ad g) f
  ca : PySem.W.findIn T.G.K (.ref (T.G.ad g)) "__class__" = some (some (.builtin "object.__class__"))
  mo : PySem.W.mroIn T.G.K (T.G.ad g) (.type "object") = some true
  eq : ∀ e, c.eq = some e → PySem.W.findIn T.G.K (.ref (T.G.ad g)) "__eq__" = some (some (.ref (T.G.ad e))) ∧ PySem.W.isFn T.G.K (.ref (T.G.ad e)) = true
  ne : ∀ e, c.ne = some e → PySem.W.findIn T.G.K (.ref (T.G.ad g)) "__ne__" = some (some (.ref (T.G.ad e))) ∧ PySem.W.isFn T.G.K (.ref (T.G.ad e)) = true
  nf : ∀ t, (isTD T.Pr t t).isSome = true → PySem.W.notFirst T.G.K (T.G.ad g) (tdV T.G t) = true
structure TopOk (T : Top) (mg : Str → Option Value) : Prop where
  fn : ∀ g d, T.Pr g = some (.def_ d) → mg (T.nm g) = some (.ref (T.G.ad g)) → PySem.W.keepIn T.G.K (.ref (T.G.ad g)) = true
  cl : ∀ g c, T.Pr g = some (.cls c) → ClsOk T g c
  cl2 : ∀ g c, T.Pr g = some (.cls c) → ∃ d p ps, T.Pr c.init = some (.def_ d) ∧ d.params = p :: ps
  np : ∀ g d, T.Pr g = some (.def_ d) → d.params.length = d.np
  cl3 : ∀ g c e, T.Pr g = some (.cls c) → (c.eq = some e ∨ c.ne = some e) → ∃ d, T.Pr e = some (.def_ d) ∧ d.np = 2
  val : ∀ g v, T.Pr g = some (.val v) → ∃ u vv, mg (T.nm g) = some u ∧ RelV vv u ∧ ∀ ρ H, RV T.G ρ H v vv
  un : ∀ x ∈ bnames, mg x = none
  kit : ∀ t u b, isTD T.Pr t u = some b → PySem.W.kitOne T.G.K (tdV T.G t) (tdV T.G u) = some b
  sys : ∃ (o : Obj) (es : Array DictEntry) (n : Nat), T.G.K.lookup sysModules = some o ∧ o.data = .dict es n
  kn : PySem.W.specialIn T.G.K (.builtin "object.__class__") "__get__" = some (some (.builtin "getset_descriptor.__get__"))
  kt : PySem.W.takesIn T.G.K (.builtin "object.__class__") = some true
/-- what is promised of a run of a def -/
def spC (G : Gr) (cal : Nat → List AV → AH → R AV) (g : Nat) (np : Nat) : Sp := fun vs H Q E => vs.length = np ∧
  ∃ ρ xs h, RVs G ρ H xs vs ∧ RH G ρ h H ∧ Out G E ρ H (cal g xs h) fun x _ ρ' H' => ∀ v, RV G ρ' H' x v → Q v H'
/-- the defs keep what their runs tell -/
structure Tab (T : Top) (cal : Nat → List AV → AH → R AV) (lvl : Nat) (P : Program) (w : World) (mg : Str → Option Value) (base : Heap) : Prop where
  fn : ∀ g d, T.Pr g = some (.def_ d) → ∃ fd, FnG P w T.G.K mg base lvl (T.G.ad g) fd d.params (spC T.G cal g d.np) ∧
    ∀ (us : List Value) (ks : List Str) (ws bs : List Value), bindK d.params us ks ws = some bs → kwOk d.params us.length ks = true → bindArgs fd ⟨us, ks.zip ws⟩ = pure (d.params.zip bs)
/-- a context in which bodies are walked -/
structure Rdy (T : Top) (cal : Nat → List AV → AH → R AV) (lvl : Nat) (X : Cx) (W : WX) : Prop where
  calm : X.calm = true
  nd : X.N.Nodup
  gd : X.A.guards = some []
  room : Room (lvl + 1) X.A
  tk : Takes X W
  k : X.K = T.G.K
  top : TopOk T X.mg
  tab : Tab T cal lvl X.prog X.w X.mg X.base

section
variable {T : Top} {cal : Nat → List AV → AH → R AV} {lvl : Nat} {X : Cx} {W : WX} {G : Gr}
theorem bindK_nil {α : Type} {ps : List Str} {vs : List α} (h : vs.length = ps.length) : bindK ps vs [] [] = some vs := by
  unfold bindK
  rw [if_pos ⟨by simpa using h, rfl⟩, List.drop_of_length_le (by omega)]
  simp [optAll]
theorem Rdy.hu (r : Rdy T cal lvl X W) : X.A.units + 64 < cLine := r.room.units

/-! ### operations -/
/-- a two-place operation that is told by f -/
def r2 (G : Gr) (f : AV → AV → AH → O AV) : R2 := fun x y H Q => ∃ ρ h xa ya z h', RV G ρ H xa x ∧ RV G ρ H ya y ∧ RH G ρ h H ∧ f xa ya h = some (z, h') ∧
  ∀ ρ' H', Ext G ρ H ρ' H' → RH G ρ' h' H' → ∀ v, RV G ρ' H' z v → Q v H'
def opOf : Bop → Operator
  | .add => .Add | .sub => .Sub | .mul => .Mult | .fdiv => .FloorDiv | .mod => .Mod | .pow => .Pow | .shl => .LShift | .shr => .RShift | .band => .BitAnd | .bor => .BitOr | .bxor => .BitXor
theorem op_fdivNW {X : Cx} : OpR X (binaryOp .FloorDiv) (rI (fun _ j => j ≠ 0 ∧ j.natAbs.log2 < 9000) fun i j => .int (i.fdiv j)) := opI fun _ _ _ _ _ _ _ hc q => floordiv_int hc.1 q (.inl (PyProof.noPylong_of_log2 hc.2))
theorem op_bopI {X : Cx} (o : Bop) : OpR X (binaryOp (opOf o)) (fun x y H Q => ∃ i j k, x = .int i ∧ y = .int j ∧ bopI o i j = some k ∧ Q (.int k) H) := by
  intro pins s σ H x y v u Q I rx ry h
  obtain ⟨i, j, k, rfl, rfl, e, q⟩ := h
  cases o with
  | add => cases e; exact op_add pins s σ H _ _ v u Q I rx ry ⟨i, j, rfl, rfl, q⟩
  | sub => cases e; exact op_sub pins s σ H _ _ v u Q I rx ry ⟨i, j, rfl, rfl, q⟩
  | mul =>
    dsimp only [bopI] at e
    split at e
    · rename_i c
      cases e
      have c' := of_decide_eq_true (show decide _ = true from c)
      exact op_mulW pins s σ H _ _ v u Q I rx ry ⟨i, j, rfl, rfl, (by unfold CMulW; omega), q⟩
    · cases e
  | fdiv =>
    dsimp only [bopI] at e
    split at e
    · rename_i c
      cases e
      simp only [Bool.and_eq_true, decide_eq_true_eq] at c
      exact op_fdivNW pins s σ H _ _ v u Q I rx ry ⟨i, j, rfl, rfl, c, q⟩
    · cases e
  | mod =>
    dsimp only [bopI] at e
    split at e
    · rename_i c
      cases e
      simp only [decide_eq_true_eq] at c
      exact op_modN pins s σ H _ _ v u Q I rx ry ⟨i, j, rfl, rfl, c, q⟩
    · cases e
  | pow =>
    dsimp only [bopI] at e
    split at e
    · rename_i c
      cases e
      simp only [Bool.and_eq_true, decide_eq_true_eq] at c
      exact op_pow pins s σ H _ _ v u Q I rx ry ⟨i, j, rfl, rfl, ⟨c.1.1, c.1.2, c.2⟩, q⟩
    · cases e
  | shl =>
    dsimp only [bopI] at e
    split at e
    · rename_i c
      cases e
      simp only [Bool.and_eq_true, decide_eq_true_eq] at c
      exact op_shl pins s σ H _ _ v u Q I rx ry ⟨i, j, rfl, rfl, ⟨c.1.1, c.1.2, c.2⟩, q⟩
    · cases e
  | shr =>
    dsimp only [bopI] at e
    split at e
    · rename_i c
      cases e
      simp only [decide_eq_true_eq] at c
      exact op_shr pins s σ H _ _ v u Q I rx ry ⟨i, j, rfl, rfl, c, q⟩
    · cases e
  | band => cases e; exact op_and pins s σ H _ _ v u Q I rx ry ⟨i, j, rfl, rfl, q⟩
  | bor => cases e; exact op_or pins s σ H _ _ v u Q I rx ry ⟨i, j, rfl, rfl, q⟩
  | bxor => cases e; exact op_xor pins s σ H _ _ v u Q I rx ry ⟨i, j, rfl, rfl, q⟩
/-- the list at a place of the store -/
theorem RH.lst {ρ : List Addr} {h : AH} {H : Hp} (r : RH G ρ h H) {k : Nat} {xs : List AV} {a : Addr} (e : h[k]? = some (.lst xs)) (ea : ρ[k]? = some a) : ∃ vs, H a = some (.lst vs) ∧ RVs G ρ H xs vs := by
  cases r.at' k _ a e ea with
  | lst z rr => exact ⟨_, z, rr⟩
theorem RH.seq {ρ : List Addr} {h : AH} {H : Hp} (r : RH G ρ h H) {k : Nat} {xs : List AV} {a : Addr} (e : seqOf h (.ref k) = some xs) (ea : ρ[k]? = some a) : ∃ vs, SqL G.K H a vs ∧ RVs G ρ H xs vs := by
  unfold seqOf at e
  dsimp only at e
  split at e
  · rename_i ys hk
    cases e
    obtain ⟨vs, z, rr⟩ := r.lst hk ea
    exact ⟨vs, .of z, rr⟩
  · rename_i ys hk
    cases e
    cases r.at' k _ a hk ea with
    | frz z rr => exact ⟨_, .inl (.inr ⟨_, z⟩), rr⟩
    | kls z rr => exact ⟨_, .inr z, rr⟩
  · cases e
/-- the items of a value that has some -/
theorem RV.items {ρ : List Addr} {h : AH} {H : Hp} (rh : RH G ρ h H) {x : AV} {v : V} {xs : List AV} (r : RV G ρ H x v) (e : seqOf h x = some xs) : ∃ a vs, v = .ref a ∧ (SqL G.K H a vs ∨ SqT G.K H a vs) ∧ RVs G ρ H xs vs := by
  cases r with
  | tup h r =>
    cases e
    exact ⟨_, _, rfl, .inr h.sq, r⟩
  | ref ea =>
    obtain ⟨vs, z, rr⟩ := rh.seq e ea
    exact ⟨_, vs, rfl, .inl z, rr⟩
  | _ => cases e
theorem RV.int_inv {ρ : List Addr} {H : Hp} {i : Int} {v : V} (r : RV G ρ H (.int i) v) : v = .int i := by cases r; rfl
theorem RV.str_inv {ρ : List Addr} {H : Hp} {i : Str} {v : V} (r : RV G ρ H (.str i) v) : v = .str i := by cases r; rfl
theorem RV.bl_inv {ρ : List Addr} {H : Hp} {i : Bool} {v : V} (r : RV G ρ H (.bl i) v) : v = .bl i := by cases r; rfl
theorem RV.ref_inv {ρ : List Addr} {H : Hp} {k : Nat} {v : V} (r : RV G ρ H (.ref k) v) : ∃ a, v = .ref a ∧ ρ[k]? = some a := by cases r with | ref h => exact ⟨_, rfl, h⟩
theorem op_bop {X : Cx} (hk : X.K = G.K) (o : Bop) : OpR X (binaryOp (opOf o)) (r2 G (bopA o)) := by
  intro pins s σ H x y v u Q I rx ry h
  obtain ⟨ρ, h, xa, ya, z, h', r1, r2, rh, e, q⟩ := h
  unfold bopA at e
  split at e
  · rename_i i j
    obtain rfl := r1.int_inv
    obtain rfl := r2.int_inv
    cases ek : bopI o i j with
    | none => rw [ek] at e; cases e
    | some k =>
      rw [ek] at e
      cases e
      exact op_bopI o pins s σ H _ _ v u Q I rx ry ⟨i, j, k, rfl, rfl, ek, q ρ H .refl rh _ (.int k)⟩
  · rename_i a b
    split at e
    · rename_i xs ys ha hb
      split at e
      · rename_i hl
        cases e
        obtain ⟨pa, rfl, ea⟩ := r1.ref_inv
        obtain ⟨pb, rfl, eb⟩ := r2.ref_inv
        obtain ⟨vs, za, ra⟩ := rh.lst ha ea
        obtain ⟨ws, zb, rb⟩ := rh.lst hb eb
        refine op_cat pins s σ H _ _ v u Q I rx ry ⟨pa, pb, vs, ws, rfl, rfl, za, zb, by rw [← ra.length, ← rb.length]; exact hl, fun p hp => ?_⟩
        have ex : Ext G ρ H (ρ ++ [p]) (upd H p (.lst (vs ++ ws))) := Ext.new hp [p]
        refine q _ _ ex (rh.new hp rfl (.lst upd_same ((ra.append rb).ext ex))) _ (.ref ?_)
        rw [List.getElem?_append_right (by rw [rh.len]; exact Nat.le_refl _), rh.len]
        simp
      · cases e
    · cases e
  · cases e
end
end Mini
set_option autoImplicit false
set_option maxHeartbeats 4000000
/-! Mini, fifth part: comparisons, data, built-ins by values. -/
namespace Mini
open PySem PySem.Spec L2
open PyProof.Rows hiding St
section
variable {T : Top} {cal : Nat → List AV → AH → R AV} {lvl : Nat} {X : Cx} {W : WX} {G : Gr}

theorem dpAll {ρ : List Addr} {H : Hp} {f : AV → Option PyData} (ih : ∀ x v d, RV G ρ H x v → f x = some d → Dp G.K H v d) : ∀ {xs : List AV} {vs : List V} {ds : List PyData}, RVs G ρ H xs vs → optAll f xs = some ds → DpAll G.K H vs ds
  | _, _, ds, .nil, e => by cases e; exact .nil
  | x :: xs, v :: vs, ds, .cons r t, e => by
    unfold optAll at e
    split at e
    · rename_i d ds' h1 h2
      cases e
      exact .cons (ih _ _ _ r h1) (dpAll ih t h2)
    · cases e
theorem toPy_dp {ρ : List Addr} {h : AH} {H : Hp} (rh : RH G ρ h H) : ∀ (n : Nat) (x : AV) (v : V) (d : PyData), RV G ρ H x v → toPy h n x = some d → Dp G.K H v d := by
  intro n
  induction n with
  | zero =>
    intro x v d r e
    cases r <;> first | (cases e; constructor) | cases e
  | succ n ih =>
    intro x v d r e
    cases r with
    | non => cases e; constructor
    | bl b => cases e; constructor
    | int b => cases e; constructor
    | str b => cases e; constructor
    | ty b => cases e
    | glo b => cases e
    | tup hs rr =>
      rename_i a vs xs
      dsimp only [toPy] at e
      cases q : optAll (toPy h n) xs with
      | none => rw [q] at e; cases e
      | some ds => rw [q] at e; cases e; exact .tup hs.sq (dpAll ih rr q)
    | ref ea =>
      rename_i k a
      dsimp only [toPy] at e
      have go : ∀ xs, seqOf h (.ref k) = some xs → (optAll (toPy h n) xs).map PyData.list = some d → Dp G.K H (.ref a) d := fun xs hs e => by
        obtain ⟨vs, z, rr⟩ := rh.seq hs ea
        cases q : optAll (toPy h n) xs with
        | none => rw [q] at e; cases e
        | some ds => rw [q] at e; cases e; exact .lst z (dpAll ih rr q)
      split at e
      · rename_i xs hk
        exact go xs (by unfold seqOf; dsimp only; rw [hk]) e
      · rename_i xs hk
        exact go xs (by unfold seqOf; dsimp only; rw [hk]) e
      · cases e
def copOf : Cop → CmpOp
  | .eq => .Eq | .ne => .NotEq | .lt => .Lt | .le => .LtE | .gt => .Gt | .ge => .GtE | .is => .Is | .isnot => .IsNot | .in_ => .In | .notin => .NotIn
theorem op_cmpI {X : Cx} (o : Cop) : OpR X (compareOp (copOf o)) (fun x y H Q => ∃ i j k, x = .int i ∧ y = .int j ∧ cmpI o i j = some k ∧ Q (.bl k) H) := by
  intro pins s σ H x y v u Q I rx ry h
  obtain ⟨i, j, k, rfl, rfl, e, q⟩ := h
  cases o with
  | eq => cases e; exact op_eq pins s σ H _ _ v u Q I rx ry ⟨rfl, by rw [show decide (V.int i = V.int j) = decide (i = j) by simp]; exact q⟩
  | ne => cases e; exact op_ne pins s σ H _ _ v u Q I rx ry ⟨rfl, by rw [show decide (V.int i = V.int j) = decide (i = j) by simp]; exact q⟩
  | lt => cases e; exact op_lt pins s σ H _ _ v u Q I rx ry ⟨i, j, rfl, rfl, q⟩
  | le => cases e; exact op_le pins s σ H _ _ v u Q I rx ry ⟨i, j, rfl, rfl, q⟩
  | gt => cases e; exact op_gt pins s σ H _ _ v u Q I rx ry ⟨i, j, rfl, rfl, q⟩
  | ge => cases e; exact op_ge pins s σ H _ _ v u Q I rx ry ⟨i, j, rfl, rfl, q⟩
  | is => cases e
  | isnot => cases e
  | in_ => cases e
  | notin => cases e
theorem RV.isNon {ρ : List Addr} {H : Hp} {x : AV} {v : V} (r : RV G ρ H x v) : decide (v = .non) = isNon x := by cases r <;> rfl
theorem eqPy_dp {ρ : List Addr} {h : AH} {H : Hp} (rh : RH G ρ h H) {x y : AV} {v u : V} {b : Bool} (rx : RV G ρ H x v) (ry : RV G ρ H y u) (e : eqPy h x y = some b) :
    ∃ d d', Dp G.K H v d ∧ Dp G.K H u d' ∧ SeqAt.shaped d = true ∧ SeqAt.shaped d' = true ∧ PyData.eqv d d' = b := by
  unfold eqPy at e
  split at e
  · rename_i d d' h1 h2
    split at e
    · rename_i c
      cases e
      obtain ⟨c1, c2⟩ := Bool.and_eq_true_iff.mp c
      exact ⟨d, d', toPy_dp rh _ _ _ _ rx h1, toPy_dp rh _ _ _ _ ry h2, c1, c2, rfl⟩
    · cases e
  · cases e
/-! ### the same -/
theorem same_items {ρ : List Addr} {H : Hp} {F : AV → AV → Bool} {P : Value → Value → Prop} (ih : ∀ (x y : AV) (v u : V) (v' u' : Value), F x y = true → RV G ρ H x v → RV G ρ H y u → RelV v v' → RelV u u' → P v' u') :
    ∀ {xs ys : List AV} {vs us : List V} {its its2 : List Value}, all2 F xs ys = true → RVs G ρ H xs vs → RVs G ρ H ys us → Vals vs its → Vals us its2 → its.length = its2.length ∧ ∀ j (h1 : j < its.length) (h2 : j < its2.length), P its[j] its2[j]
  | [], [], _, _, _, _, _, .nil, .nil, .nil, .nil => ⟨rfl, fun j h1 => absurd h1 (Nat.not_lt_zero j)⟩
  | [], _ :: _, _, _, _, _, h, _, _, _, _ => by cases h
  | _ :: _, [], _, _, _, _, h, _, _, _, _ => by cases h
  | x :: xs, y :: ys, _, _, _, _, h, .cons r t, .cons r' t', .cons q1 q2, .cons w1 w2 => by
    obtain ⟨h1, h2⟩ := Bool.and_eq_true_iff.mp h
    obtain ⟨l1, l2⟩ := same_items ih h2 t t' q2 w2
    refine ⟨by simp [l1], fun j a1 a2 => ?_⟩
    cases j with
    | zero => exact ih _ _ _ _ _ _ h1 r r' q1 w1
    | succ j => exact l2 j (Nat.lt_of_succ_lt_succ a1) (Nat.lt_of_succ_lt_succ a2)
theorem same_run {pins : List (Addr × Obj)} {σ : L2.St} {H : Hp} {s : Shared} {ρ : List Addr} (hk : X.K = G.K) (I : Inv X pins σ H s) : ∀ (n : Nat) (A : Around) (x y : AV) (v u : V) (v' u' : Value), A.units + n < cLine → sameA n x y = true → RV G ρ H x v → RV G ρ H y u → RelV v v' → RelV u u' → SeqAt.EqAt A s v' u' true := by
  intro n
  induction n with
  | zero => intro A x y v u v' u' _ h; cases x <;> cases y <;> cases h
  | succ n ih =>
    intro A x y v u v' u' hu h rx ry r1 r2
    cases rx with
    | non =>
      cases y with
      | non => cases ry; exact eqAt_same r1 r2 rfl
      | _ => cases h
    | bl b =>
      cases y <;> first | cases h | skip
      rename_i c
      have e : b = c := of_decide_eq_true h
      subst e
      cases ry
      exact eqAt_same r1 r2 rfl
    | int b =>
      cases y <;> first | cases h | skip
      rename_i c
      have e : b = c := of_decide_eq_true h
      subst e
      cases ry
      exact eqAt_same r1 r2 rfl
    | str b =>
      cases y <;> first | cases h | skip
      rename_i c
      have e : b = c := of_decide_eq_true h
      subst e
      cases ry
      exact eqAt_same r1 r2 rfl
    | ty b => cases y <;> cases h
    | glo b => cases y <;> cases h
    | ref ea =>
      rename_i k a
      cases y <;> first | cases h | skip
      rename_i c
      have e : k = c := of_decide_eq_true h
      subst e
      cases ry with
      | ref eb =>
        rw [ea] at eb
        cases eb
        cases r1
        cases r2
        exact SeqAt.EqAt.same _
    | tup ht rr =>
      rename_i a vs xs
      cases y <;> first | cases h | skip
      rename_i ys
      cases ry with
      | tup ht2 rr2 =>
        rename_i b us
        cases r1
        cases r2
        by_cases e : a = b
        · subst e; exact SeqAt.EqAt.same _
        · have h : all2 (sameA n) xs ys = true := h
          obtain ⟨its, rv, p, hz⟩ := I.tuple (by rw [hk]; exact ht.sq)
          obtain ⟨its2, rv2, p2, hz2⟩ := I.tuple (by rw [hk]; exact ht2.sq)
          refine SeqAt.EqAt.of_refs e ?_
          have items := same_items (P := fun p q => SeqAt.EqAt A.in1 s p q true) (fun x y v u v' u' h r r' q w => ih A.in1 x y v u v' u' (by show A.units + 1 + n < cLine; omega) h r r' q w) h rr rr2 rv rv2
          have R := SeqAt.RcAt.tuples (e := fun _ => true) (show s.heap.IsTuple a its.toArray from p) (show s.heap.IsTuple b its2.toArray from p2) (by omega : A.units < cLine) (fun j h1 h2 => by
            have := items.2 j (by simpa using h1) (by simpa using h2)
            simpa using this)
          have e2 : ((List.range (min its.toArray.size its2.toArray.size)).all (fun _ => true) && its.toArray.size == its2.toArray.size) = true := by
            rw [List.size_toArray, List.size_toArray, items.1]
            simp
          rw [e2] at R
          exact R
theorem RD.dvals {ρ : List Addr} {H : Hp} : ∀ {kvs : List (Str × AV)} {ks : List (L2.Key × V)}, RD G ρ H kvs ks → nodupB (kvs.map (·.1)) = true → kvs.all (fun q => noTy q.2) = true → ∀ p ∈ ks, L2.valV ks p.1 = some p.2 ∧ ((flatB p.2 = true) ∨ ∃ a, p.2 = .ref a) ∧ ∃ q ∈ kvs, p.1 = Sum.inr q.1
  | _, _, .nil, _, _, _, h => by cases h
  | (f, x) :: kvs, (_, v) :: ks, .cons r t, h, hn, p, hp => by
    have h' : (!(kvs.map (·.1)).contains f && nodupB (kvs.map (·.1))) = true := h
    simp only [Bool.and_eq_true, Bool.not_eq_true'] at h'
    have hn' : (noTy x && kvs.all (fun q => noTy q.2)) = true := hn
    simp only [Bool.and_eq_true] at hn'
    rcases List.mem_cons.mp hp with rfl | hp
    · refine ⟨L2.valV_pos rfl, ?_, ⟨(f, x), List.mem_cons_self, rfl⟩⟩
      cases r with
      | ty n => exact absurd hn'.1 Bool.false_ne_true
      | tup _ _ => exact .inr ⟨_, rfl⟩
      | ref _ => exact .inr ⟨_, rfl⟩
      | glo _ => exact .inr ⟨_, rfl⟩
      | _ => exact .inl rfl
    · obtain ⟨e1, e2, q, hq, e3⟩ := RD.dvals t h'.2 hn'.2 p hp
      refine ⟨?_, e2, q, List.mem_cons_of_mem _ hq, e3⟩
      rw [L2.valV_neg (fun z => ?_)]
      · exact e1
      · have z : (Sum.inr f : L2.Key) = p.1 := z
        rw [e3] at z
        have z : f = q.1 := Sum.inr.inj z
        have : (kvs.map (·.1)).contains f = true := by simp only [List.contains_iff_mem, List.mem_map]; exact ⟨q, hq, z.symm⟩
        rw [h'.1] at this
        cases this
theorem op_same {pins : List (Addr × Obj)} {σ : L2.St} {H : Hp} {s : Shared} {ρ : List Addr} {h : AH} {x y : V} {v u : Value} {xa ya : AV} {Q : VK} (hk : X.K = G.K) (hu : X.A.units + 64 < cLine) (I : Inv X pins σ H s) (rx : RelV x v) (ry : RelV y u)
    (r1 : RV G ρ H xa x) (r2 : RV G ρ H ya y) (rh : RH G ρ h H) (c : topSame h xa ya = true) (q : Q (.bl true) H) : wpAny (model X.prog X.w) X.A (compareOp .Eq v u) (EP X pins σ Q) X.xe s := by
  unfold topSame at c
  split at c
  · rename_i xs ys
    cases r1 with
    | tup ht rr =>
      rename_i a vs
      cases r2 with
      | tup ht2 rr2 =>
        rename_i b us
        cases rx
        cases ry
        obtain ⟨its, rv, p, hz⟩ := I.tuple (by rw [hk]; exact ht.sq)
        obtain ⟨its2, rv2, p2, hz2⟩ := I.tuple (by rw [hk]; exact ht2.sq)
        have items := same_items (P := fun p q => SeqAt.EqAt X.A.in1 s p q true) (fun x y v u v' u' h r r' q w => same_run hk I 20 X.A.in1 x y v u v' u' (by show X.A.units + 1 + 20 < cLine; omega) h r r' q w) c rr rr2 rv rv2
        refine SeqAt.eq_tupleAt (e := fun _ => true) (show s.heap.IsTuple a its.toArray from p) (show s.heap.IsTuple b its2.toArray from p2) (by omega) (fun j h1 h2 => by
            have := items.2 j (by simpa using h1) (by simpa using h2)
            simpa using this) ?_
        have e2 : ((List.range (min its.toArray.size its2.toArray.size)).all (fun _ => true) && its.toArray.size == its2.toArray.size) = true := by
          rw [List.size_toArray, List.size_toArray, items.1]
          simp
        rw [e2]
        exact ⟨.bl true, H, I, rfl, q⟩
  · rename_i a b
    simp only [Bool.and_eq_true, decide_eq_true_eq] at c
    obtain ⟨rfl, c⟩ := c
    split at c
    · rename_i kvs hd
      simp only [Bool.and_eq_true] at c
      obtain ⟨p, rfl, ep⟩ := r1.ref_inv
      obtain ⟨p', rfl, ep'⟩ := r2.ref_inv
      rw [ep] at ep'
      cases ep'
      cases rh.at' _ _ _ hd ep with
      | dct z rd =>
        rename_i ks
        refine op_eqV hu pins s σ H _ _ v u Q I rx ry ⟨1, by decide, .inr ⟨p, p, ks, ks, rfl, rfl, z, z, rfl, fun kv hkv => ?_⟩, q⟩
        obtain ⟨e1, e2, _⟩ := rd.dvals c.1 c.2 kv hkv
        refine ⟨kv.2, e1, ?_⟩
        rcases e2 with e2 | ⟨a, e2⟩
        · exact .inl ⟨rfl, e2⟩
        · exact .inr (.inl ⟨a, e2, e2⟩)
    · cases c
  · cases c
theorem eqStr_inv {x y : AV} {b : Bool} (e : eqStr x y = some b) : ∃ p w, x = .str p ∧ y = .str w ∧ b = decide (p = w) := by
  unfold eqStr at e
  split at e
  · cases e; exact ⟨_, _, rfl, rfl, rfl⟩
  · cases e
/-- comparisons that are no call of an own method -/
def cmpP (o : Cop) (x y : AV) (h : AH) : O AV := match x, y with
  | .int i, .int j => (cmpI o i j).map fun b => (.bl b, h)
  | x, y => match o with
    | .is => if isNon y then some (.bl (isNon x), h) else none
    | .isnot => if isNon y then some (.bl (!isNon x), h) else none
    | .eq => (eqTop h x y).map fun b => (.bl b, h)
    | .ne => (neTop h x y).map fun b => (.bl (!b), h)
    | _ => none
theorem op_cmpP {X : Cx} (hk : X.K = G.K) (hu : X.A.units + 64 < cLine) (o : Cop) : OpR X (compareOp (copOf o)) (r2 G (cmpP o)) := by
  intro pins s σ H x y v u Q I rx ry h
  obtain ⟨ρ, h, xa, ya, z, h', r1, r2, rh, e, q⟩ := h
  unfold cmpP at e
  split at e
  · rename_i i j
    obtain rfl := r1.int_inv
    obtain rfl := r2.int_inv
    cases ek : cmpI o i j with
    | none => rw [ek] at e; cases e
    | some k =>
      rw [ek] at e
      cases e
      exact op_cmpI o pins s σ H _ _ v u Q I rx ry ⟨i, j, k, rfl, rfl, ek, q ρ H .refl rh _ (.bl k)⟩
  · split at e
    · split at e
      · rename_i c
        cases e
        have hy : y = .non := of_decide_eq_true (by rw [r2.isNon]; exact c)
        refine op_isN pins s σ H _ _ v u Q I rx ry ⟨hy, ?_⟩
        rw [r1.isNon]
        exact q ρ H .refl rh _ (.bl _)
      · cases e
    · split at e
      · rename_i c
        cases e
        have hy : y = .non := of_decide_eq_true (by rw [r2.isNon]; exact c)
        refine op_notN pins s σ H _ _ v u Q I rx ry ⟨hy, ?_⟩
        rw [r1.isNon]
        exact q ρ H .refl rh _ (.bl _)
      · cases e
    · unfold eqTop at e
      cases es : eqStr xa ya with
      | some b =>
        rw [es] at e
        cases e
        obtain ⟨p, w, rfl, rfl, rfl⟩ := eqStr_inv es
        obtain rfl := r1.str_inv
        obtain rfl := r2.str_inv
        refine op_eq pins s σ H _ _ v u Q I rx ry ⟨rfl, ?_⟩
        rw [show decide (V.str p = V.str w) = decide (p = w) by simp]
        exact q ρ H .refl rh _ (.bl _)
      | none =>
      rw [es] at e
      dsimp only at e
      by_cases c : topSame h xa ya = true
      · rw [if_pos c] at e
        cases e
        exact op_same hk hu I rx ry r1 r2 rh c (q ρ H .refl rh _ (.bl true))
      · rw [if_neg c] at e
        cases ek : eqPy h xa ya with
        | none => rw [ek] at e; cases e
        | some b =>
        rw [ek] at e
        cases e
        obtain ⟨d, d', h1, h2, s1, s2, ee⟩ := eqPy_dp rh r1 r2 ek
        refine op_eqD hu pins s σ H _ _ v u Q I rx ry ⟨d, d', by rw [hk]; exact h1, by rw [hk]; exact h2, s1, s2, ?_⟩
        rw [ee]
        exact q ρ H .refl rh _ (.bl _)
    · unfold neTop at e
      cases es : eqStr xa ya with
      | some b =>
        rw [es] at e
        cases e
        obtain ⟨p, w, rfl, rfl, rfl⟩ := eqStr_inv es
        obtain rfl := r1.str_inv
        obtain rfl := r2.str_inv
        refine op_ne pins s σ H _ _ v u Q I rx ry ⟨rfl, ?_⟩
        rw [show decide (V.str p = V.str w) = decide (p = w) by simp]
        exact q ρ H .refl rh _ (.bl _)
      | none =>
      rw [es] at e
      dsimp only at e
      cases ek : eqPy h xa ya with
      | none => rw [ek] at e; cases e
      | some b =>
        rw [ek] at e
        cases e
        obtain ⟨d, d', h1, h2, s1, s2, ee⟩ := eqPy_dp rh r1 r2 ek
        refine op_neD hu pins s σ H _ _ v u Q I rx ry ⟨d, d', by rw [hk]; exact h1, by rw [hk]; exact h2, s1, s2, ?_⟩
        rw [ee]
        exact q ρ H .refl rh _ (.bl _)
    · cases e
end
end Mini
set_option autoImplicit false
set_option maxHeartbeats 4000000
/-! Mini, sixth part: own == and !=, isinstance, repr, the other built-ins. -/
namespace Mini
open PySem PySem.Spec L2
open PyProof.Rows hiding St
section
variable {T : Top} {cal : Nat → List AV → AH → R AV} {lvl : Nat} {X : Cx} {W : WX} {G : Gr}

theorem clsAt_some {P : Prog} {g : Nat} {c : MCls} (h : clsAt P g = some c) : P g = some (.cls c) := by
  unfold clsAt at h
  split at h
  · rename_i c' e; cases h; exact e
  · cases h
theorem RH.ins {ρ : List Addr} {h : AH} {H : Hp} (r : RH G ρ h H) {k c : Nat} {xs : List (Str × AV)} {a : Addr} (e : h[k]? = some (.ins c xs)) (ea : ρ[k]? = some a) : ∃ dx vs, H a = some (.ins (G.ad c) dx vs) ∧ RF G ρ H xs vs := by
  cases r.at' k _ a e ea with
  | ins z rr => exact ⟨_, _, z, rr⟩
theorem RH.dct {ρ : List Addr} {h : AH} {H : Hp} (r : RH G ρ h H) {k : Nat} {xs : List (Str × AV)} {a : Addr} (e : h[k]? = some (.dct xs)) (ea : ρ[k]? = some a) : ∃ vs, H a = some (.dK vs) ∧ RD G ρ H xs vs := by
  cases r.at' k _ a e ea with
  | dct z rr => exact ⟨_, z, rr⟩
theorem insOf_some {h : AH} {x : AV} {c : Nat} (e : insOf h x = some c) : ∃ k fs, x = .ref k ∧ h[k]? = some (.ins c fs) := by
  unfold insOf at e
  split at e
  · rename_i k
    split at e
    · rename_i c' fs hk
      cases e
      exact ⟨k, fs, rfl, hk⟩
    · cases e
  · cases e
/-- the class of a value, as the layer has it -/
theorem td_ty (top : TopOk T X.mg) {ρ : List Addr} {h : AH} {H : Hp} (rh : RH T.G ρ h H) {x : AV} {v : V} {t : TD} (r : RV T.G ρ H x v) (e : tdOf h x = some t) (ok : (isTD T.Pr t t).isSome = true) : TyX T.G.K H v (tdV T.G t) := by
  cases r with
  | non => cases e; exact .base .non
  | bl b => cases e; exact .base (.bl b)
  | int i => cases e; exact .base (.int i)
  | str y => cases e; exact .base (.str y)
  | ty n => cases e
  | glo g => cases e
  | tup hs rr =>
    cases e
    rcases hs with z | ⟨o, its, n, hk, hc, _⟩
    · exact .base (.tup z)
    · exact .kTuple hk hc
  | ref ea =>
    unfold tdOf at e
    dsimp only at e
    split at e
    · rename_i xs hk
      cases e
      obtain ⟨vs, z, _⟩ := rh.lst hk ea
      exact .base (.lst z)
    · rename_i xs hk
      cases e
      cases rh.at' _ _ _ hk ea with
      | frz z _ => exact .base (.frz z)
      | kls z _ =>
        obtain ⟨o, its, n, h1, h2, _⟩ := z
        exact .kList h1 h2
    · rename_i xs hk
      cases e
      obtain ⟨vs, z, _⟩ := rh.dct hk ea
      exact .base (.dK z)
    · rename_i c fs hk
      cases e
      obtain ⟨dx, vs, z, _⟩ := rh.ins hk ea
      have hc : ∃ cc, clsAt T.Pr c = some cc := by
        dsimp only [isTD] at ok
        split at ok
        · rename_i q
          exact Option.isSome_iff_exists.mp (Bool.and_eq_true_iff.mp q).1
        · cases ok
      obtain ⟨cc, hc⟩ := hc
      have C := top.cl c cc (clsAt_some hc)
      exact .base (.ins z C.cls C.ca top.kn top.kt C.mo)
    · cases e
theorem RV.cls {ρ : List Addr} {H : Hp} {c : AV} {v : V} {u : TD} (r : RV G ρ H c v) (e : tdC c = some u) : ClsV v (tdV G u) := by
  cases r <;> first | (cases e; constructor) | cases e
theorem isTD_self {P : Prog} {t u : TD} {b : Bool} (h : isTD P t u = some b) : (isTD P t t).isSome = true := by
  cases t with
  | b S =>
    cases u with
    | b U =>
      dsimp only [isTD] at h ⊢
      split at h
      · rename_i c
        rw [if_pos (by rw [(Bool.and_eq_true_iff.mp c).1]; rfl)]; rfl
      · cases h
    | c g =>
      dsimp only [isTD] at h ⊢
      split at h
      · rename_i c
        rw [if_pos (by rw [(Bool.and_eq_true_iff.mp c).2]; rfl)]; rfl
      · cases h
  | c g =>
    cases u with
    | b U =>
      dsimp only [isTD] at h ⊢
      split at h
      · rename_i c
        rw [if_pos (by rw [(Bool.and_eq_true_iff.mp c).1]; rfl)]; rfl
      · cases h
    | c k =>
      dsimp only [isTD] at h ⊢
      split at h
      · rename_i c
        rw [if_pos (by rw [(Bool.and_eq_true_iff.mp c).1]; rfl)]; rfl
      · cases h
/-- the type of a value, as the machine finds it -/
theorem td_looks (top : TopOk T X.mg) (hk : X.K = T.G.K) {pins : List (Addr × Obj)} {σ : L2.St} {s : Shared} {ρ : List Addr} {h : AH} {H : Hp} (I : Inv X pins σ H s) (rh : RH T.G ρ h H) {x : AV} {v : V} {u : Value} {t : TD} (r : RV T.G ρ H x v) (ru : RelV v u) (e : tdOf h x = some t)
    (ok : (isTD T.Pr t t).isSome = true) : PySem.W.Looks (model X.prog X.w) s.heap (typeOf u) (tdV T.G t) := by
  have ty := td_ty (X := X) top rh r e ok
  rw [← hk] at ty
  obtain ⟨P, Z, p, _⟩ := kit_of I ru ty
  exact Z.ty _ _ I.kIn p
/-- an own == or != -/
theorem op_own (rd : Rdy T cal lvl X W) (o : CmpOp) (nm : Str) (ho : (cmpInfo o).2.1 = nm) (hco : ∀ a b, compareOp o a b = richCompare o a b) (f : MCls → Option Nat)
    (hf : ∀ g c e, T.Pr g = some (.cls c) → f c = some e → PySem.W.findIn T.G.K (.ref (T.G.ad g)) nm = some (some (.ref (T.G.ad e))) ∧ PySem.W.isFn T.G.K (.ref (T.G.ad e)) = true) (hdef : ∀ g c e, T.Pr g = some (.cls c) → f c = some e → ∃ d, T.Pr e = some (.def_ d) ∧ d.np = 2) :
    OpR X (compareOp o) (r2 T.G fun x y h => match ownA T.Pr cal f x y h with
      | some r => r
      | none => none) := by
  intro pins s σ H x y v u Q I rx ry hh
  obtain ⟨ρ, h, xa, ya, z, h', r1, r2, rh, e, q⟩ := hh
  have e' : ∃ c g t, insOf h xa = some c ∧ (clsAt T.Pr c).bind f = some g ∧ tdOf h ya = some t ∧ (isTD T.Pr t t).isSome = true ∧ cal g [xa, ya] h = .ok z h' := by
    replace e : (match ownA T.Pr cal f xa ya h with
      | some r => r
      | none => none) = some (z, h') := e
    unfold ownA at e
    cases hc : insOf h xa with
    | none => rw [hc] at e; cases e
    | some c =>
      rw [hc] at e
      dsimp only [Option.map] at e
      cases hg : (clsAt T.Pr c).bind f with
      | none => rw [hg] at e; cases e
      | some g =>
        cases ht : tdOf h ya with
        | none => rw [hg, ht] at e; cases e
        | some t =>
          rw [hg, ht] at e
          dsimp only at e
          split at e
          · rename_i ok
            refine ⟨c, g, t, rfl, hg, rfl, ok, ?_⟩
            cases hcal : cal g [xa, ya] h with
            | ok a k => rw [hcal] at e; cases e; rfl
            | exc _ _ _ => rw [hcal] at e; cases e
            | bad => rw [hcal] at e; cases e
          · cases e
  obtain ⟨c, g, t, hc, hg, ht, ok, hcal⟩ := e'
  obtain ⟨k, fs, rfl, hk⟩ := insOf_some hc
  cases hcc : clsAt T.Pr c with
  | none => rw [hcc] at hg; cases hg
  | some cc =>
    rw [hcc] at hg
    have hg' : f cc = some g := hg
    have hP := clsAt_some hcc
    obtain ⟨h1, h2⟩ := hf c cc g hP hg'
    obtain ⟨d, hd, hnp⟩ := hdef c cc g hP hg'
    have C := rd.top.cl c cc hP
    obtain ⟨a, rfl, ea⟩ := r1.ref_inv
    obtain ⟨dx, vs, hi, rf⟩ := rh.ins hk ea
    obtain ⟨fd, F, hb⟩ := rd.tab.fn g d hd
    obtain rfl : v = .ref a := rx
    rw [hco]
    obtain ⟨mA, J, _⟩ := ins_get I.hok hi
    obtain ⟨od, J, _⟩ := J.look
    obtain ⟨m, hF⟩ := I.fr
    have L := td_looks rd.top rd.k I rh r2 ry ht ok
    refine PySem.W.cmp_K (op := o) (tb := tdV T.G t) rd.room.units0 hF I.ok.mod.kin J L (by rw [rd.k]; exact C.nf t ok) (f := T.G.ad g) (by rw [ho, rd.k]; exact h1) (by rw [rd.k]; exact h2) ?_
    have sp : spC T.G cal g d.np [.ref a, y] H Q (WE W σ) := by
      refine ⟨hnp.symm, ρ, [.ref k, ya], h, .cons r1 (.cons r2 .nil), rh, ?_⟩
      rw [hcal]
      intro ρ' H' e' rh' w rw'
      exact q ρ' H' e' rh' w rw'
    have F' : FnG X.prog X.w X.K X.mg X.base lvl (T.G.ad g) fd d.params (spC T.G cal g d.np) := by rw [rd.k]; exact F
    have hl : [Value.ref a, u].length = d.params.length := by rw [rd.top.np g d hd, hnp]; rfl
    refine thn (run_G F' rd.gd (rd.room.mono (Nat.le_succ _)) rd.tk I (kw := []) (bs := [.ref a, u]) (.of_eq (hb [.ref a, u] [] [] _ (bindK_nil hl) rfl)) (.cons (show RelV (.ref a) (.ref a) from rfl) (.cons ry .nil)) sp) fun w s' hw => ?_
    obtain ⟨z', H', I', rz, qz⟩ := hw
    have hne : w ≠ .notImplemented := fun e => by subst e; have ab := rz.abs; cases ab
    cases w <;> first | exact absurd rfl hne | exact ⟨z', H', I', rz, qz⟩
end
end Mini
set_option autoImplicit false
set_option maxHeartbeats 4000000
/-! Mini, seventh part: built-in functions. -/
namespace Mini
open PySem PySem.Spec L2
open PyProof.Rows hiding St
section
variable {T : Top} {cal : Nat → List AV → AH → R AV} {lvl : Nat} {X : Cx} {W : WX} {G : Gr}

def rB (G : Gr) (f : List AV → AH → O AV) : List V → Hp → VK → Prop := fun vs H Q => ∃ ρ h xs z h', RVs G ρ H xs vs ∧ RH G ρ h H ∧ f xs h = some (z, h') ∧
  ∀ ρ' H', Ext G ρ H ρ' H' → RH G ρ' h' H' → ∀ v, RV G ρ' H' z v → Q v H'
/-- no address of data is that of sys.modules -/
theorem toPyD_reads (top : TopOk T X.mg) (hk : X.K = T.G.K) {pins : List (Addr × Obj)} {σ : L2.St} {s : Shared} {ρ : List Addr} {h : AH} {H : Hp} (I : Inv X pins σ H s) (rh : RH T.G ρ h H) :
    ∀ (n : Nat) (x : AV) (v : V) (u : Value) (d : PyData), RV T.G ρ H x v → RelV v u → toPyD h n x = some d → ∃ as, Reads s.heap u d as ∧ sysModules ∉ as := by
  obtain ⟨oS, esS, nS, kS, dS⟩ := top.sys
  have hS : s.heap.get? sysModules = some oS := I.kIn _ _ (by rw [hk]; exact kS)
  have nseq : ∀ {a : Addr} {o : Obj} {its : Array Value} {n : Nat}, s.heap.get? a = some o → o.data = .seq its n → sysModules ≠ a := fun {a o its n} h1 h2 e => by
    subst e
    rw [hS] at h1
    cases h1
    rw [dS] at h2
    cases h2
  intro n
  induction n with
  | zero =>
    intro x v u d r ru e
    cases r with
    | non => cases e; cases ru; exact ⟨_, .none, by simp⟩
    | bl b => cases e; cases ru; exact ⟨_, .bool b, by simp⟩
    | int b => cases e; obtain ⟨t, rfl⟩ := ru; exact ⟨_, .int b t, by simp⟩
    | str b => cases e; obtain ⟨t, rfl⟩ := ru; exact ⟨_, .str b t, by simp⟩
    | _ => cases e
  | succ n ih =>
    have all : ∀ {xs : List AV} {vs : List V} {us : List Value} {ds : List PyData}, RVs T.G ρ H xs vs → Vals vs us → optAll (toPyD h n) xs = some ds → ∃ as, ReadsAll s.heap us ds as ∧ sysModules ∉ as := by
      intro xs
      induction xs with
      | nil =>
        intro vs us ds r ru e
        cases r; cases ru; cases e
        exact ⟨_, .nil, by simp⟩
      | cons x xs ih2 =>
        intro vs us ds r ru e
        cases r with
        | cons r1 r2 =>
          cases ru with
          | cons u1 u2 =>
            unfold optAll at e
            split at e
            · rename_i d ds' h1 h2
              cases e
              obtain ⟨as, q1, q2⟩ := ih _ _ _ _ r1 u1 h1
              obtain ⟨bs, q3, q4⟩ := ih2 r2 u2 h2
              exact ⟨_, .cons q1 q3, by simp [q2, q4]⟩
            · cases e
    intro x v u d r ru e
    cases r with
    | non => cases e; cases ru; exact ⟨_, .none, by simp⟩
    | bl b => cases e; cases ru; exact ⟨_, .bool b, by simp⟩
    | int b => cases e; obtain ⟨t, rfl⟩ := ru; exact ⟨_, .int b t, by simp⟩
    | str b => cases e; obtain ⟨t, rfl⟩ := ru; exact ⟨_, .str b t, by simp⟩
    | ty b => cases e
    | glo b => cases e
    | tup hs rr =>
      rename_i a vs xs
      dsimp only [toPyD] at e
      cases q : optAll (toPyD h n) xs with
      | none => rw [q] at e; cases e
      | some ds =>
        rw [q] at e
        cases e
        cases ru
        have hs := hs.sq
        rw [← hk] at hs
        obtain ⟨its, rv, ⟨o, ho, hc, n', hd⟩, _⟩ := I.tuple hs
        obtain ⟨as, hr, hn⟩ := all rr rv q
        exact ⟨_, .tuple ho hc hd (by simpa using hr), hn⟩
    | ref ea =>
      rename_i k a
      dsimp only [toPyD] at e
      cases ru
      have go : ∀ xs, seqOf h (.ref k) = some xs → (optAll (toPyD h n) xs).map PyData.list = some d → ∃ as, Reads s.heap (.ref a) d as ∧ sysModules ∉ as := fun xs hs e => by
        obtain ⟨vs, z, rr⟩ := rh.seq hs ea
        cases q : optAll (toPyD h n) xs with
        | none => rw [q] at e; cases e
        | some ds =>
          rw [q] at e
          cases e
          rw [← hk] at z
          obtain ⟨its, rv, ⟨o, n', ho, hc, _, hd⟩, _⟩ := I.list z
          obtain ⟨as, hr, hn⟩ := all rr rv q
          exact ⟨_, .list ho hc hd (by simpa using hr), by simp only [List.mem_cons, not_or]; exact ⟨nseq ho hd, hn⟩⟩
      split at e
      · rename_i xs hk'
        exact go xs (by unfold seqOf; dsimp only; rw [hk']) e
      · rename_i xs hk'
        exact go xs (by unfold seqOf; dsimp only; rw [hk']) e
      · rename_i kvs hk'
        obtain ⟨ws, z, rd⟩ := rh.dct hk' ea
        cases q : optAll (fun p : Str × AV => (toPyD h n p.2).map fun d => (PyData.str p.1, d)) kvs with
        | none => rw [q] at e; cases e
        | some ds =>
          rw [q] at e
          cases e
          obtain ⟨_, hsys, vs, kv, o, es, ep, ho, hx, hd, _, hp, _⟩ := (show ObjOk X.prog X.w H s.heap a (.dK ws) from I.hok a _ z)
          have go2 : ∀ {kvs : List (Str × AV)} {ws : List (L2.Key × V)} {vs : List (L2.Key × Value)} {es : List DictEntry} {ds : List (PyData × PyData)}, RD T.G ρ H kvs ws → KV ws vs → Pairs (mixKind X.prog X.w) es vs →
              optAll (fun p : Str × AV => (toPyD h n p.2).map fun d => (PyData.str p.1, d)) kvs = some ds → (∃ as, ReadsAll s.heap (es.map (·.key)) (ds.map (·.1)) as ∧ sysModules ∉ as) ∧ ∃ bs, ReadsAll s.heap (es.map (·.val)) (ds.map (·.2)) bs ∧ sysModules ∉ bs := by
            intro kvs
            induction kvs with
            | nil =>
              intro ws vs es ds r1 r2 r3 e
              cases r1; cases r2; cases r3; cases e
              exact ⟨⟨_, .nil, by simp⟩, _, .nil, by simp⟩
            | cons p kvs ih2 =>
              intro ws vs es ds r1 r2 r3 e
              cases r1 with
              | cons s1 s2 =>
                rename_i f x v ws'
                cases r2 with
                | cons t1 t2 =>
                  rename_i kv vs'
                  cases r3 with
                  | cons u1 u2 u3 =>
                    rename_i en es'
                    unfold optAll at e
                    split at e
                    · rename_i d ds' h1 h2
                      cases e
                      dsimp only at h1
                      cases q1 : toPyD h n x with
                      | none => rw [q1] at h1; cases h1
                      | some dx =>
                        rw [q1] at h1
                        cases h1
                        obtain ⟨⟨as, a1, a2⟩, bs, b1, b2⟩ := ih2 s2 t2 u3 h2
                        obtain ⟨cs, c1, c2⟩ := ih _ _ _ _ s1 t1.2 q1
                        have hkey : ∃ t, en.key = .str f t := by
                          have e1 : kv.1 = Sum.inr f := t1.1.symm
                          rw [e1] at u1
                          exact Value.isStrOf_shape (x := f) (v := en.key) u1
                        obtain ⟨t, hkey⟩ := hkey
                        refine ⟨⟨[] ++ as, ?_, by simpa using a2⟩, cs ++ bs, ?_, by simp [c2, b2]⟩
                        · rw [List.map_cons, List.map_cons, hkey]
                          exact .cons (.str f t) a1
                        · rw [List.map_cons, List.map_cons, u2]
                          exact .cons c1 b1
                    · cases e
          obtain ⟨⟨as, a1, a2⟩, bs, b1, b2⟩ := go2 rd kv hp q
          refine ⟨_, .dict ho hx.1 hd a1 b1, ?_⟩
          have hne : sysModules ≠ a := fun e => by
            have : (a == sysModules) = true := by rw [e]; simp
            rw [this] at hsys; cases hsys
          simp only [List.mem_cons, List.mem_append, not_or]
          simp [hne, a2, b2]
      · cases e
theorem call_repr (rd : Rdy T cal lvl X W) : CallR X (.builtin "repr") (rB T.G (biA T.Pr .repr)) := by
  intro pins s σ H vs us Q I r hh
  obtain ⟨ρ, h, xs, z, h', rv, rh, e, q⟩ := hh
  have e' : ∃ x d, xs = [x] ∧ toPyD h 60 x = some d ∧ d.showable = true ∧ d.shown.length ≤ sizeLine ∧ d.depth ≤ 64 ∧ z = .str d.shown ∧ h' = h := by
    replace e : biRepr xs h = some (z, h') := e
    unfold biRepr at e
    split at e
    · rename_i x
      split at e
      · rename_i d hd
        split at e
        · rename_i c
          unfold showOk at c
          simp only [Bool.and_eq_true, decide_eq_true_eq] at c
          cases e
          exact ⟨x, d, rfl, hd, c.1.1, c.1.2, c.2, rfl, rfl⟩
        · cases e
      · cases e
    · cases e
  obtain ⟨x, d, rfl, hd, hsh, hlen, hdep, rfl, rfl⟩ := e'
  cases rv with
  | cons r1 r2 =>
    cases r2
    obtain ⟨u, rfl, ru⟩ := vals1 r
    obtain ⟨as, hr, hn⟩ := toPyD_reads rd.top rd.k I rh 60 x _ u d r1 ru hd
    have fin : ∀ h2 t2 t3, (∀ b o, s.heap.get? b = some o → h2.get? b = some o) → EP X pins σ Q (.str d.shown t2) { s with heap := h2, toks := t3 } := fun h2 t2 t3 k =>
      ⟨.str d.shown, H, I.kept k, ⟨_, rfl⟩, q ρ H .refl rh _ (.str _)⟩
    have hu : X.A.units + 200 < cLine := by have := rd.room.un; omega
    cases hr with
    | none => exact PySem.P.repr_of_none (fin _ _ _ fun _ _ e => e)
    | bool b =>
      refine PySem.P.repr_of_bool ?_
      exact fin _ _ _ fun _ _ e => e
    | int i t =>
      have hz : i.natAbs.log2 < 1920 := of_decide_eq_true (by simpa [PyData.showable] using hsh)
      exact PySem.P.repr_of_int hz (fin _ _ _ fun _ _ e => e)
    | str y t => exact PySem.P.repr_of_str (fin _ _ _ fun _ _ e => e) (by simpa [PyData.shown] using hlen)
    | list h1 h2 h3 h4 => exact repr_of_reads' (.list h1 h2 h3 h4) hsh (fun _ => hn) rd.gd (by omega) (fun _ _ e => e) (fun h2 t2 t3 k => fin h2 t2 t3 k) hlen
    | tuple h1 h2 h3 h4 => exact repr_of_reads' (.tuple h1 h2 h3 h4) hsh (fun _ => hn) rd.gd (by omega) (fun _ _ e => e) (fun h2 t2 t3 k => fin h2 t2 t3 k) hlen
    | dict h1 h2 h3 h4 h5 => exact repr_of_reads' (.dict h1 h2 h3 h4 h5) hsh (fun _ => hn) rd.gd (by omega) (fun _ _ e => e) (fun h2 t2 t3 k => fin h2 t2 t3 k) hlen
end
end Mini
set_option autoImplicit false
set_option maxHeartbeats 4000000
/-! Mini, eighth part: the other built-ins, subscripts, fields, methods, stores. -/
namespace Mini
open PySem PySem.Spec L2
open PyProof.Rows hiding St
section
variable {T : Top} {cal : Nat → List AV → AH → R AV} {lvl : Nat} {X : Cx} {W : WX} {G : Gr}

theorem RVs.one {ρ : List Addr} {H : Hp} {x : AV} {vs : List V} (r : RVs G ρ H [x] vs) : ∃ v, vs = [v] ∧ RV G ρ H x v := by
  cases r with
  | cons a b => cases b; exact ⟨_, rfl, a⟩
theorem RVs.two {ρ : List Addr} {H : Hp} {x y : AV} {vs : List V} (r : RVs G ρ H [x, y] vs) : ∃ v w, vs = [v, w] ∧ RV G ρ H x v ∧ RV G ρ H y w := by
  cases r with
  | cons a b => cases b with
    | cons c d => cases d; exact ⟨_, _, rfl, a, c⟩
/-- the new object's number -/
theorem RV.fresh {ρ : List Addr} {h : AH} {H H' : Hp} {p : Addr} (rh : RH G ρ h H) : RV G (ρ ++ [p]) H' (.ref h.length) (.ref p) := .ref (by
  rw [List.getElem?_append_right (by rw [rh.len]; exact Nat.le_refl _), rh.len]; simp)
theorem call_lenA (hk : X.K = G.K) : CallR X (.builtin "len") (rB G biLen) := by
  intro pins s σ H vs us Q I r hh
  obtain ⟨ρ, h, xs, z, h', rv, rh, e, q⟩ := hh
  unfold biLen at e
  split at e
  · rename_i x
    cases es : seqOf h x with
    | none => rw [es] at e; cases e
    | some ys =>
      rw [es] at e
      cases e
      obtain ⟨v, rfl, r1⟩ := rv.one
      obtain ⟨a, ws, rfl, hs, rr⟩ := r1.items rh es
      rw [← hk] at hs
      refine call_len_seq pins s σ H _ us Q I r ⟨a, ws, rfl, hs, ?_⟩
      rw [← rr.length]
      exact q ρ H .refl rh _ (.int _)
  · cases e
theorem call_absA : CallR X (.builtin "abs") (rB G biAbs) := by
  intro pins s σ H vs us Q I r hh
  obtain ⟨ρ, h, xs, z, h', rv, rh, e, q⟩ := hh
  unfold biAbs at e
  split at e
  · cases e
    obtain ⟨v, rfl, r1⟩ := rv.one
    obtain rfl := r1.int_inv
    exact call_abs pins s σ H _ us Q I r ⟨_, rfl, q ρ H .refl rh _ (.int _)⟩
  · cases e
theorem call_minA (hc : X.calm = true) : CallR X (.builtin "min") (rB G biMin) := by
  intro pins s σ H vs us Q I r hh
  obtain ⟨ρ, h, xs, z, h', rv, rh, e, q⟩ := hh
  unfold biMin at e
  split at e
  · cases e
    obtain ⟨v, w, rfl, r1, r2⟩ := rv.two
    obtain rfl := r1.int_inv
    obtain rfl := r2.int_inv
    exact call_min2 hc pins s σ H _ us Q I r ⟨_, _, rfl, q ρ H .refl rh _ (.int _)⟩
  · cases e
theorem call_maxA (hc : X.calm = true) : CallR X (.builtin "max") (rB G biMax) := by
  intro pins s σ H vs us Q I r hh
  obtain ⟨ρ, h, xs, z, h', rv, rh, e, q⟩ := hh
  unfold biMax at e
  split at e
  · cases e
    obtain ⟨v, w, rfl, r1, r2⟩ := rv.two
    obtain rfl := r1.int_inv
    obtain rfl := r2.int_inv
    exact call_max2 hc pins s σ H _ us Q I r ⟨_, _, rfl, q ρ H .refl rh _ (.int _)⟩
  · cases e
theorem call_gcdA : CallR X (.builtin "math.gcd") (rB G biGcd) := by
  intro pins s σ H vs us Q I r hh
  obtain ⟨ρ, h, xs, z, h', rv, rh, e, q⟩ := hh
  unfold biGcd at e
  split at e
  · cases e
    obtain ⟨v, w, rfl, r1, r2⟩ := rv.two
    obtain rfl := r1.int_inv
    obtain rfl := r2.int_inv
    exact cr_gcd pins s σ H _ us Q I r ⟨_, _, rfl, q ρ H .refl rh _ (.int _)⟩
  · cases e
theorem call_intA : CallR X (.type "int") (rB G biInt) := by
  intro pins s σ H vs us Q I r hh
  obtain ⟨ρ, h, xs, z, h', rv, rh, e, q⟩ := hh
  unfold biInt at e
  split at e
  · cases e
    obtain ⟨v, rfl, r1⟩ := rv.one
    obtain rfl := r1.int_inv
    exact call_int1 pins s σ H _ us Q I r (.inl ⟨_, rfl, q ρ H .refl rh _ (.int _)⟩)
  · cases e
    obtain ⟨v, rfl, r1⟩ := rv.one
    obtain rfl := r1.bl_inv
    exact call_int1 pins s σ H _ us Q I r (.inr ⟨_, rfl, q ρ H .refl rh _ (.int _)⟩)
  · cases e
theorem call_tupleA (hk : X.K = G.K) : CallR X (.type "tuple") (rB G biTuple) := by
  intro pins s σ H vs us Q I r hh
  obtain ⟨ρ, h, xs, z, h', rv, rh, e, q⟩ := hh
  unfold biTuple at e
  split at e
  · rename_i x
    cases es : seqOf h x with
    | none => rw [es] at e; cases e
    | some ys =>
      rw [es] at e
      cases e
      obtain ⟨v, rfl, r1⟩ := rv.one
      have r1' := r1
      cases r1 with
      | tup h1 rr =>
        cases es
        exact call_tuple_of pins s σ H _ us Q I r ⟨_, _, rfl, .inr ⟨by rw [hk]; exact h1.sq, q ρ H .refl rh _ r1'⟩⟩
      | ref ea =>
        obtain ⟨ws, hs, rr⟩ := rh.seq es ea
        rw [← hk] at hs
        refine call_tuple_of pins s σ H _ us Q I r ⟨_, ws, rfl, .inl ⟨hs, fun l hl => ?_⟩⟩
        have ex : Ext G ρ H ρ (upd H l (.tup ws)) := by
          have := Ext.new (G := G) (ρ := ρ) (u := .tup ws) hl []
          simpa using this
        exact q ρ _ ex ⟨rh.len, fun k o b h1 h2 => (rh.at' k o b h1 h2).stay ex fun u hu => by rw [upd_ne (ne_of_none hu hl)]; exact hu, rh.nd⟩ _ (.tup (.inl upd_same) (rr.ext ex))
      | _ => cases es
  · cases e
theorem call_listA (hk : X.K = G.K) : CallR X (.type "list") (rB G biList) := by
  intro pins s σ H vs us Q I r hh
  obtain ⟨ρ, h, xs, z, h', rv, rh, e, q⟩ := hh
  unfold biList at e
  split at e
  · rename_i x
    cases es : seqOf h x with
    | none => rw [es] at e; cases e
    | some ys =>
      rw [es] at e
      cases e
      obtain ⟨v, rfl, r1⟩ := rv.one
      obtain ⟨a, ws, rfl, hs, rr⟩ := r1.items rh es
      rw [← hk] at hs
      refine call_list_of pins s σ H _ us Q I r ⟨a, ws, rfl, hs, fun l hl => ?_⟩
      have ex : Ext G ρ H (ρ ++ [l]) (upd H l (.lst ws)) := Ext.new hl [l]
      exact q _ _ ex (rh.new hl rfl (.lst upd_same (rr.ext ex))) _ (.fresh rh)
  · cases e
theorem bools {ρ : List Addr} {H : Hp} : ∀ {xs : List AV} {vs : List V} {bs : List Bool}, RVs G ρ H xs vs → boolsOf xs = some bs → vs = bs.map V.bl
  | [], _, bs, .nil, e => by cases e; rfl
  | x :: xs, _, bs, .cons r t, e => by
    cases r with
    | bl b =>
      unfold boolsOf at e
      cases q : boolsOf xs with
      | none => rw [q] at e; cases e
      | some cs => rw [q] at e; cases e; rw [bools t q]; rfl
    | _ => cases e
/-- a list of what is in a tuple or list, for all and any: only of lists -/
theorem call_allA (hk : X.K = G.K) (hc : X.calm = true) : CallR X (.builtin "all") (rB G biAll) := by
  intro pins s σ H vs us Q I r hh
  obtain ⟨ρ, h, xs, z, h', rv, rh, e, q⟩ := hh
  unfold biAll at e
  split at e
  · rename_i k
    cases es : (seqOf h (.ref k)).bind boolsOf with
    | none => rw [es] at e; cases e
    | some bs =>
      rw [es] at e
      cases e
      obtain ⟨v, rfl, r1⟩ := rv.one
      obtain ⟨a, rfl, ea⟩ := r1.ref_inv
      cases e2 : seqOf h (.ref k) with
      | none => rw [e2] at es; cases es
      | some ys =>
        rw [e2] at es
        obtain ⟨ws, hs, rr⟩ := rh.seq e2 ea
        rw [bools rr es, ← hk] at hs
        exact cr_all hc pins s σ H _ us Q I r ⟨a, bs, rfl, hs, q ρ H .refl rh _ (.bl _)⟩
  · cases e
theorem call_anyA (hk : X.K = G.K) (hc : X.calm = true) : CallR X (.builtin "any") (rB G biAny) := by
  intro pins s σ H vs us Q I r hh
  obtain ⟨ρ, h, xs, z, h', rv, rh, e, q⟩ := hh
  unfold biAny at e
  split at e
  · rename_i k
    cases es : (seqOf h (.ref k)).bind boolsOf with
    | none => rw [es] at e; cases e
    | some bs =>
      rw [es] at e
      cases e
      obtain ⟨v, rfl, r1⟩ := rv.one
      obtain ⟨a, rfl, ea⟩ := r1.ref_inv
      cases e2 : seqOf h (.ref k) with
      | none => rw [e2] at es; cases es
      | some ys =>
        rw [e2] at es
        obtain ⟨ws, hs, rr⟩ := rh.seq e2 ea
        rw [bools rr es, ← hk] at hs
        exact cr_any hc pins s σ H _ us Q I r ⟨a, bs, rfl, hs, q ρ H .refl rh _ (.bl _)⟩
  · cases e
theorem isInst1_kit (top : TopOk T X.mg) {h : AH} {x : AV} {t : TD} (ht : tdOf h x = some t) {ρ : List Addr} {H : Hp} {c : AV} {v : V} {a : Bool} (r : RV T.G ρ H c v) (h1 : isInst1 T.Pr h x c = some a) : ∃ u, ClsV v u ∧ PySem.W.kitOne T.G.K (tdV T.G t) u = some a := by
  unfold isInst1 at h1
  rw [ht] at h1
  cases hc : tdC c with
  | none => rw [hc] at h1; cases h1
  | some u =>
    rw [hc] at h1
    exact ⟨tdV T.G u, r.cls hc, top.kit t u a h1⟩
theorem isInsts_kit (top : TopOk T X.mg) {h : AH} {x : AV} {t : TD} (ht : tdOf h x = some t) {ρ : List Addr} {H : Hp} : ∀ {cs : List AV} {vs : List V} {b : Bool}, RVs T.G ρ H cs vs → isInsts T.Pr h x cs = some b →
    ∃ us, Paired ClsV vs us ∧ PySem.W.kitAny T.G.K (tdV T.G t) us = some b
  | [], _, b, .nil, e => by cases e
  | [c], _, b, .cons r .nil, e => by
    obtain ⟨u, h1, h2⟩ := isInst1_kit top ht r (show isInst1 T.Pr h x c = some b from e)
    exact ⟨[u], .cons h1 .nil, kitAny_cons h2 (fun e => by subst e; rfl) fun e => e⟩
  | c :: c2 :: cs, _, b, .cons r rr, e => by
    have e' : (match isInst1 T.Pr h x c, isInsts T.Pr h x (c2 :: cs) with
      | some a, some b => some (a || b)
      | _, _ => none) = some b := e
    split at e'
    · rename_i a b' h1 h2
      cases e'
      obtain ⟨us, p, k⟩ := isInsts_kit top ht rr h2
      obtain ⟨u, h3, h4⟩ := isInst1_kit top ht r h1
      refine ⟨u :: us, .cons h3 p, kitAny_cons h4 (fun e => ?_) fun e => ?_⟩
      · subst e; simpa using k
      · subst e; rfl
    · cases e'
theorem call_isinstA (rd : Rdy T cal lvl X W) : CallR X (.builtin "isinstance") (rB T.G (biIsinst T.Pr)) := by
  intro pins s σ H vs us Q I r hh
  obtain ⟨ρ, h, xs, z, h', rv, rh, e, q⟩ := hh
  unfold biIsinst at e
  split at e
  · rename_i x cs
    cases es : isInsts T.Pr h x cs with
    | none => rw [es] at e; cases e
    | some b =>
      rw [es] at e
      cases e
      obtain ⟨v, w, rfl, r1, r2⟩ := rv.two
      have ht : ∃ t, tdOf h x = some t ∧ (isTD T.Pr t t).isSome = true := by
        cases cs with
        | nil => cases es
        | cons c cs =>
          have one : ∀ a, isInst1 T.Pr h x c = some a → ∃ t, tdOf h x = some t ∧ (isTD T.Pr t t).isSome = true := fun a h1 => by
            unfold isInst1 at h1
            split at h1
            · rename_i t u ht hu
              exact ⟨t, ht, isTD_self h1⟩
            · cases h1
          cases cs with
          | nil => exact one _ es
          | cons c2 cs =>
            have e' : (match isInst1 T.Pr h x c, isInsts T.Pr h x (c2 :: cs) with
              | some a, some b => some (a || b)
              | _, _ => none) = some b := es
            split at e'
            · rename_i a b' h1 h2
              exact one _ h1
            · cases e'
      obtain ⟨t, ht, ok⟩ := ht
      have ty := td_ty rd.top rh r1 ht ok
      rw [← rd.k] at ty
      cases r2 with
      | tup h2 rr =>
        rename_i a ws
        obtain ⟨us', p, k⟩ := isInsts_kit rd.top ht rr es
        rw [← rd.k] at k
        rcases h2 with h2 | ⟨o, its, n, hko, hc, hd, _, rv⟩
        · exact call_isiT pins s σ H _ us Q I r ⟨v, a, ws, _, us', b, rfl, h2, p, ty, k, q ρ H .refl rh _ (.bl _)⟩
        · obtain ⟨oc, od, dt, sl⟩ := o
          simp only at hc hd
          subst hc hd
          have e3 := ClsV.all p rv
          refine call_isiK pins s σ H _ us Q I r ⟨v, a, od, us', n, sl, _, b, rfl, ?_, ty, k, q ρ H .refl rh _ (.bl _)⟩
          rw [rd.k, hko, ← e3]
  · rename_i x c _
    cases es : isInst1 T.Pr h x c with
    | none => rw [es] at e; cases e
    | some b =>
      rw [es] at e
      cases e
      obtain ⟨v, w, rfl, r1, r2⟩ := rv.two
      unfold isInst1 at es
      split at es
      · rename_i t u ht hu
        have ty := td_ty rd.top rh r1 ht (isTD_self es)
        refine call_isi pins s σ H _ us Q I r ⟨v, w, _, _, b, rfl, r2.cls hu, by rw [rd.k]; exact ty, by rw [rd.k]; exact rd.top.kit _ _ _ es, q ρ H .refl rh _ (.bl _)⟩
      · cases es
  · cases e
end
end Mini
set_option autoImplicit false
set_option maxHeartbeats 4000000
/-! Mini, ninth part: subscripts, fields, methods, stores by values. -/
namespace Mini
open PySem PySem.Spec L2
open PyProof.Rows hiding St
section
variable {T : Top} {cal : Nat → List AV → AH → R AV} {lvl : Nat} {X : Cx} {W : WX} {G : Gr}
theorem RD.get {ρ : List Addr} {H : Hp} : ∀ {xs : List (Str × AV)} {vs : List (L2.Key × V)} {f : Str} {x : AV}, RD G ρ H xs vs → xs.lookup f = some x → ∃ v, valV vs (Sum.inr f) = some v ∧ RV G ρ H x v
  | _, _, f, x, .nil, e => by simp at e
  | (g, y) :: xs, (_, v) :: vs, f, x, .cons r t, e => by
    rw [List.lookup] at e
    unfold valV
    rw [List.find?_cons]
    cases q : (f == g) with
    | true =>
      rw [q] at e
      simp only [Option.some.injEq] at e
      subst e
      have hg : f = g := by simpa using q
      subst hg
      simp only [decide_true]
      exact ⟨v, rfl, r⟩
    | false =>
      rw [q] at e
      have hg : ¬ (g = f) := fun z => by subst z; simp at q
      have hd : decide ((Sum.inr g : L2.Key) = Sum.inr f) = false := decide_eq_false fun z => hg (Sum.inr.inj z)
      simp only [hd]
      exact RD.get t e
theorem RD.any {ρ : List Addr} {H : Hp} : ∀ {xs : List (Str × AV)} {vs : List (L2.Key × V)} {f : Str}, RD G ρ H xs vs → (xs.any fun kv => decide (kv.1 = f)) = (vs.any fun kv => decide (kv.1 = Sum.inr f))
  | _, _, f, .nil => rfl
  | (g, y) :: xs, (_, v) :: vs, f, .cons r t => by
    rw [List.any_cons, List.any_cons, RD.any t]
    congr 1
    exact (key_rr g f).symm
theorem RD.map {ρ : List Addr} {H : Hp} {x : AV} {v : V} (rv : RV G ρ H x v) {f : Str} : ∀ {xs : List (Str × AV)} {vs : List (L2.Key × V)}, RD G ρ H xs vs →
    RD G ρ H (xs.map fun kv => if kv.1 = f then (kv.1, x) else kv) (vs.map fun kv => if kv.1 = Sum.inr f then (kv.1, v) else kv)
  | _, _, .nil => .nil
  | (g, y) :: xs, (_, u) :: vs, .cons r t => by
    rw [List.map_cons, List.map_cons]
    by_cases h : g = f
    · subst h
      rw [if_pos rfl, if_pos rfl]
      exact .cons rv (RD.map rv t)
    · rw [if_neg h, if_neg (fun z => h (Sum.inr.inj z))]
      exact .cons r (RD.map rv t)
theorem RD.snoc {ρ : List Addr} {H : Hp} {x : AV} {v : V} (rv : RV G ρ H x v) {f : Str} : ∀ {xs : List (Str × AV)} {vs : List (L2.Key × V)}, RD G ρ H xs vs → RD G ρ H (xs ++ [(f, x)]) (vs ++ [(Sum.inr f, v)])
  | _, _, .nil => .cons rv .nil
  | _, _, .cons r t => .cons r (RD.snoc rv t)
theorem RD.put {ρ : List Addr} {H : Hp} {x : AV} {v : V} (rv : RV G ρ H x v) {f : Str} {xs : List (Str × AV)} {vs : List (L2.Key × V)} (r : RD G ρ H xs vs) : RD G ρ H (putA xs f x) (L2.putK vs (Sum.inr f) v) := by
  unfold putA L2.putK
  rw [r.any]
  split
  · exact r.map rv
  · exact r.snoc rv
theorem RF.put {ρ : List Addr} {H : Hp} {x : AV} {v : V} (rv : RV G ρ H x v) {f : Str} : ∀ {xs : List (Str × AV)} {vs : List (Str × V)}, RF G ρ H xs vs → RF G ρ H (putFA f x xs) (putF f v vs)
  | _, _, .nil => .cons rv .nil
  | (g, y) :: xs, (_, u) :: vs, .cons r t => by
    unfold putFA putF
    by_cases h : g = f
    · rw [if_pos h, if_pos h]; exact .cons rv t
    · rw [if_neg h, if_neg h]; exact .cons r (RF.put rv t)
theorem atI_rel {ρ : List Addr} {H : Hp} {xs : List AV} {vs : List V} (r : RVs G ρ H xs vs) {i : Int} {x : AV} (e : atI xs i = some x) : ∃ v, atI vs i = some v ∧ RV G ρ H x v := by
  unfold atI at e ⊢
  rw [← r.length]
  cases q : ixN xs.length i with
  | none => rw [q] at e; cases e
  | some j => rw [q] at e; exact r.get e
/-- o[i] -/
theorem ix_A (hk : X.K = G.K) (hu : X.A.units + 1 < cLine) : IxR X (r2 G idxA) := by
  intro value slice pins s σ H x y v u Q I rx ry hh hs
  obtain ⟨ρ, h, xa, ya, z, h', r1, r2, rh, e, q⟩ := hh
  unfold idxA at e
  split at e
  · rename_i zz
    split at e
    · rename_i k
      unfold idxD at e
      split at e
      · rename_i kvs hk'
        cases el : kvs.lookup zz with
        | none => rw [el] at e; cases e
        | some w =>
          rw [el] at e
          cases e
          obtain ⟨a, rfl, ea⟩ := r1.ref_inv
          obtain rfl := r2.str_inv
          obtain ⟨ws, zd, rd⟩ := rh.dct hk' ea
          obtain ⟨wv, ew, rw'⟩ := rd.get el
          obtain rfl : v = .ref a := rx
          have g : DGet H a (V.str zz) (some wv) := by
            have := DGet.k (k := Sum.inr zz) zd
            rw [ew] at this
            exact this
          exact tail_any (dict_typeIs I g) PySem.F.slot_dict_getitem.lookup (d_getItem hu I g ry fun w' s3 I3 rw3 => ⟨wv, H, I3, rw3, q ρ H .refl rh _ rw'⟩) hs
      · cases e
    · cases e
  · rename_i i
    unfold idxS at e
    cases es : seqOf h xa with
    | none => rw [es] at e; cases e
    | some xs =>
      rw [es] at e
      dsimp only at e
      cases ei : atI xs i with
      | none => rw [ei] at e; cases e
      | some w =>
        rw [ei] at e
        cases e
        obtain rfl := r2.int_inv
        obtain ⟨a, vs, rfl, hs', rr⟩ := r1.items rh es
        obtain ⟨wv, ew, rw'⟩ := atI_rel rr ei
        rw [← hk] at hs'
        rcases hs' with hs' | hs'
        · exact ix_list value slice pins s σ H _ _ v u Q I rx ry ⟨a, vs, i, wv, rfl, rfl, hs', ew, q ρ H .refl rh _ rw'⟩ hs
        · exact ix_tup value slice pins s σ H _ _ v u Q I rx ry ⟨a, vs, i, wv, rfl, rfl, hs', ew, q ρ H .refl rh _ rw'⟩ hs
  · cases e
/-- o[i] = v -/
def rSet (G : Gr) (f : AV → AV → AV → AH → O Unit) : TSet := fun o i v H Q => ∃ ρ h oa ia va h', RV G ρ H oa o ∧ RV G ρ H ia i ∧ RV G ρ H va v ∧ RH G ρ h H ∧ f oa ia va h = some ((), h') ∧
  ∀ ρ' H', Ext G ρ H ρ' H' → RH G ρ' h' H' → Q H'
theorem set_A (hk : X.K = G.K) (hu : X.A.units + 1 < cLine) : PSet X (rSet G setIA) := by
  intro pins s σ H o i v ov iv u Q I ro ri rv hh
  obtain ⟨ρ, h, oa, ia, va, h', r1, r2, r3, rh, e, q⟩ := hh
  unfold setIA at e
  split at e
  · rename_i k zz
    split at e
    · rename_i kvs hk'
      split at e
      · rename_i hl
        cases e
        obtain ⟨a, rfl, ea⟩ := r1.ref_inv
        obtain rfl := r2.str_inv
        obtain ⟨ws, zd, rd⟩ := rh.dct hk' ea
        have hlen : ws.length < sizeLine := small1000 (by rw [← rd.length]; omega)
        have P := DPut.k (k := Sum.inr zz) (v := v) zd hlen
        have hw := (rh.at' k _ a hk' ea).is rfl
        obtain ⟨w0, hw0, _, hn1, hn2⟩ := hw
        have ex : Ext G ρ H ρ (upd H a (.dK (L2.putK ws (Sum.inr zz) v))) := Ext.put hw0 hn1 hn2
        obtain ⟨rh', ex'⟩ := rh.put (o' := .dct (putA kvs zz va)) (u := .dK (L2.putK ws (Sum.inr zz) v)) hk' ea rfl rfl (.dct upd_same ((rd.put r3).ext ex))
        exact set_dict hu pins s σ H _ _ v ov iv u Q I ro ri rv ⟨a, _, rfl, P, q ρ _ ex' rh'⟩
      · cases e
    · cases e
  · cases e
/-- xs.append(y) -/
def rM (G : Gr) (f : AV → List AV → AH → O AV) : V → List V → Hp → VK → Prop := fun x vs H Q => ∃ ρ h xa xs z h', RV G ρ H xa x ∧ RVs G ρ H xs vs ∧ RH G ρ h H ∧ f xa xs h = some (z, h') ∧
  ∀ ρ' H', Ext G ρ H ρ' H' → RH G ρ' h' H' → ∀ v, RV G ρ' H' z v → Q v H'
theorem mt_appendA : MtR X "list.append" (rM G metAppend) := by
  intro pins s σ H x vs v us Q I rx rv hh
  obtain ⟨ρ, h, xa, xs, z, h', r1, r2, rh, e, q⟩ := hh
  unfold metAppend at e
  split at e
  · rename_i k y
    split at e
    · rename_i ys hk'
      split at e
      · rename_i hl
        cases e
        obtain ⟨a, rfl, ea⟩ := r1.ref_inv
        obtain ⟨yv, rfl, ry⟩ := r2.one
        obtain ⟨ws, zd, rr⟩ := rh.lst hk' ea
        obtain ⟨w0, hw0, _, hn1, hn2⟩ := (rh.at' k _ a hk' ea).is rfl
        have ex : Ext G ρ H ρ (upd H a (.lst (ws ++ [yv]))) := Ext.put hw0 hn1 hn2
        obtain ⟨rh', ex'⟩ := rh.put (o' := .lst (ys ++ [y])) (u := .lst (ws ++ [yv])) hk' ea rfl rfl (.lst upd_same ((rr.append (.cons ry .nil)).ext ex))
        exact mt_append pins s σ H _ _ v us Q I rx rv ⟨a, ws, yv, rfl, rfl, zd, by rw [← rr.length]; exact hl, q ρ _ ex' rh' _ .non⟩
      · cases e
    · cases e
  · cases e
/-- o.f -/
theorem fld_A (rd : Rdy T cal lvl X W) {f : Str} (hf : f ∈ T.flds) {pins : List (Addr × Obj)} {s : Shared} {σ : L2.St} {H : Hp} {ρ : List Addr} {h h' : AH} {xa z : AV} {x : V} {u : Value} {Q : VK} {b : Bool} {E : Value → Shared → Prop} {A : Around}
    (I : Inv X pins σ H s) (rx : RelV x u) (r1 : RV T.G ρ H xa x) (rh : RH T.G ρ h H) (e : fldA T.Pr xa f h = some (z, h'))
    (q : ∀ ρ' H', Ext T.G ρ H ρ' H' → RH T.G ρ' h' H' → ∀ v, RV T.G ρ' H' z v → Q v H') : wpAny (model X.prog X.w) A (getAttr u f b) (EP X pins σ Q) E s := by
  unfold fldA at e
  split at e
  · rename_i k
    split at e
    · rename_i c fs hk'
      split at e
      · rename_i w hl
        split at e
        rotate_left
        · cases e
        rename_i hcl
        cases e
        obtain ⟨a, rfl, ea⟩ := r1.ref_inv
        obtain ⟨dx, vs, zi, rf⟩ := rh.ins hk' ea
        obtain ⟨wv, ew, rw'⟩ := rf.get hl
        obtain ⟨cc, hcc⟩ := Option.isSome_iff_exists.mp hcl
        have C := rd.top.cl c cc (clsAt_some hcc)
        obtain rfl : u = .ref a := rx
        exact getattr_ok I zi (by rw [rd.k]; exact C.cls) (by rw [rd.k]; exact C.no f hf) ew fun u' s2 I2 ru => ⟨wv, H, I2, ru, q ρ H .refl rh _ rw'⟩
      · cases e
    · cases e
  · cases e
/-- o.f = v -/
theorem setf_A (rd : Rdy T cal lvl X W) {f : Str} (hf : f ∈ T.flds) {pins : List (Addr × Obj)} {s : Shared} {σ : L2.St} {H : Hp} {ρ : List Addr} {h h' : AH} {xa ya : AV} {x y : V} {u w : Value} {Q : Unit → Shared → Prop} {E : Value → Shared → Prop} {A : Around}
    (I : Inv X pins σ H s) (rx : RelV x u) (ry : RelV y w) (r1 : RV T.G ρ H xa x) (r2 : RV T.G ρ H ya y) (rh : RH T.G ρ h H) (e : setFA T.Pr xa f ya h = some ((), h'))
    (q : ∀ s' ρ' H', Ext T.G ρ H ρ' H' → RH T.G ρ' h' H' → Inv X pins σ H' s' → Q () s') : wpAny (model X.prog X.w) A (setAttr u f w) Q E s := by
  unfold setFA at e
  split at e
  · rename_i k
    split at e
    · rename_i c fs hk'
      split at e
      · rename_i hl
        cases e
        obtain ⟨a, rfl, ea⟩ := r1.ref_inv
        obtain ⟨dx, vs, zi, rf⟩ := rh.ins hk' ea
        obtain ⟨cc, hcc⟩ := Option.isSome_iff_exists.mp hl.2
        have C := rd.top.cl c cc (clsAt_some hcc)
        obtain rfl : u = .ref a := rx
        obtain ⟨w0, hw0, _, hn1, hn2⟩ := (rh.at' k _ a hk' ea).is rfl
        have ex : Ext T.G ρ H ρ (upd H a (.ins (T.G.ad c) dx (putF f y vs))) := Ext.put hw0 hn1 hn2
        obtain ⟨rh', ex'⟩ := rh.put (o' := .ins c (putFA f ya fs)) (u := .ins (T.G.ad c) dx (putF f y vs)) hk' ea rfl rfl (.ins upd_same ((rf.put r2).ext ex))
        exact setattr_ok I zi (by rw [rd.k]; exact C.cls) (by rw [rd.k]; exact C.no f hf) (by rw [← rf.length]; omega) ry fun s' I' => q s' ρ _ ex' rh' I'
      · cases e
    · cases e
  · cases e
end
end Mini
set_option autoImplicit false
set_option maxHeartbeats 4000000
/-! Mini, tenth part: expressions, rule by rule. -/
namespace Mini
open PySem PySem.Spec L2
open PyProof.Rows hiding St

theorem _root_.L2.PE.imp {X : Cx} {e : Expr} {t t' : TE} (h : PE X e t) (k : ∀ σ H Q, t' σ H Q → t σ H Q) : PE X e t' := ⟨fun pins s σ H Q I q => h.run pins s σ H Q I (k σ H Q q)⟩
theorem _root_.L2.PT.imp {X : Cx} {e : Expr} {t t' : TT} (h : PT X e t) (k : ∀ σ H Q, t' σ H Q → t σ H Q) : PT X e t' := ⟨fun pins s σ H Q I q => h.run pins s σ H Q I (k σ H Q q)⟩
theorem _root_.L2.PW.imp {X : Cx} {e : Expr} {t t' : TT} (h : PW X e t) (k : ∀ σ H Q, t' σ H Q → t σ H Q) : PW X e t' := ⟨fun wh pins s σ H Q I q => h.run wh pins s σ H Q I (k σ H Q q)⟩
theorem _root_.L2.PA.imp {X : Cx} {es : List Expr} {t t' : L2.TA} (h : PA X es t) (k : ∀ σ H Q, t' σ H Q → t σ H Q) : PA X es t' := ⟨fun pos pins s σ H Q I q => h.run pos pins s σ H Q I (k σ H Q q)⟩
theorem _root_.L2.PS.imp {X : Cx} {e : Stmt} {t t' : TS} (h : PS X e t) (k : ∀ D σ H, t' D σ H → t D σ H) : PS X e t' := ⟨fun pins s σ H Q I q => h.run pins s σ H Q I (k Q σ H q)⟩
theorem _root_.L2.PSs.imp {X : Cx} {e : List Stmt} {t t' : TS} (h : PSs X e t) (k : ∀ D σ H, t' D σ H → t D σ H) : PSs X e t' := ⟨fun pins s σ H Q I q => h.run pins s σ H Q I (k Q σ H q)⟩

section
variable (T : Top) (cal : Nat → List AV → AH → R AV) (W : WX)
/-- the states that stand for σ, H, and what is wanted of a run from them -/
def Rdg {α : Type} (run : Sg → AH → R α) (σ : L2.St) (H : Hp) (Q : α → AH → List Addr → Hp → Prop) : Prop :=
  ∃ ρ σA h, RG T.G ρ H σA σ ∧ RH T.G ρ h H ∧ Out T.G (WE W σ) ρ H (run σA h) Q
def rdE (m : ME) : TE := fun σ H Q => Rdg T W (evE T.Pr cal m) σ H fun x _ ρ' H' => ∀ v, RV T.G ρ' H' x v → Q v H'
def rdEs (ms : MEs) : L2.TA := fun σ H Q => Rdg T W (evEs T.Pr cal ms) σ H fun xs _ ρ' H' => ∀ vs, RVs T.G ρ' H' xs vs → Q vs H'
/-- a test: its value is a bool -/
def rdT (m : ME) : TT := fun σ H Q => Rdg T W (evE T.Pr cal m) σ H fun x _ ρ' H' => ∃ b, x = .bl b ∧ Q b H'
end
section
variable {T : Top} {cal : Nat → List AV → AH → R AV} {lvl : Nat} {X : Cx} {W : WX}
variable {a b c e : Expr} {ma mb mc m : ME} {pos : Pos}

theorem je_var (rd : Rdy T cal lvl X W) {i : Nat} {x : Str} (hN : X.N[i]? = some x) (hv : Vis X.env.scope x) (hd : (x == ("__debug__" : Str)) = false) (hcd : (x == ("__classdict__" : Str)) = false) : PE X (.Name x pos) (rdE T cal W (.var i)) :=
  (pe_var hN hv hd hcd).imp fun σ H Q h => by
    obtain ⟨ρ, σA, k, rs, rh, o⟩ := h
    unfold evE getS at o
    split at o
    · rename_i v e
      split at e
      · rename_i w e2
        cases e
        obtain ⟨u, h1, h2⟩ := rs.2 i _ e2
        exact ⟨u, h1, o ρ H .refl rh u h2⟩
      · cases e
    · exact o.elim
theorem je_int {i : Int} {j : Nat} : PE X (.Constant (.int i) j pos) (rdE T cal W (.int i)) := pe_int.imp fun σ H Q ⟨ρ, σA, k, rs, rh, o⟩ => o ρ H .refl rh _ (.int i)
theorem je_str {i : Str} {j : Nat} : PE X (.Constant (.str i) j pos) (rdE T cal W (.str i)) := pe_str.imp fun σ H Q ⟨ρ, σA, k, rs, rh, o⟩ => o ρ H .refl rh _ (.str i)
theorem je_bl {i : Bool} {j : Nat} : PE X (.Constant (.bool i) j pos) (rdE T cal W (.bl i)) := pe_bl.imp fun σ H Q ⟨ρ, σA, k, rs, rh, o⟩ => o ρ H .refl rh _ (.bl i)
theorem je_non {j : Nat} : PE X (.Constant .none j pos) (rdE T cal W .non) := pe_non.imp fun σ H Q ⟨ρ, σA, k, rs, rh, o⟩ => o ρ H .refl rh _ .non
/-- a class or def as a value, a constant of the module -/
theorem je_glo (rd : Rdy T cal lvl X W) {g : Nat} {x : Str} (hx : T.nm g = x) (hg : Gl X x) (hd : (x == ("__debug__" : Str)) = false) (hm : (∃ v, T.Pr g = some (.val v)) ∨ X.mg x = some (.ref (T.G.ad g))) : PE X (.Name x pos) (rdE T cal W (.glo g)) := by
  subst hx
  cases hp : T.Pr g with
  | none => exact ⟨fun pins s σ H Q I h => by
      obtain ⟨ρ, σA, k, rs, rh, o⟩ := h
      unfold evE at o
      rw [hp] at o
      exact o.elim⟩
  | some w =>
    have other : (∀ v, w ≠ .val v) → PE X (.Name (T.nm g) pos) (rdE T cal W (.glo g)) := fun hn => by
      have hm' : X.mg (T.nm g) = some (.ref (T.G.ad g)) := hm.elim (fun ⟨v, hv⟩ => absurd (Option.some.inj (hp.symm.trans hv)) (hn v)) id
      refine (pe_glob (v := .ref (T.G.ad g)) hg hm' rfl hd).imp fun σ H Q ⟨ρ, σA, k, rs, rh, o⟩ => ?_
      unfold evE at o
      rw [hp] at o
      cases w with
      | val v => exact absurd rfl (hn v)
      | def_ d => exact o ρ H .refl rh _ (.glo g)
      | cls c => exact o ρ H .refl rh _ (.glo g)
    cases w with
    | val v =>
      obtain ⟨u, vv, h1, h2, h3⟩ := rd.top.val g v hp
      refine (pe_glob hg h1 h2 hd).imp fun σ H Q ⟨ρ, σA, k, rs, rh, o⟩ => ?_
      unfold evE at o
      rw [hp] at o
      exact o ρ H .refl rh _ (h3 ρ H)
    | def_ d => exact other (fun _ z => nomatch z)
    | cls c => exact other (fun _ z => nomatch z)
/-- a built-in class as a value -/
theorem je_ty (rd : Rdy T cal lvl X W) {n : String} {x : Str} (hg : Gl X x) (hm : x ∈ bnames) (hv : bootBuiltins x = some (.type n)) (hn : x ≠ "__name__") (hd : (x == ("__debug__" : Str)) = false) : PE X (.Name x pos) (rdE T cal W (.ty n)) :=
  (pe_bltn (v := .ty n) hg (rd.top.un x hm) hv rfl hn hd).imp fun σ H Q ⟨ρ, σA, k, rs, rh, o⟩ => o ρ H .refl rh _ (.ty n)
/-- what two expressions in a row give -/
theorem two_r {α : Type} {σ : L2.St} {H : Hp} {f : AV → AV → AH → R α} {Q : α → AH → List Addr → Hp → Prop} {R' : V → V → Hp → Prop}
    (h : Rdg T W (fun σA h => (evE T.Pr cal ma σA h).bind fun x h1 => (evE T.Pr cal mb σA h1).bind fun y h2 => f x y h2) σ H Q)
    (k : ∀ ρ h H' x y v u, RV T.G ρ H' x v → RV T.G ρ H' y u → RH T.G ρ h H' → Out T.G (WE W σ) ρ H' (f x y h) Q → R' v u H') :
    rdE T cal W ma σ H fun v H1 => rdE T cal W mb σ H1 fun u H2 => R' v u H2 := by
  obtain ⟨ρ, σA, h, rs, rh, o⟩ := h
  refine ⟨ρ, σA, h, rs, rh, o.bind.imp fun x h1 ρ1 H1 e1 rh1 o1 v rv => ?_⟩
  refine ⟨ρ1, σA, h1, rs.ext e1, rh1, o1.bind.imp fun y h2 ρ2 H2 e2 rh2 o2 u ru => ?_⟩
  exact k ρ2 h2 H2 x y v u (rv.ext e2) ru rh2 o2
theorem one_r {α : Type} {σ : L2.St} {H : Hp} {f : Sg → AV → AH → R α} {Q : α → AH → List Addr → Hp → Prop} {R' : V → Hp → Prop}
    (h : Rdg T W (fun σA h => (evE T.Pr cal ma σA h).bind (f σA)) σ H Q)
    (k : ∀ ρ σA h H' x v, RG T.G ρ H' σA σ → RV T.G ρ H' x v → RH T.G ρ h H' → Out T.G (WE W σ) ρ H' (f σA x h) Q → R' v H') :
    rdE T cal W ma σ H R' := by
  obtain ⟨ρ, σA, h, rs, rh, o⟩ := h
  exact ⟨ρ, σA, h, rs, rh, o.bind.imp fun x h1 ρ1 H1 e1 rh1 o1 v rv => k ρ1 σA h1 H1 x v (rs.ext e1) rv rh1 o1⟩
theorem je_bop (rd : Rdy T cal lvl X W) {o : Bop} (ha : PE X a (rdE T cal W ma)) (hb : PE X b (rdE T cal W mb)) : PE X (.BinOp a (opOf o) b pos) (rdE T cal W (.bop o ma mb)) :=
  (pe_op (op_bop rd.k o) ha hb).imp fun σ H Q h => two_r (f := fun x y h => .of (bopA o x y h)) h fun ρ h H' x y v u rx ry rh o => by
    obtain ⟨z, h', e, q⟩ := o.of
    exact ⟨ρ, h, x, y, z, h', rx, ry, rh, e, q⟩
theorem je_neg (ha : PE X a (rdE T cal W ma)) : PE X (.UnaryOp .USub a pos) (rdE T cal W (.neg ma)) :=
  (pe_un un_neg ha).imp fun σ H Q h => one_r (f := fun _ => kNeg) h fun ρ σA h H' x v rs rx rh o => by
    cases rx with
    | int i => exact ⟨i, rfl, o ρ H' .refl rh _ (.int _)⟩
    | _ => exact o.elim
/-- comparisons -/
theorem op_cmpA (rd : Rdy T cal lvl X W) (o : Cop) : OpR X (compareOp (copOf o)) (r2 T.G (cmpA T.Pr cal o)) := by
  intro pins s σ H x y v u Q I rx ry hh
  obtain ⟨ρ, h, xa, ya, z, h', r1, r2, rh, e, q⟩ := hh
  have plain : cmpP o xa ya h = some (z, h') → wpAny (model X.prog X.w) X.A (compareOp (copOf o) v u) (EP X pins σ Q) X.xe s := fun e => op_cmpP rd.k rd.hu o pins s σ H x y v u Q I rx ry ⟨ρ, h, xa, ya, z, h', r1, r2, rh, e, q⟩
  unfold cmpA at e
  split at e
  · exact plain e
  · rename_i hne
    split at e
    · exact plain (by unfold cmpP; split; (· exact (hne _ _ rfl rfl).elim); exact e)
    · exact plain (by unfold cmpP; split; (· exact (hne _ _ rfl rfl).elim); exact e)
    · split at e
      · rename_i r er
        exact op_own rd .Eq "__eq__" rfl (fun _ _ => rfl) (·.eq) (fun g c e hP he => (rd.top.cl g c hP).eq e he) (fun g c e hP he => rd.top.cl3 g c e hP (.inl he)) pins s σ H x y v u Q I rx ry ⟨ρ, h, xa, ya, z, h', r1, r2, rh, by
          show (match ownA T.Pr cal (·.eq) xa ya h with | some r => r | none => none) = _
          rw [er]; exact e, q⟩
      · exact plain (by unfold cmpP; split; (· exact (hne _ _ rfl rfl).elim); exact e)
    · split at e
      · rename_i r er
        exact op_own rd .NotEq "__ne__" rfl (fun _ _ => rfl) (·.ne) (fun g c e hP he => (rd.top.cl g c hP).ne e he) (fun g c e hP he => rd.top.cl3 g c e hP (.inr he)) pins s σ H x y v u Q I rx ry ⟨ρ, h, xa, ya, z, h', r1, r2, rh, by
          show (match ownA T.Pr cal (·.ne) xa ya h with | some r => r | none => none) = _
          rw [er]; exact e, q⟩
      · exact plain (by unfold cmpP; split; (· exact (hne _ _ rfl rfl).elim); exact e)
    · cases e
theorem cmp_r {o : Cop} {σ : L2.St} {H : Hp} {Q : VK} (h : rdE T cal W (.cmp o ma mb) σ H Q) : tOp (r2 T.G (cmpA T.Pr cal o)) (rdE T cal W ma) (rdE T cal W mb) σ H Q :=
  two_r (f := fun x y h => .of (cmpA T.Pr cal o x y h)) h fun ρ h H' x y v u rx ry rh o => by
    obtain ⟨z, h', e, q⟩ := o.of
    exact ⟨ρ, h, x, y, z, h', rx, ry, rh, e, q⟩
theorem je_cmp (rd : Rdy T cal lvl X W) {o : Cop} (ha : PE X a (rdE T cal W ma)) (hb : PE X b (rdE T cal W mb)) (hm : behindInMarks (copOf o) b = false) : PE X (.Compare a [copOf o] [b] pos) (rdE T cal W (.cmp o ma mb)) :=
  (pe_cmpR (op_cmpA rd o) ha hb hm).imp fun σ H Q h => cmp_r h
theorem rdT_E {σ : L2.St} {H : Hp} {Q : Bool → Hp → Prop} (h : rdT T cal W m σ H Q) : rdE T cal W m σ H fun v H' => ∃ b, v = .bl b ∧ Q b H' := by
  obtain ⟨ρ, σA, h, rs, rh, o⟩ := h
  refine ⟨ρ, σA, h, rs, rh, o.imp fun x h1 ρ1 H1 e1 rh1 o1 v rv => ?_⟩
  obtain ⟨b, rfl, q⟩ := o1
  obtain rfl := rv.bl_inv
  exact ⟨b, rfl, q⟩
theorem jt_cmp (rd : Rdy T cal lvl X W) {o : Cop} (ha : PE X a (rdE T cal W ma)) (hb : PE X b (rdE T cal W mb)) (hm : behindInMarks (copOf o) b = false) : PT X (.Compare a [copOf o] [b] pos) (rdT T cal W (.cmp o ma mb)) :=
  (pt_cmpR (op_cmpA rd o) ha hb hm).imp fun σ H Q h => cmp_r (rdT_E h)
/-- a test by its value -/
theorem jt_val (h : PE X e (rdE T cal W m)) (he : ∀ whole, isTrue e X.env whole = (do let v ← whole; standAt e.pos; holding [v] (truthy v))) : PT X e (rdT T cal W m) := (pt_val h he).imp fun σ H Q h => rdT_E h
theorem chain_r {o o' : Cop} {σ : L2.St} {H : Hp} {Q : VK} (h : rdE T cal W (.cmp2 o o' ma mb mc) σ H Q) : tChain (r2 T.G (cmpA T.Pr cal o)) (r2 T.G (cmpA T.Pr cal o')) (rdE T cal W ma) (rdE T cal W mb) (rdE T cal W mc) σ H Q := by
  obtain ⟨ρ, σA, h, rs, rh, o⟩ := h
  refine ⟨ρ, σA, h, rs, rh, o.bind.imp fun x h1 ρ1 H1 e1 rh1 o1 v rv => ?_⟩
  refine ⟨ρ1, σA, h1, rs.ext e1, rh1, o1.bind.imp fun y h2 ρ2 H2 e2 rh2 o2 u ru => ?_⟩
  obtain ⟨z, h3, e3, q3⟩ := o2.bind.of
  refine ⟨ρ2, h2, x, y, z, h3, rv.ext e2, ru, rh2, e3, fun ρ3 H3 e4 rh3 w rw' => ?_⟩
  have o3 := q3 ρ3 H3 e4 rh3
  cases rw' with
  | bl k =>
    refine ⟨k, rfl, ?_⟩
    cases k with
    | true =>
      rw [if_pos rfl]
      refine ⟨ρ3, σA, h3, (rs.ext e1).ext (e2.trans e4), rh3, o3.bind.imp fun z4 h4 ρ4 H4 e5 rh4 o4 w4 rw4 => ?_⟩
      obtain ⟨z5, h5, e6, q5⟩ := o4.of
      exact ⟨ρ4, h4, y, z4, z5, h5, (ru.ext e4).ext e5, rw4, rh4, e6, q5⟩
    | false =>
      rw [if_neg Bool.false_ne_true]
      exact o3 ρ3 H3 .refl rh3 _ (.bl _)
  | _ => exact o3.elim
theorem je_cmp2 (rd : Rdy T cal lvl X W) {o o' : Cop} (ha : PE X a (rdE T cal W ma)) (hb : PE X b (rdE T cal W mb)) (hc : PE X c (rdE T cal W mc)) (hm : lastMarks [copOf o, copOf o'] [b, c] = false) :
    PE X (.Compare a [copOf o, copOf o'] [b, c] pos) (rdE T cal W (.cmp2 o o' ma mb mc)) :=
  (pe_chain (op_cmpA rd o) (op_cmpA rd o') ha hb hc hm).imp fun σ H Q h => chain_r h
theorem jt_cmp2 (rd : Rdy T cal lvl X W) {o o' : Cop} (ha : PE X a (rdE T cal W ma)) (hb : PE X b (rdE T cal W mb)) (hc : PE X c (rdE T cal W mc)) (hm : lastMarks [copOf o, copOf o'] [b, c] = false) :
    PT X (.Compare a [copOf o, copOf o'] [b, c] pos) (rdT T cal W (.cmp2 o o' ma mb mc)) :=
  (pt_chain (op_cmpA rd o) (op_cmpA rd o') ha hb hc hm).imp fun σ H Q h => chain_r (rdT_E h)
end
end Mini
set_option autoImplicit false
set_option maxHeartbeats 4000000
/-! Mini, eleventh part: and, or, not, displays, subscripts, fields, argument lists. -/
namespace Mini
open PySem PySem.Spec L2
open PyProof.Rows hiding St
section
variable {T : Top} {cal : Nat → List AV → AH → R AV} {lvl : Nat} {X : Cx} {W : WX}
variable {a b c e : Expr} {ma mb mc m : ME} {pos : Pos} {rest es : List Expr} {ms : MEs}

theorem je_and (ha : PE X a (rdE T cal W ma)) (hb : PE X (.BoolOp .And (b :: rest) pos) (rdE T cal W mb)) : PE X (.BoolOp .And (a :: b :: rest) pos) (rdE T cal W (.and_ ma mb)) :=
  (pe_and ha hb).imp fun σ H Q h => one_r (f := fun σA => kAnd (evE T.Pr cal mb σA)) h fun ρ σA h H' x v rs rx rh o => by
    cases rx with
    | bl k =>
      refine ⟨k, rfl, ?_⟩
      cases k with
      | true => rw [if_pos rfl]; exact ⟨ρ, σA, h, rs, rh, o⟩
      | false => rw [if_neg Bool.false_ne_true]; exact o ρ H' .refl rh _ (.bl _)
    | _ => exact o.elim
theorem je_or (ha : PE X a (rdE T cal W ma)) (hb : PE X (.BoolOp .Or (b :: rest) pos) (rdE T cal W mb)) : PE X (.BoolOp .Or (a :: b :: rest) pos) (rdE T cal W (.or_ ma mb)) :=
  (pe_or ha hb).imp fun σ H Q h => one_r (f := fun σA => kOr (evE T.Pr cal mb σA)) h fun ρ σA h H' x v rs rx rh o => by
    cases rx with
    | bl k =>
      refine ⟨k, rfl, ?_⟩
      cases k with
      | true => rw [if_pos rfl]; exact o ρ H' .refl rh _ (.bl _)
      | false => rw [if_neg Bool.false_ne_true]; exact ⟨ρ, σA, h, rs, rh, o⟩
    | _ => exact o.elim
theorem je_one {op : BoolOp} (ha : PE X a (rdE T cal W ma)) : PE X (.BoolOp op [a] pos) (rdE T cal W ma) := pe_one ha
theorem je_not (ha : PE X a (rdE T cal W ma)) : PE X (.UnaryOp .Not a pos) (rdE T cal W (.not_ ma)) :=
  (pe_not ha).imp fun σ H Q h => one_r (f := fun _ => kNot) h fun ρ σA h H' x v rs rx rh o => by
    cases rx with
    | bl k => exact ⟨k, rfl, o ρ H' .refl rh _ (.bl _)⟩
    | _ => exact o.elim
/-- a test's run, from its parts -/
theorem one_t {α : Type} {σ : L2.St} {H : Hp} {f : Sg → AV → AH → R α} {Q : α → AH → List Addr → Hp → Prop} {R' : Bool → Hp → Prop} (hb : ∀ s x h, (∀ b, x ≠ .bl b) → f s x h = .bad)
    (h : Rdg T W (fun σA h => (evE T.Pr cal ma σA h).bind (f σA)) σ H Q)
    (k : ∀ ρ σA h H' x, RG T.G ρ H' σA σ → RH T.G ρ h H' → Out T.G (WE W σ) ρ H' (f σA (.bl x) h) Q → R' x H') :
    rdT T cal W ma σ H R' := by
  obtain ⟨ρ, σA, h, rs, rh, o⟩ := h
  refine ⟨ρ, σA, h, rs, rh, o.bind.imp fun x h1 ρ1 H1 e1 rh1 o1 => ?_⟩
  cases x with
  | bl b => exact ⟨b, rfl, k ρ1 σA h1 H1 b (rs.ext e1) rh1 o1⟩
  | _ => rw [hb _ _ _ (by intro b z; cases z)] at o1; exact o1.elim
theorem jw_and (ha : PT X a (rdT T cal W ma)) (hb : PW X (.BoolOp .And (b :: rest) pos) (rdT T cal W mb)) : PW X (.BoolOp .And (a :: b :: rest) pos) (rdT T cal W (.and_ ma mb)) :=
  (pw_and ha hb).imp fun σ H Q h => one_t (f := fun σA => kAnd (evE T.Pr cal mb σA)) (fun s x h hx => by cases x <;> first | rfl | exact absurd rfl (hx _)) h fun ρ σA h H' x rs rh o => by
    cases x with
    | true => rw [if_pos rfl]; exact ⟨ρ, σA, h, rs, rh, o⟩
    | false =>
      rw [if_neg Bool.false_ne_true]
      obtain ⟨b, e, q⟩ := o ρ H' .refl rh
      cases e
      exact q
theorem jw_or (ha : PT X a (rdT T cal W ma)) (hb : PW X (.BoolOp .Or (b :: rest) pos) (rdT T cal W mb)) : PW X (.BoolOp .Or (a :: b :: rest) pos) (rdT T cal W (.or_ ma mb)) :=
  (pw_or ha hb).imp fun σ H Q h => one_t (f := fun σA => kOr (evE T.Pr cal mb σA)) (fun s x h hx => by cases x <;> first | rfl | exact absurd rfl (hx _)) h fun ρ σA h H' x rs rh o => by
    cases x with
    | true =>
      rw [if_pos rfl]
      obtain ⟨b, e, q⟩ := o ρ H' .refl rh
      cases e
      exact q
    | false => rw [if_neg Bool.false_ne_true]; exact ⟨ρ, σA, h, rs, rh, o⟩
theorem jw_one {op : BoolOp} (ha : PT X a (rdT T cal W ma)) : PW X (.BoolOp op [a] pos) (rdT T cal W ma) := by
  cases op with
  | And => exact pw_and1 ha
  | Or => exact pw_or1 ha
theorem jt_not (ha : PT X a (rdT T cal W ma)) : PT X (.UnaryOp .Not a pos) (rdT T cal W (.not_ ma)) :=
  (pt_not ha).imp fun σ H Q h => one_t (f := fun _ => kNot) (fun s x h hx => by cases x <;> first | rfl | exact absurd rfl (hx _)) h fun ρ σA h H' x rs rh o => by
    obtain ⟨b, e, q⟩ := o ρ H' .refl rh
    cases e
    exact q
theorem je_ite (hc : PT X c (rdT T cal W mc)) (ha : PE X a (rdE T cal W ma)) (hb : PE X b (rdE T cal W mb)) : PE X (.IfExp c a b pos) (rdE T cal W (.ite mc ma mb)) :=
  (pe_ifExp hc ha hb).imp fun σ H Q h => one_t (f := fun σA => kIte (evE T.Pr cal ma σA) (evE T.Pr cal mb σA)) (fun s x h hx => by cases x <;> first | rfl | exact absurd rfl (hx _)) h fun ρ σA h H' x rs rh o => by
    cases x with
    | true => rw [if_pos rfl]; exact ⟨ρ, σA, h, rs, rh, o⟩
    | false => rw [if_neg Bool.false_ne_true]; exact ⟨ρ, σA, h, rs, rh, o⟩
/-! ### argument lists -/
theorem ja_nil : PA X [] (rdEs T cal W .nil) := pa_nil.imp fun σ H Q ⟨ρ, σA, h, rs, rh, o⟩ => o ρ H .refl rh _ .nil
theorem ja_cons (ha : PE X e (rdE T cal W m)) (hr : PA X es (rdEs T cal W ms)) (hs : starEach (e :: es) X.env = (false, eval e X.env) :: starEach es X.env) : PA X (e :: es) (rdEs T cal W (.cons m ms)) :=
  (pa_cons ha hr hs).imp fun σ H Q h => one_r (f := fun σA x h1 => (evEs T.Pr cal ms σA h1).bind fun vs h2 => .ok (x :: vs) h2) h fun ρ σA h H' x v rs rx rh o => by
    refine ⟨ρ, σA, h, rs, rh, o.bind.imp fun xs h1 ρ1 H1 e1 rh1 o1 vs rvs => ?_⟩
    exact o1 ρ1 H1 .refl rh1 _ (.cons (rx.ext e1) rvs)
theorem args_r {α : Type} {σ : L2.St} {H : Hp} {f : Sg → List AV → AH → R α} {Q : α → AH → List Addr → Hp → Prop} {R' : List V → Hp → Prop}
    (h : Rdg T W (fun σA h => (evEs T.Pr cal ms σA h).bind (f σA)) σ H Q)
    (k : ∀ ρ σA h H' xs vs, RG T.G ρ H' σA σ → RVs T.G ρ H' xs vs → RH T.G ρ h H' → Out T.G (WE W σ) ρ H' (f σA xs h) Q → R' vs H') :
    rdEs T cal W ms σ H R' := by
  obtain ⟨ρ, σA, h, rs, rh, o⟩ := h
  exact ⟨ρ, σA, h, rs, rh, o.bind.imp fun x h1 ρ1 H1 e1 rh1 o1 v rv => k ρ1 σA h1 H1 x v (rs.ext e1) rv rh1 o1⟩
theorem je_tup {x1 : Nat} (h : PA X es (rdEs T cal W ms)) : PE X (.Tuple es x1 pos) (rdE T cal W (.tup ms)) :=
  (pe_tup h).imp fun σ H Q h => args_r (f := fun _ => kTup) h fun ρ σA h H' xs vs rs rx rh o => by
    unfold kTup at o
    split at o
    · rename_i hl
      refine ⟨by rw [← rx.length]; exact hl, fun p hp => ?_⟩
      have ex : Ext T.G ρ H' ρ (upd H' p (.tup vs)) := by
        have := Ext.new (G := T.G) (ρ := ρ) (u := .tup vs) hp []
        simpa using this
      exact o ρ _ ex ⟨rh.len, fun k o b h1 h2 => (rh.at' k o b h1 h2).stay ex fun u hu => by rw [upd_ne (ne_of_none hu hp)]; exact hu, rh.nd⟩ _ (.tup (.inl upd_same) (rx.ext ex))
    · exact o.elim
theorem je_lst (h : PA X es (rdEs T cal W ms)) : PE X (.List es pos) (rdE T cal W (.lst ms)) :=
  (pe_lst h).imp fun σ H Q h => args_r (f := fun _ => kLst) h fun ρ σA h H' xs vs rs rx rh o => by
    unfold kLst at o
    split at o
    · rename_i hl
      refine ⟨by rw [← rx.length]; exact hl, fun p hp => ?_⟩
      have ex : Ext T.G ρ H' (ρ ++ [p]) (upd H' p (.lst vs)) := Ext.new hp [p]
      exact o _ _ ex (rh.new hp rfl (.lst upd_same (rx.ext ex))) _ (.fresh rh)
    · exact o.elim
theorem je_idx (rd : Rdy T cal lvl X W) (ha : PE X a (rdE T cal W ma)) (hb : PE X b (rdE T cal W mb)) (hs : PlainIx b) : PE X (.Subscript a b pos) (rdE T cal W (.idx ma mb)) :=
  (pe_ix (ix_A rd.k (by have := rd.hu; omega)) ha hb hs).imp fun σ H Q h => two_r (f := fun x y h => .of (idxA x y h)) h fun ρ h H' x y v u rx ry rh o => by
    obtain ⟨z, h', e, q⟩ := o.of
    exact ⟨ρ, h, x, y, z, h', rx, ry, rh, e, q⟩
theorem je_fld (rd : Rdy T cal lvl X W) {f : Str} (hf : f ∈ T.flds) (ha : PE X a (rdE T cal W ma)) (hb : attributeBase a f X.env (eval a X.env) = eval a X.env) : PE X (.Attribute a f pos) (rdE T cal W (.fld ma f)) := by
  refine ⟨fun pins s σ H Q I h => ?_⟩
  have h2 : rdE T cal W ma σ H fun v H' => ∃ ρ h1 x, RV T.G ρ H' x v ∧ RH T.G ρ h1 H' ∧ Out T.G (WE W σ) ρ H' (.of (fldA T.Pr x f h1)) (fun x _ ρ' H' => ∀ v, RV T.G ρ' H' x v → Q v H') :=
    one_r (f := fun _ x h1 => .of (fldA T.Pr x f h1)) h fun ρ σA h1 H' x v rs rx rh o => ⟨ρ, h1, x, rx, rh, o⟩
  refine attr_of hb (thn (ha.run pins s σ H _ I h2) fun u s1 ⟨v, H1, I1, rv, ρ, h1, x, rx, rh, o⟩ => ?_)
  obtain ⟨z, h', e, q⟩ := o.of
  exact fld_A rd hf I1 rv rx rh e q
end
end Mini
set_option autoImplicit false
set_option maxHeartbeats 4000000
/-! Mini, twelfth part: calls. -/
namespace Mini
open PySem PySem.Spec L2
open PyProof.Rows hiding St
/-- binding goes along with relations -/
theorem findK_rel {α β : Type} {R : α → β → Prop} {k : Str} : ∀ {ks : List Str} {zs : List α} {ws : List β} {x : α}, Paired R zs ws → findK k ks zs = some x → ∃ y, findK k ks ws = some y ∧ R x y
  | [], zs, ws, x, _, e => by cases zs <;> cases e
  | _ :: _, [], ws, x, _, e => by cases e
  | y :: ks, z :: zs, w :: ws, x, .cons r t, e => by
    unfold findK at e ⊢
    by_cases h : y = k
    · rw [if_pos h] at e ⊢
      cases e
      exact ⟨w, rfl, r⟩
    · rw [if_neg h] at e ⊢
      exact findK_rel t e
theorem optAll_rel {α β γ : Type} {R : α → β → Prop} {f : γ → Option α} {g : γ → Option β} (h : ∀ c x, f c = some x → ∃ y, g c = some y ∧ R x y) : ∀ {cs : List γ} {xs : List α}, optAll f cs = some xs → ∃ ys, optAll g cs = some ys ∧ Paired R xs ys
  | [], xs, e => by cases e; exact ⟨[], rfl, .nil⟩
  | c :: cs, xs, e => by
    unfold optAll at e
    split at e
    · rename_i d ds h1 h2
      cases e
      obtain ⟨y, e1, r1⟩ := h c d h1
      obtain ⟨ys, e2, r2⟩ := optAll_rel h h2
      exact ⟨y :: ys, by unfold optAll; rw [e1, e2], .cons r1 r2⟩
    · cases e
theorem paired_append {α β : Type} {R : α → β → Prop} : ∀ {xs zs : List α} {ys ws : List β}, Paired R xs ys → Paired R zs ws → Paired R (xs ++ zs) (ys ++ ws)
  | _, _, _, _, .nil, s => s
  | _, _, _, _, .cons r t, s => .cons r (paired_append t s)
theorem bindK_rel {α β : Type} {R : α → β → Prop} {ps ks : List Str} {vs zs bs : List α} {us ws : List β} (r1 : Paired R vs us) (r2 : Paired R zs ws) (e : bindK ps vs ks zs = some bs) : ∃ cs, bindK ps us ks ws = some cs ∧ Paired R bs cs := by
  unfold bindK at e ⊢
  split at e
  · rename_i c
    rw [if_pos ⟨by rw [← Paired.length r1]; exact c.1, by rw [← Paired.length r2]; exact c.2⟩]
    rw [← Paired.length r1]
    cases q : optAll (fun p => findK p ks zs) (ps.drop vs.length) with
    | none => rw [q] at e; cases e
    | some xs =>
      rw [q] at e
      cases e
      obtain ⟨ys, e2, r3⟩ := optAll_rel (g := fun p => findK p ks ws) (fun c x h => findK_rel r2 h) q
      exact ⟨us ++ ys, by rw [e2]; rfl, paired_append r1 r3⟩
  · cases e
theorem optAll_length {α γ : Type} {f : γ → Option α} : ∀ {cs : List γ} {xs : List α}, optAll f cs = some xs → xs.length = cs.length
  | [], xs, e => by cases e; rfl
  | c :: cs, xs, e => by
    unfold optAll at e
    split at e
    · rename_i d ds h1 h2
      cases e
      rw [List.length_cons, List.length_cons, optAll_length h2]
    · cases e
theorem bindK_length {α : Type} {ps ks : List Str} {vs zs bs : List α} (e : bindK ps vs ks zs = some bs) : bs.length = ps.length := by
  unfold bindK at e
  split at e
  · rename_i c
    cases q : optAll (fun p => findK p ks zs) (ps.drop vs.length) with
    | none => rw [q] at e; cases e
    | some xs =>
      rw [q] at e
      cases e
      rw [List.length_append, optAll_length q, List.length_drop]
      omega
  · cases e
/-- with one more ahead -/
theorem bindK_cons {α : Type} {p : Str} {ps ks : List Str} {x : α} {vs zs bs : List α} (e : bindK ps vs ks zs = some bs) : bindK (p :: ps) (x :: vs) ks zs = some (x :: bs) := by
  unfold bindK at e ⊢
  split at e
  · rename_i c
    rw [if_pos ⟨by simp only [List.length_cons]; omega, c.2⟩]
    rw [List.length_cons, List.drop_succ_cons]
    cases q : optAll (fun p => findK p ks zs) (ps.drop vs.length) with
    | none => rw [q] at e; cases e
    | some xs => rw [q] at e; cases e; rfl
  · cases e
section
variable {T : Top} {cal : Nat → List AV → AH → R AV} {lvl : Nat} {X : Cx} {W : WX} {G : Gr}
theorem RVs.paired {ρ : List Addr} {H : Hp} : ∀ {xs : List AV} {vs : List V}, RVs G ρ H xs vs → Paired (RV G ρ H) xs vs
  | _, _, .nil => .nil
  | _, _, .cons r t => .cons r (RVs.paired t)
theorem RVs.of {ρ : List Addr} {H : Hp} : ∀ {xs : List AV} {vs : List V}, Paired (RV G ρ H) xs vs → RVs G ρ H xs vs
  | _, _, .nil => .nil
  | _, _, .cons r t => .cons r (RVs.of t)
/-- a thing that is not of the store is laid -/
theorem RH.beside {ρ : List Addr} {h : AH} {H : Hp} (r : RH G ρ h H) {p : Addr} {u : HO} (hp : H p = none) : RH G ρ h (upd H p u) ∧ Ext G ρ H ρ (upd H p u) := by
  have ex : Ext G ρ H ρ (upd H p u) := by
    have := Ext.new (G := G) (ρ := ρ) (u := u) hp []
    simpa using this
  exact ⟨⟨r.len, fun k o b h1 h2 => (r.at' k o b h1 h2).stay ex fun v hv => by rw [upd_ne (ne_of_none hv hp)]; exact hv, r.nd⟩, ex⟩
/-- a call by values -/
theorem run_call (rd : Rdy T cal lvl X W) {pins : List (Addr × Obj)} {s : Shared} {σ : L2.St} {H : Hp} {ρ : List Addr} {h : AH} {g : Nat} {xs zs bs : List AV} {vs vz : List V} {us ws : List Value} {ks ps : List Str} {Q : VK}
    (I : Inv X pins σ H s) (r : Vals vs us) (rz : Vals vz ws) (rx : RVs T.G ρ H xs vs) (rxz : RVs T.G ρ H zs vz) (rh : RH T.G ρ h H) (hp : paramsOf T.Pr g = some ps) (hb : bindK ps xs ks zs = some bs) (hkw : kwOk ps xs.length ks = true)
    (o : Out T.G (WE W σ) ρ H (callG T.Pr cal g bs h) fun x _ ρ' H' => ∀ v, RV T.G ρ' H' x v → Q v H') : wpAny (model X.prog X.w) X.A (call (.ref (T.G.ad g)) us (ks.zip ws)) (EP X pins σ Q) X.xe s := by
  obtain ⟨vb, e1, r1⟩ := bindK_rel rx.paired rxz.paired hb
  obtain ⟨ub, e2, r2⟩ := bindK_rel (R := RelV) r rz e1
  have rb := RVs.of r1
  rw [rx.length, Paired.length r] at hkw
  unfold callG at o
  unfold paramsOf at hp
  cases hg : T.Pr g with
  | none => rw [hg] at o; exact o.elim
  | some w =>
    rw [hg] at o hp
    cases w with
    | val v => exact o.elim
    | def_ d =>
      cases hp
      obtain ⟨fd, F, hbd⟩ := rd.tab.fn g d hg
      have F' : FnG X.prog X.w X.K X.mg X.base lvl (T.G.ad g) fd d.params (spC T.G cal g d.np) := by rw [rd.k]; exact F
      refine run_G F' rd.gd (rd.room.mono (Nat.le_succ _)) rd.tk I (.of_eq (hbd us ks ws ub e2 hkw)) r2 ⟨?_, ρ, bs, h, rb, rh, o⟩
      rw [← rd.top.np g d hg, ← bindK_length e1]
    | cls c =>
      obtain ⟨d, p, ps', hd, hps⟩ := rd.top.cl2 g c hg
      dsimp only at hp
      rw [hd] at hp
      cases hp
      have hps1 : List.drop 1 d.params = ps' := by rw [hps]; rfl
      rw [hps1] at hb e1 e2 hkw
      have C := rd.top.cl g c hg
      obtain ⟨fd, F, hbd⟩ := rd.tab.fn c.init d hd
      have F' : FnG X.prog X.w X.K X.mg X.base lvl (T.G.ad c.init) fd d.params (spC T.G cal c.init d.np) := by rw [rd.k]; exact F
      refine run_mkG (by rw [rd.k]; exact C.mkr) F' rd.gd rd.room rd.tk I (bs := ub) (fun s x _ => .of_eq (hbd (x :: us) ks ws (x :: ub) (by rw [hps]; exact bindK_cons e2) (by rw [hps, List.length_cons]; unfold kwOk at hkw ⊢; rw [List.drop_succ_cons]; exact hkw))) r2 fun x dx hx hdx hne => ?_
      obtain ⟨rh1, ex1⟩ := rh.beside (u := .own x) hdx
      have hx1 : upd H dx (.own x) x = none := by rw [upd_ne (Ne.symm hne)]; exact hx
      have ex2 : Ext T.G ρ (upd H dx (.own x)) (ρ ++ [x]) (upd (upd H dx (.own x)) x (.ins (T.G.ad g) dx [])) := Ext.new hx1 [x]
      have rh2 := rh1.new (o := .ins g []) (u := .ins (T.G.ad g) dx []) hx1 rfl (.ins upd_same .nil)
      have ex := ex1.trans ex2
      have rx0 : RV T.G (ρ ++ [x]) (upd (upd H dx (.own x)) x (.ins (T.G.ad g) dx [])) (.ref h.length) (.ref x) := .fresh rh
      refine ⟨?_, ρ ++ [x], .ref h.length :: bs, h ++ [.ins g []], .cons rx0 (rb.ext ex), rh2, ?_⟩
      · rw [← rd.top.np c.init d hd, hps, List.length_cons, List.length_cons, ← bindK_length e1]
      · dsimp only at o
        cases hc : cal c.init (.ref h.length :: bs) (h ++ [.ins g []]) with
        | bad => rw [hc] at o; exact o.elim
        | exc c' fs h' =>
          rw [hc] at o
          exact fun ρ' H' cls d' e rh' x' => o ρ' H' cls d' (ex.trans e) rh' x'
        | ok a h' =>
          rw [hc] at o
          cases a with
          | non =>
            intro ρ' H' e rh' v rv
            cases rv
            exact ⟨rfl, o ρ' H' (ex.trans e) rh' _ (rx0.ext e)⟩
          | _ => exact o.elim
end
/-! ### call expressions -/
section
variable {T : Top} {cal : Nat → List AV → AH → R AV} {lvl : Nat} {X : Cx} {W : WX}
variable {a e : Expr} {ma m : ME} {pos p : Pos} {es : List Expr} {ms mk : MEs} {kws : List Keyword}
/-- the keywords' values -/
theorem jk_nil : PK X [] (rdEs T cal W .nil) := ⟨fun pos pins s σ H Q I ⟨ρ, σA, h, rs, rh, o⟩ => pk_nil.run pos pins s σ H Q I (o ρ H .refl rh _ .nil)⟩
theorem jk_cons {nm : Option Str} {kpos : Pos} (ha : PE X e (rdE T cal W m)) (hr : PK X kws (rdEs T cal W ms)) : PK X (⟨nm, e, kpos⟩ :: kws) (rdEs T cal W (.cons m ms)) := by
  refine ⟨fun pos pins s σ H Q I h => (pk_cons (nm := nm) (kpos := kpos) ha hr).run pos pins s σ H Q I ?_⟩
  exact one_r (f := fun σA x h1 => (evEs T.Pr cal ms σA h1).bind fun vs h2 => .ok (x :: vs) h2) h fun ρ σA h H' x v rs rx rh o => by
    refine ⟨ρ, σA, h, rs, rh, o.bind.imp fun xs h1 ρ1 H1 e1 rh1 o1 vs rvs => ?_⟩
    exact o1 ρ1 H1 .refl rh1 _ (.cons (rx.ext e1) rvs)
/-- how a def or class of the program is found by its name -/
structure Named (T : Top) (X : Cx) (g : Nat) (x : Str) : Prop where
  gl : Gl X x
  mg : X.mg x = some (.ref (T.G.ad g))
  db : (x == ("__debug__" : Str)) = false
  kp : PySem.W.keepIn T.G.K (.ref (T.G.ad g)) = true
theorem Named.kx (rd : Rdy T cal lvl X W) {g : Nat} {x : Str} (N : Named T X g x) : PySem.W.keepIn X.K (.ref (T.G.ad g)) = true := by rw [rd.k]; exact N.kp
theorem run_callP (rd : Rdy T cal lvl X W) {pins : List (Addr × Obj)} {s : Shared} {σ : L2.St} {H : Hp} {ρ : List Addr} {h : AH} {g : Nat} {xs : List AV} {vs : List V} {us : List Value} {Q : VK}
    (I : Inv X pins σ H s) (r : Vals vs us) (rx : RVs T.G ρ H xs vs) (rh : RH T.G ρ h H)
    (o : Out T.G (WE W σ) ρ H (callP T.Pr cal g xs h) fun x _ ρ' H' => ∀ v, RV T.G ρ' H' x v → Q v H') : wpAny (model X.prog X.w) X.A (call (.ref (T.G.ad g)) us) (EP X pins σ Q) X.xe s := by
  unfold callP at o
  split at o
  · rename_i ps hps
    split at o
    · rename_i hl
      exact run_call rd (ks := []) (ws := []) (vz := []) (zs := []) I r .nil rx .nil rh hps (bindK_nil hl) rfl o
    · exact o.elim
  · exact o.elim
/-- f(e, ..), C(e, ..) -/
theorem je_call (rd : Rdy T cal lvl X W) {g : Nat} {x : Str} (N : Named T X g x) (ha : PA X (e :: es) (rdEs T cal W ms))
    (he : starEach (e :: es) X.env = (false, eval e X.env) :: starEach es X.env) (hpl : (backTo pos (starEach es X.env)).any (·.1) = false) : PE X (.Call (.Name x p) (e :: es) [] pos) (rdE T cal W (.call g ms)) := by
  refine ⟨fun pins s σ H Q I h => ?_⟩
  have h2 : rdEs T cal W ms σ H fun vs H' => ∃ ρ h1 xs, RVs T.G ρ H' xs vs ∧ RH T.G ρ h1 H' ∧ Out T.G (WE W σ) ρ H' (callP T.Pr cal g xs h1) (fun x _ ρ' H' => ∀ v, RV T.G ρ' H' x v → Q v H') :=
    args_r (f := fun _ => callP T.Pr cal g) h fun ρ σA h1 H' xs vs rs rv rh o => ⟨ρ, h1, xs, rv, rh, o⟩
  refine wpAny_Call_Name_kw (ld_glob I N.gl N.mg ?_ N.db)
  refine PySem.W.callWith_K (h₀ := X.base) I.ok.mod.kin (N.kx rd) (thn (ha.run pos pins s σ H _ I h2) fun us s1 ⟨vs, H1, I1, r, ρ, h1, xs, rv, rh, o⟩ => ⟨I1.kIn, ?_⟩) he hpl
  exact run_callP rd I1 r rv rh o
theorem je_call0 (rd : Rdy T cal lvl X W) {g : Nat} {x : Str} (N : Named T X g x) : PE X (.Call (.Name x p) [] [] pos) (rdE T cal W (.call g .nil)) := by
  refine ⟨fun pins s σ H Q I h => ?_⟩
  obtain ⟨ρ, σA, h1, rs, rh, o⟩ := h
  refine wpAny_Call_Name_kw (ld_glob I N.gl N.mg ?_ N.db)
  exact PySem.W.callWith_K0 I.kIn (N.kx rd) (run_callP rd I .nil .nil rh o)
theorem run_callKw (rd : Rdy T cal lvl X W) {pins : List (Addr × Obj)} {s : Shared} {σ : L2.St} {H : Hp} {ρ : List Addr} {h : AH} {g : Nat} {xs zs : List AV} {vs vz : List V} {us ws : List Value} {ks : List Str} {Q : VK}
    (I : Inv X pins σ H s) (r : Vals vs us) (rz : Vals vz ws) (rx : RVs T.G ρ H xs vs) (rxz : RVs T.G ρ H zs vz) (rh : RH T.G ρ h H)
    (o : Out T.G (WE W σ) ρ H (callKw T.Pr cal g ks xs zs h) fun x _ ρ' H' => ∀ v, RV T.G ρ' H' x v → Q v H') : wpAny (model X.prog X.w) X.A (call (.ref (T.G.ad g)) us (ks.zip ws)) (EP X pins σ Q) X.xe s := by
  unfold callKw at o
  split at o
  · rename_i ps hps
    split at o
    · rename_i bs hb
      by_cases hkw : kwOk ps xs.length ks = true
      · rw [if_pos hkw] at o
        exact run_call rd I r rz rx rxz rh hps hb hkw o
      · rw [if_neg hkw] at o
        exact o.elim
    · exact o.elim
  · exact o.elim
/-- f(e, .., k = v, ..), C(..) -/
theorem je_callk (rd : Rdy T cal lvl X W) {g : Nat} {x : Str} {ks : List Str} (N : Named T X g x) (ha : PA X (e :: es) (rdEs T cal W ms)) (hk : PK X kws (rdEs T cal W mk))
    (he : starEach (e :: es) X.env = (false, eval e X.env) :: starEach es X.env) (hall : (backToKw pos (keywordEach kws X.env)).all (·.1.isSome) = true) (hks : (backToKw pos (keywordEach kws X.env)).filterMap (·.1) = ks)
    (hpl : ((backTo pos (starEach (e :: es) X.env)).any (·.1) || (backToKw pos (keywordEach kws X.env)).any (·.1.isNone)) = false) : PE X (.Call (.Name x p) (e :: es) kws pos) (rdE T cal W (.callk g ms ks mk)) := by
  refine ⟨fun pins s σ H Q I h => ?_⟩
  have h2 : rdEs T cal W ms σ H fun vs H' => rdEs T cal W mk σ H' fun vz H2 => ∃ ρ h1 xs zs, RVs T.G ρ H2 xs vs ∧ RVs T.G ρ H2 zs vz ∧ RH T.G ρ h1 H2 ∧ Out T.G (WE W σ) ρ H2 (callKw T.Pr cal g ks xs zs h1) (fun x _ ρ' H' => ∀ v, RV T.G ρ' H' x v → Q v H') :=
    args_r (f := fun σA vs h1 => (evEs T.Pr cal mk σA h1).bind fun kvs h2 => callKw T.Pr cal g ks vs kvs h2) h fun ρ σA h1 H' xs vs rs rv rh o => by
      refine ⟨ρ, σA, h1, rs, rh, o.bind.imp fun zs h3 ρ1 H1 e1 rh1 o1 vz rvz => ⟨ρ1, h3, xs, zs, rv.ext e1, rvz, rh1, o1⟩⟩
  refine wpAny_Call_Name_kw (ld_glob I N.gl N.mg ?_ N.db)
  refine PySem.W.callWith_KW (h₀ := X.base) I.ok.mod.kin (N.kx rd) hall (thn (ha.run pos pins s σ H _ I h2) fun us s1 ⟨vs, H1, I1, r, q⟩ => ?_) hpl he
  refine thn (hk.run pos pins s1 σ H1 _ I1 q) fun ws s2 ⟨vz, H2, I2, rz, ρ, h1, xs, zs, rv, rvz, rh, o⟩ => ⟨I2.kIn, ?_⟩
  rw [hks]
  exact run_callKw rd I2 r rz rv rvz rh o
theorem je_callk0 (rd : Rdy T cal lvl X W) {g : Nat} {x : Str} {ks : List Str} (N : Named T X g x) (hk : PK X kws (rdEs T cal W mk))
    (hall : (backToKw pos (keywordEach kws X.env)).all (·.1.isSome) = true) (hks : (backToKw pos (keywordEach kws X.env)).filterMap (·.1) = ks)
    (hpl : ((backTo pos (starEach [] X.env)).any (·.1) || (backToKw pos (keywordEach kws X.env)).any (·.1.isNone)) = false) : PE X (.Call (.Name x p) [] kws pos) (rdE T cal W (.callk g .nil ks mk)) := by
  refine ⟨fun pins s σ H Q I h => ?_⟩
  have h2 : rdEs T cal W mk σ H fun vz H2 => ∃ ρ h1 zs, RVs T.G ρ H2 zs vz ∧ RH T.G ρ h1 H2 ∧ Out T.G (WE W σ) ρ H2 (callKw T.Pr cal g ks [] zs h1) (fun x _ ρ' H' => ∀ v, RV T.G ρ' H' x v → Q v H') :=
    args_r (f := fun σA kvs h2 => callKw T.Pr cal g ks [] kvs h2) h fun ρ σA h1 H' zs vz rs rv rh o => ⟨ρ, h1, zs, rv, rh, o⟩
  refine wpAny_Call_Name_kw (ld_glob I N.gl N.mg ?_ N.db)
  refine PySem.W.callWith_KW0 (h₀ := X.base) I.ok.mod.kin (N.kx rd) hall ?_ hpl
  refine thn (hk.run pos pins s σ H _ I h2) fun ws s2 ⟨vz, H2, I2, rz, ρ, h1, zs, rvz, rh, o⟩ => ⟨I2.kIn, ?_⟩
  rw [hks]
  exact run_callKw rd I2 (us := []) (vs := []) .nil rz .nil rvz rh o
/-! ### built-ins -/
/-- the name of a built-in, what it is -/
def biName : Bi → Str
  | .len => "len" | .abs => "abs" | .min2 => "min" | .max2 => "max" | .repr => "repr" | .isinst => "isinstance" | .tuple => "tuple" | .list => "list" | .int => "int" | .all => "all" | .any => "any" | .gcd => "gcd" | .bitlen => "bit_length"
def biVal : Bi → Value
  | .len => .builtin "len" | .abs => .builtin "abs" | .min2 => .builtin "min" | .max2 => .builtin "max" | .repr => .builtin "repr" | .isinst => .builtin "isinstance" | .tuple => .type "tuple" | .list => .type "list" | .int => .type "int"
  | .all => .builtin "all" | .any => .builtin "any" | .gcd => .builtin "math.gcd" | .bitlen => .none
theorem call_bi (rd : Rdy T cal lvl X W) (b : Bi) (h : b ≠ .bitlen) : CallR X (biVal b) (rB T.G (biA T.Pr b)) := by
  cases b with
  | len => exact call_lenA rd.k
  | abs => exact call_absA
  | min2 => exact call_minA rd.calm
  | max2 => exact call_maxA rd.calm
  | repr => exact call_repr rd
  | isinst => exact call_isinstA rd
  | tuple => exact call_tupleA rd.k
  | list => exact call_listA rd.k
  | int => exact call_intA
  | all => exact call_allA rd.k rd.calm
  | any => exact call_anyA rd.k rd.calm
  | gcd => exact call_gcdA
  | bitlen => exact absurd rfl h
theorem bi_r {b : Bi} {σ : L2.St} {H : Hp} {Q : VK} (h : rdE T cal W (.bi b ms) σ H Q) : tCB (rB T.G (biA T.Pr b)) (rdEs T cal W ms) σ H Q :=
  args_r (f := fun _ vs h1 => .of (biA T.Pr b vs h1)) h fun ρ σA h1 H' xs vs rs rv rh o => by
    obtain ⟨z, h', e, q⟩ := o.of
    exact ⟨ρ, h1, xs, z, h', rv, rh, e, q⟩
/-- a built-in under its own name -/
theorem je_bi (rd : Rdy T cal lvl X W) {b : Bi} {x : Str} (hb : b ≠ .bitlen) (hx : biName b = x) (hg : Gl X x) (hm : (b ≠ .gcd ∧ x ∈ bnames) ∨ (b = .gcd ∧ X.mg x = some (.builtin "math.gcd"))) (hd : (x == ("__debug__" : Str)) = false) (ha : PA X (e :: es) (rdEs T cal W ms))
    (he : starEach (e :: es) X.env = (false, eval e X.env) :: starEach es X.env) (hpl : (backTo pos (starEach es X.env)).any (·.1) = false) : PE X (.Call (.Name x p) (e :: es) [] pos) (rdE T cal W (.bi b ms)) := by
  have C := call_bi rd b hb
  rcases hm with ⟨hne, hm⟩ | ⟨rfl, hm⟩
  · have M := rd.top.un x hm
    subst hx
    cases b with
    | len => exact (pe_callB (id := "len") C hg M (by decide +kernel) ha (by decide) hd he hpl).imp fun σ H Q h => bi_r h
    | abs => exact (pe_callB (id := "abs") C hg M (by decide +kernel) ha (by decide) hd he hpl).imp fun σ H Q h => bi_r h
    | min2 => exact (pe_callB (id := "min") C hg M (by decide +kernel) ha (by decide) hd he hpl).imp fun σ H Q h => bi_r h
    | max2 => exact (pe_callB (id := "max") C hg M (by decide +kernel) ha (by decide) hd he hpl).imp fun σ H Q h => bi_r h
    | repr => exact (pe_callB (id := "repr") C hg M (by decide +kernel) ha (by decide) hd he hpl).imp fun σ H Q h => bi_r h
    | isinst => exact (pe_callB (id := "isinstance") C hg M (by decide +kernel) ha (by decide) hd he hpl).imp fun σ H Q h => bi_r h
    | tuple => exact (pe_callTy (T := "tuple") C hg M (by decide +kernel) ha (by decide) hd he hpl).imp fun σ H Q h => bi_r h
    | list => exact (pe_callTy (T := "list") C hg M (by decide +kernel) ha (by decide) hd he hpl).imp fun σ H Q h => bi_r h
    | int => exact (pe_callTy (T := "int") C hg M (by decide +kernel) ha (by decide) hd he hpl).imp fun σ H Q h => bi_r h
    | all => exact (pe_callB (id := "all") C hg M (by decide +kernel) ha (by decide) hd he hpl).imp fun σ H Q h => bi_r h
    | any => exact (pe_callB (id := "any") C hg M (by decide +kernel) ha (by decide) hd he hpl).imp fun σ H Q h => bi_r h
    | gcd => exact absurd rfl hne
    | bitlen => exact absurd rfl hb
  · exact (pe_callBfun (id := "math.gcd") C hg hm ha hd he hpl).imp fun σ H Q h => bi_r h
/-- xs.append(e) -/
theorem je_append {o : Expr} {mo : ME} {apos cpos : Pos} (ho : PE X o (rdE T cal W mo)) (ha : PA X [e] (rdEs T cal W ms)) (hbase : attributeBase o "append" X.env (eval o X.env) = eval o X.env)
    (hs : starEach [e] X.env = (false, eval e X.env) :: starEach [] X.env) (hline : (apos.endLine == cpos.line) = true) (hk : X.K = T.G.K) :
    PE X (.Call (.Attribute o "append" apos) [e] [] cpos) (rdE T cal W (.met .append mo ms)) := by
  refine (pe_bm PySem.F.plainAttrs_list PySem.F.slot_list_append PySem.F.type_list_append (mt_appendA (G := T.G)) ho ha hbase ?_ hline hs rfl).imp fun σ H Q h => ?_
  · rw [hs]; rfl
  · refine one_r (f := fun σA => kMet .append (evEs T.Pr cal ms σA)) h fun ρ σA h1 H' x v rs rx rh o => ?_
    unfold kMet at o
    split at o
    · rename_i ht
      have ty : tyV X.K "list" v H' := by
        unfold metTy at ht
        split at ht
        · rename_i k
          obtain ⟨xs, hx⟩ := Option.isSome_iff_exists.mp ht
          obtain ⟨a, rfl, ea⟩ := rx.ref_inv
          obtain ⟨vs, z, _⟩ := rh.seq hx ea
          exact .inl ⟨rfl, vs, by rw [hk]; exact z⟩
        · cases ht
      refine ⟨ty, ρ, σA, h1, rs, rh, o.bind.imp fun xs h3 ρ1 H1 e1 rh1 o1 vs rvs => ?_⟩
      obtain ⟨z, h', e, q⟩ := o1.of
      exact ⟨ρ1, h3, x, xs, z, h', rx.ext e1, rvs, rh1, e, q⟩
    · exact o.elim
end
end Mini
set_option autoImplicit false
set_option maxHeartbeats 4000000
/-! Mini, thirteenth part: what is wanted of statements; targets; what is walked; the for loop. -/
namespace Mini
open PySem PySem.Spec L2
open PyProof.Rows hiding St
section
variable (G : Gr)
def OutS (W : WX) (ρ : List Addr) (H : Hp) (r : RS) (D : Ends) : Prop := match r with
  | .nx σA h => ∀ ρ' H' σ', Ext G ρ H ρ' H' → RH G ρ' h H' → RG G ρ' H' σA σ' → D.nx σ' H'
  | .rt x h => ∀ ρ' H' v, Ext G ρ H ρ' H' → RH G ρ' h H' → RV G ρ' H' x v → D.rt v H'
  | .bk σA h => ∀ ρ' H' σ', Ext G ρ H ρ' H' → RH G ρ' h H' → RG G ρ' H' σA σ' → D.bk σ' H'
  | .ct σA h => ∀ ρ' H' σ', Ext G ρ H ρ' H' → RH G ρ' h H' → RG G ρ' H' σA σ' → D.ct σ' H'
  | .exc c fs σA h => ∀ ρ' H' σ' cls d, Ext G ρ H ρ' H' → RH G ρ' h H' → RG G ρ' H' σA σ' → RX G ρ' H' c fs cls d → W cls d σ' H'
  | .bad => False
end
section
variable {G : Gr} {W : WX} {ρ ρ' : List Addr} {H H' : Hp} {r : RS} {D D' : Ends}
theorem OutS.later (e : Ext G ρ H ρ' H') (h : OutS G W ρ H r D) : OutS G W ρ' H' r D := by
  cases r with
  | nx σ k => exact fun ρ2 H2 s2 e2 rh rs => h ρ2 H2 s2 (e.trans e2) rh rs
  | rt x k => exact fun ρ2 H2 s2 e2 rh rs => h ρ2 H2 s2 (e.trans e2) rh rs
  | bk σ k => exact fun ρ2 H2 s2 e2 rh rs => h ρ2 H2 s2 (e.trans e2) rh rs
  | ct σ k => exact fun ρ2 H2 s2 e2 rh rs => h ρ2 H2 s2 (e.trans e2) rh rs
  | exc c fs σ k => exact fun ρ2 H2 s2 cls d e2 rh rs x => h ρ2 H2 s2 cls d (e.trans e2) rh rs x
  | bad => exact h
/-- a value's run inside a statement -/
theorem OutS.stm {α : Type} {x : R α} {σA : Sg} {σ : L2.St} {f : α → AH → RS} (rs : RG G ρ H σA σ) (h : OutS G W ρ H (x.stm σA f) D) : Out G (WE W σ) ρ H x fun a h' ρ' H' => OutS G W ρ' H' (f a h') D := by
  cases x with
  | ok a k => exact fun ρ2 H2 e2 rh => OutS.later e2 h
  | exc c fs k => exact fun ρ2 H2 cls d e2 rh x => h ρ2 H2 σ cls d e2 rh (rs.ext e2) x
  | bad => exact h
end
section
variable (T : Top) (cal : Nat → List AV → AH → R AV) (W : WX)
def RdgS (run : Sg → AH → RS) : TS := fun D σ H => ∃ ρ σA h, RG T.G ρ H σA σ ∧ RH T.G ρ h H ∧ OutS T.G W ρ H (run σA h) D
def rdS (m : MS) : TS := RdgS T W (evS T.Pr cal m)
def rdSs (m : MSs) : TS := RdgS T W (evSs T.Pr cal m)
/-! ### targets -/
def setManyV : L2.St → List Nat → List V → L2.St
  | σ, i :: is, v :: vs => setManyV (σ.set i (some v)) is vs
  | σ, _, _ => σ
def rdG (K : PySem.W.Frag) : MT → TG
  | .name i => gName i
  | .tup is => fun v σ H Q => ∃ a vs, v = .ref a ∧ SqT K H a vs ∧ vs.length = is.length ∧ Q (setManyV σ is vs) H
/-! ### what is walked -/
inductive RIt (G : Gr) (ρ : List Addr) (H : Hp) : MIt → It → Prop
  | tup {xs : List AV} {vs : List V} {a : Addr} : TA G.K H a vs → RVs G ρ H xs vs → RIt G ρ H (.tup xs) (Itt G.K a)
  | lst {k : Nat} {a : Addr} : ρ[k]? = some a → RIt G ρ H (.lst k) (Itl G.K a)
  | rng (n : Nat) : RIt G ρ H (.rng n) (Itr 0 n)
def rdI (m : MI) : TI := fun σ H R => Rdg T W (evI T.Pr cal m) σ H fun it _ ρ' H' => ∀ J, RIt T.G ρ' H' it J → R J H'
end
section
variable {T : Top} {cal : Nat → List AV → AH → R AV} {lvl : Nat} {X : Cx} {W : WX} {G : Gr}
theorem RG.many {ρ : List Addr} {H : Hp} : ∀ {is : List Nat} {σA σA' : Sg} {σ : L2.St} {xs : List AV} {vs : List V}, RG G ρ H σA σ → RVs G ρ H xs vs → setMany σA is xs = some σA' → RG G ρ H σA' (setManyV σ is vs) ∧ vs.length = is.length
  | [], σA, σA', σ, [], _, r, .nil, e => by cases e; exact ⟨r, rfl⟩
  | [], σA, σA', σ, _ :: _, _, r, .cons _ _, e => by cases e
  | i :: is, σA, σA', σ, [], _, r, .nil, e => by cases e
  | i :: is, σA, σA', σ, x :: xs, v :: vs, r, .cons a b, e => by
    obtain ⟨h1, h2⟩ := RG.many (r.set i a) b (show setMany (σA.set i (some x)) is xs = some σA' from e)
    exact ⟨h1, by simp [h2]⟩
/-- targets that are names -/
structure NameOk (X : Cx) (i : Nat) (x : Str) : Prop where
  ix : X.N[i]? = some x
  loc : Loc X.env.scope x
  fn : X.fn x = true ∨ X.env.scope.names.lookup x = some .local
theorem pg_nameA (hN : X.N.Nodup) {i : Nat} {x : Str} {pos : Pos} (h : NameOk X i x) : PG X (.Name x pos) (rdG X.K (.name i)) := pg_name hN h.ix h.loc h.fn
inductive NamesOk (X : Cx) : List Nat → List Expr → Prop
  | nil : NamesOk X [] []
  | cons {i : Nat} {x : Str} {pos : Pos} {is : List Nat} {es : List Expr} : NameOk X i x → NamesOk X is es → NamesOk X (i :: is) (.Name x pos :: es)
theorem NamesOk.length : ∀ {is : List Nat} {es : List Expr}, NamesOk X is es → es.length = is.length
  | _, _, .nil => rfl
  | _, _, .cons _ t => by simp [NamesOk.length t]
theorem NamesOk.each : ∀ {is : List Nat} {es : List Expr}, NamesOk X is es → (assignEach es X.env).length = is.length ∧ (assignEach es X.env).findIdx? (·.1) = none
  | _, _, .nil => ⟨rfl, rfl⟩
  | _, _, .cons (x := x) (pos := pos) (es := es) _ t => by
    obtain ⟨h1, h2⟩ := NamesOk.each t
    have e : assignEach (.Name x pos :: es) X.env = (false, assign (.Name x pos) X.env) :: assignEach es X.env := rfl
    rw [e]
    refine ⟨by simp [h1], ?_⟩
    rw [List.findIdx?_cons]
    simp only [Bool.false_eq_true, if_false, h2, Option.map_none]
theorem pgs_names (hN : X.N.Nodup) : ∀ {is : List Nat} {es : List Expr}, NamesOk X is es → PGs X es (fun vs σ H Q => vs.length = is.length ∧ Q (setManyV σ is vs) H)
  | _, _, .nil => ⟨fun pins s σ H vs us Q I r h => by
      obtain ⟨h1, h2⟩ := h
      cases r with
      | nil => exact pgs_nil.run pins s σ H [] [] Q I .nil ⟨rfl, h2⟩
      | cons _ _ => cases h1⟩
  | i :: is, _, .cons (x := x) (pos := pos) (es := es) h1 t => ⟨fun pins s σ H vs us Q I r h => by
      refine (pgs_cons (pg_name hN h1.ix h1.loc h1.fn) (pgs_names hN t)).run pins s σ H vs us Q I r ?_
      obtain ⟨h2, h3⟩ := h
      cases vs with
      | nil => cases h2
      | cons v vs => exact ⟨v, vs, rfl, by simpa using h2, h3⟩⟩
theorem pg_tupA (hN : X.N.Nodup) (hc : X.calm = true) {is : List Nat} {es : List Expr} {k : Nat} {pos : Pos} (h : NamesOk X is es) : PG X (.Tuple es k pos) (rdG X.K (.tup is)) := by
  obtain ⟨h1, h2⟩ := h.each
  refine ⟨fun pins s σ H v u Q I r q => (pg_tup (n := is.length) hc (pgs_names hN h) h1 h2).run pins s σ H v u Q I r ?_⟩
  obtain ⟨a, vs, e, hs, hl, q⟩ := q
  exact ⟨a, vs, e, hs, hl, hl, q⟩
/-- a target stores what the run stores -/
theorem put_r {ρ : List Addr} {h : AH} {H : Hp} {σA σA' : Sg} {σ : L2.St} {t : MT} {x : AV} {v : V} {Q : L2.St → Hp → Prop} (rs : RG G ρ H σA σ) (rv : RV G ρ H x v) (e : putT σA h t x = some σA') (q : ∀ σ', RG G ρ H σA' σ' → Q σ' H) : rdG G.K t v σ H Q := by
  cases t with
  | name i =>
    cases e
    exact q _ (rs.set i rv)
  | tup is =>
    unfold putT at e
    cases rv with
    | tup ht rr =>
      obtain ⟨h1, h2⟩ := rs.many rr e
      exact ⟨_, _, rfl, ht.sq, h2, q _ h1⟩
    | _ => cases e
/-! ### sources -/
theorem pi_seqA (rd : Rdy T cal lvl X W) {tg l : Expr} {m : ME} (hl : PE X l (rdE T cal W m)) : PI X tg l (rdI T cal W (.seq m)) := by
  refine ⟨fun pins s σ H R I h => ?_⟩
  have h2 : rdE T cal W m σ H fun v H' => ∃ ρ h1 x, RV T.G ρ H' x v ∧ RH T.G ρ h1 H' ∧ Out T.G (WE W σ) ρ H' (kSeq x h1) (fun it _ ρ' H' => ∀ J, RIt T.G ρ' H' it J → R J H') :=
    one_r (f := fun _ => kSeq) h fun ρ σA h1 H' x v rs rx rh o => ⟨ρ, h1, x, rx, rh, o⟩
  refine thn (hl.run pins s σ H _ I h2) fun v s1 ⟨x, H1, I1, r1, ρ, h1, xa, rx, rh, o⟩ => ?_
  unfold kSeq at o
  split at o
  rotate_left
  · exact o.elim
  rename_i it e
  have o1 := o ρ H1 .refl rh
  cases rx with
  | tup ht rr =>
    rename_i a vs xs
    cases e
    cases r1
    obtain ⟨its, rv, p, hz⟩ := I1.tuple (by rw [rd.k]; exact ht.sq)
    refine wpAny_pyIter_tuple (show s1.heap.IsTuple a its.toArray from p) ?_
    have TT : Turn X.prog X.w X.K tg (Itt T.G.K a) [s1.heap.objs.size] s1.heap.objs.size (fun i h => h.IsTupleIter s1.heap.objs.size a i) := by rw [rd.k]; exact turn_tuple a _
    refine ⟨s1.heap.objs.size, [s1.heap.objs.size], _, _, H1, rfl, I1.kept (t' := s1.toks) fun b o e => Heap.get?_push_of_some _ e, TT, ⟨_, Heap.get?_push_size _ rfl, rfl, rfl⟩, fun b hb => ?_, o1 _ (.tup ht rr)⟩
    have e : b = s1.heap.objs.size := by simpa using hb
    subst e
    exact I1.fpOk (Nat.le_refl _) (I1.hok.fresh (Nat.le_refl _))
  | ref ea =>
    rename_i k a
    unfold itOf at e
    dsimp only at e
    split at e
    · rename_i hs
      cases e
      obtain ⟨xs, hx⟩ := Option.isSome_iff_exists.mp hs
      obtain ⟨vs, hq, _⟩ := rh.seq hx ea
      cases r1
      obtain ⟨its, rv, p, hz⟩ := I1.list (by rw [rd.k]; exact hq)
      refine wpAny_pyIter_list p.isList ?_
      have TT : Turn X.prog X.w X.K tg (Itl T.G.K a) [s1.heap.objs.size] s1.heap.objs.size (fun i h => h.IsListIter s1.heap.objs.size a i) := by rw [rd.k]; exact turn_list a _
      refine ⟨s1.heap.objs.size, [s1.heap.objs.size], _, _, H1, rfl, I1.kept (t' := s1.toks) fun b o e => Heap.get?_push_of_some _ e, TT, ⟨_, Heap.get?_push_size _ rfl, rfl, rfl⟩, fun b hb => ?_, o1 _ (.lst ea)⟩
      have e : b = s1.heap.objs.size := by simpa using hb
      subst e
      exact I1.fpOk (Nat.le_refl _) (I1.hok.fresh (Nat.le_refl _))
    · cases e
  | _ => cases e
theorem pi_rangeA (rd : Rdy T cal lvl X W) {tg a : Expr} {p pos : Pos} {m : ME} (hg : Gl X "range") (ha : PE X a (rdE T cal W m)) (hs : starEach [a] X.env = [(false, eval a X.env)]) : PI X tg (.Call (.Name "range" p) [a] [] pos) (rdI T cal W (.range m)) := by
  have hp : PA X [a] (tCons (rdE T cal W m) tNil) := pa_cons ha pa_nil (by rw [hs]; rfl)
  refine ⟨fun pins s σ H R I h => (pi_range1 hg (rd.top.un "range" (by decide +kernel)) hp hs).run pins s σ H R I ?_⟩
  refine one_r (f := fun _ => kRange) h fun ρ σA h1 H' x v rs rx rh o => ?_
  cases rx with
  | int i =>
    dsimp only [kRange] at o
    split at o
    · rename_i hi
      exact ⟨i, rfl, hi.1, hi.2, o ρ H' .refl rh _ (.rng _)⟩
    · exact o.elim
  | _ => exact o.elim
/-! ### the loop -/
/-- what a loop asks, as tFor has it -/
def LoopW (J : It) (g : TG) (tb : TS) (D : Ends) (σ : L2.St) (H : Hp) : Prop := ∃ Wn : Nat → Nat → L2.St → Hp → Prop, (∃ m, Wn 0 m σ H) ∧ ∀ i m σ H, Wn i m σ H →
  (J.stop i H ∧ D.nx σ H) ∨ (J.go i H ∧ ∃ N : L2.St → Hp → Prop, (∀ σ' H', N σ' H' → ∃ m', m' < m ∧ Wn (i + 1) m' σ' H') ∧ ∀ x H', J.yld i H x H' → g x σ H' fun σ2 H2 => tb { D with nx := N, ct := N, bk := D.nx } σ2 H2)
/-- one turn -/
theorem turn_r {ρ : List Addr} {h : AH} {H : Hp} {σA : Sg} {σ : L2.St} {t : MT} {f : Sg → AH → RS} {x : AV} {v : V} {D : Ends} {N : L2.St → Hp → Prop} {next : Sg → AH → RS}
    (rs : RG T.G ρ H σA σ) (rv : RV T.G ρ H x v) (rh : RH T.G ρ h H)
    (o : OutS T.G W ρ H (match kTurn t f x σA h with
      | .nx σ' h' => next σ' h'
      | .ct σ' h' => next σ' h'
      | .bk σ' h' => .nx σ' h'
      | r => r) D)
    (hN : ∀ ρ' σA' h' σ' H', Ext T.G ρ H ρ' H' → RG T.G ρ' H' σA' σ' → RH T.G ρ' h' H' → OutS T.G W ρ' H' (next σA' h') D → N σ' H') : rdG T.G.K t v σ H fun σ2 H2 => RdgS T W f { D with nx := N, ct := N, bk := D.nx } σ2 H2 := by
  unfold kTurn at o
  cases e : putT σA h t x with
  | none => rw [e] at o; exact o.elim
  | some σA' =>
    rw [e] at o
    refine put_r rs rv e fun σ' rs' => ⟨ρ, σA', h, rs', rh, ?_⟩
    dsimp only at o
    cases hf : f σA' h with
    | nx s k => rw [hf] at o; exact fun ρ' H' σ2 e2 rh2 rs2 => hN ρ' s k σ2 H' e2 rs2 rh2 (OutS.later e2 o)
    | ct s k => rw [hf] at o; exact fun ρ' H' σ2 e2 rh2 rs2 => hN ρ' s k σ2 H' e2 rs2 rh2 (OutS.later e2 o)
    | bk s k => rw [hf] at o; exact o
    | rt x k => rw [hf] at o; exact o
    | exc c fs s k => rw [hf] at o; exact o
    | bad => rw [hf] at o; exact o
theorem loop_r {ρ : List Addr} {h : AH} {H : Hp} {σA : Sg} {σ : L2.St} {t : MT} {f : Sg → AH → RS} {it : MIt} {J : It} {D : Ends}
    (rs : RG T.G ρ H σA σ) (rh : RH T.G ρ h H) (ri : RIt T.G ρ H it J) (o : OutS T.G W ρ H (walkI (kTurn t f) it σA h) D) : LoopW J (rdG T.G.K t) (RdgS T W f) D σ H := by
  cases ri with
  | tup ht rr =>
    rename_i xs vs a
    refine ⟨fun i m σ H => ∃ ρ σA h, TA T.G.K H a vs ∧ RVs T.G ρ H xs vs ∧ RG T.G ρ H σA σ ∧ RH T.G ρ h H ∧ i ≤ xs.length ∧ m = xs.length - i ∧ OutS T.G W ρ H (walkT (kTurn t f) (xs.drop i) σA h) D, ⟨_, ρ, σA, h, ht, rr, rs, rh, Nat.zero_le _, rfl, o⟩, ?_⟩
    rintro i m σ H ⟨ρ, σA, h, ht, rr, rs, rh, hi, rfl, o⟩
    by_cases hlt : i < xs.length
    · have hd : xs.drop i = xs[i] :: xs.drop (i + 1) := List.drop_eq_getElem_cons hlt
      rw [hd] at o
      obtain ⟨v, hv, rv⟩ := rr.get (List.getElem?_eq_getElem hlt)
      refine .inr ⟨⟨vs, v, ht.sq, hv⟩, fun σ' H' => ∃ ρ σA h, TA T.G.K H' a vs ∧ RVs T.G ρ H' xs vs ∧ RG T.G ρ H' σA σ' ∧ RH T.G ρ h H' ∧ i + 1 ≤ xs.length ∧ OutS T.G W ρ H' (walkT (kTurn t f) (xs.drop (i + 1)) σA h) D, ?_, ?_⟩
      · rintro σ' H' ⟨ρ, σA, h, h1, h2, h3, h4, h5, h6⟩
        exact ⟨xs.length - (i + 1), by omega, ρ, σA, h, h1, h2, h3, h4, h5, rfl, h6⟩
      · rintro x H' ⟨rfl, hy⟩
        have hx := hy vs ht.sq
        rw [hv] at hx
        cases hx
        exact turn_r rs rv rh o fun ρ' σA' h' σ' H' e rs' rh' o' => ⟨ρ', σA', h', e.tup _ _ ht, rr.ext e, rs', rh', hlt, o'⟩
    · have hd : xs.drop i = [] := List.drop_of_length_le (by omega)
      rw [hd] at o
      exact .inl ⟨⟨vs, ht.sq, by rw [← rr.length]; omega⟩, o ρ H σ .refl rh rs⟩
  | lst ea =>
    rename_i k a
    cases hs : seqOf h (.ref k) with
    | none => dsimp only [walkI] at o; rw [hs] at o; exact o.elim
    | some xs0 =>
      dsimp only [walkI] at o
      rw [hs] at o
      refine ⟨fun i m σ H => ∃ ρ σA h, ρ[k]? = some a ∧ RG T.G ρ H σA σ ∧ RH T.G ρ h H ∧ OutS T.G W ρ H (walkL (kTurn t f) k m i σA h) D, ⟨_, ρ, σA, h, ea, rs, rh, o⟩, ?_⟩
      rintro i m σ H ⟨ρ, σA, h, ea, rs, rh, o⟩
      cases hs : seqOf h (.ref k) with
      | none => cases m <;> (dsimp only [walkL] at o; rw [hs] at o; exact o.elim)
      | some xs =>
        obtain ⟨vs, hq, rr⟩ := rh.seq hs ea
        cases m with
        | zero =>
          dsimp only [walkL] at o
          rw [hs] at o
          dsimp only at o
          split at o
          · rename_i hl
            exact .inl ⟨⟨vs, hq, by rw [← rr.length]; exact hl⟩, o ρ H σ .refl rh rs⟩
          · exact o.elim
        | succ m =>
          dsimp only [walkL] at o
          rw [hs] at o
          dsimp only at o
          cases hx : xs[i]? with
          | none =>
            rw [hx] at o
            have hl : xs.length ≤ i := List.getElem?_eq_none_iff.mp hx
            exact .inl ⟨⟨vs, hq, by rw [← rr.length]; exact hl⟩, o ρ H σ .refl rh rs⟩
          | some x =>
            rw [hx] at o
            dsimp only at o
            obtain ⟨v, hv, rv⟩ := rr.get hx
            refine .inr ⟨⟨vs, v, hq, hv⟩, fun σ' H' => ∃ ρ σA h, ρ[k]? = some a ∧ RG T.G ρ H' σA σ' ∧ RH T.G ρ h H' ∧ OutS T.G W ρ H' (walkL (kTurn t f) k m (i + 1) σA h) D, ?_, ?_⟩
            · rintro σ' H' q
              exact ⟨m, Nat.lt_succ_self _, q⟩
            · rintro y H' ⟨rfl, hy⟩
              have hx' := hy vs hq
              rw [hv] at hx'
              cases hx'
              exact turn_r rs rv rh o fun ρ' σA' h' σ' H' e rs' rh' o' => ⟨ρ', σA', h', e.at ea, rs', rh', o'⟩
  | rng n =>
    refine ⟨fun i m σ H => ∃ ρ σA h, i + m = n ∧ RG T.G ρ H σA σ ∧ RH T.G ρ h H ∧ OutS T.G W ρ H (walkR (kTurn t f) m (i : Int) σA h) D, ⟨n, ρ, σA, h, by omega, rs, rh, o⟩, ?_⟩
    rintro i m σ H ⟨ρ, σA, h, hm, rs, rh, o⟩
    cases m with
    | zero => exact .inl ⟨by show n ≤ i; omega, o ρ H σ .refl rh rs⟩
    | succ m =>
      refine .inr ⟨by show i < n; omega, fun σ' H' => ∃ ρ σA h, (i + 1) + m = n ∧ RG T.G ρ H' σA σ' ∧ RH T.G ρ h H' ∧ OutS T.G W ρ H' (walkR (kTurn t f) m ((i + 1 : Nat) : Int) σA h) D, ?_, ?_⟩
      · rintro σ' H' q
        exact ⟨m, Nat.lt_succ_self _, q⟩
      · rintro y H' ⟨rfl, rfl⟩
        refine turn_r (x := .int i) rs (by rw [Int.zero_add]; exact .int _) rh o fun ρ' σA' h' σ' H' e rs' rh' o' => ⟨ρ', σA', h', by omega, rs', rh', ?_⟩
        exact o'
end
end Mini
set_option autoImplicit false
set_option maxHeartbeats 4000000
/-! Mini, fourteenth part: list comprehensions, dict displays. -/
namespace Mini
open PySem PySem.Spec L2
open PyProof.Rows hiding St
abbrev W0 : WX := fun _ _ _ _ => False
section
variable {T : Top} {cal : Nat → List AV → AH → R AV} {lvl : Nat} {X : Cx} {W : WX} {G : Gr}
theorem Rdy.blk (rd : Rdy T cal lvl X W) (s : Shared) (H : Hp) (scope : Scope) (cenv : Env) (fp : List Addr) : Rdy T cal lvl (X.blk s H scope cenv fp) W0 :=
  ⟨rd.calm, rd.nd, rd.gd, rd.room, takes0, rd.k, rd.top, rd.tab⟩
/-! ### wiping -/
theorem wipe_get {σ : L2.St} : ∀ {vs : List Nat} {j : Nat}, (wipe σ vs)[j]? = if j ∈ vs ∧ j < σ.length then some none else σ[j]?
  | [], j => by simp [wipe]
  | v :: vs, j => by
    unfold wipe
    by_cases h : v = j
    · subst h
      by_cases hl : v < σ.length
      · rw [List.getElem?_set_self (by rw [wipe_length]; exact hl), if_pos ⟨by simp, hl⟩]
      · rw [if_neg (fun z => hl z.2), List.getElem?_eq_none (by simp [wipe_length]; omega), List.getElem?_eq_none (by omega)]
    · rw [List.getElem?_set_ne h, wipe_get]
      have : (j ∈ v :: vs ∧ j < σ.length) ↔ (j ∈ vs ∧ j < σ.length) := by
        simp only [List.mem_cons]
        constructor
        · rintro ⟨h1 | h1, h2⟩
          · exact absurd h1.symm h
          · exact ⟨h1, h2⟩
        · exact fun ⟨h1, h2⟩ => ⟨.inr h1, h2⟩
      simp only [this]
theorem wipe_set {σ : L2.St} {vs : List Nat} {i : Nat} {x : Option V} (h : i ∈ vs) : wipe (σ.set i x) vs = wipe σ vs := by
  refine List.ext_getElem? fun j => ?_
  rw [wipe_get, wipe_get, List.length_set]
  by_cases hj : j ∈ vs ∧ j < σ.length
  · rw [if_pos hj, if_pos hj]
  · rw [if_neg hj, if_neg hj]
    by_cases e : i = j
    · subst e
      have hl : ¬ i < σ.length := fun z => hj ⟨h, z⟩
      rw [List.getElem?_eq_none (by simp; omega), List.getElem?_eq_none (by omega)]
    · rw [List.getElem?_set_ne e]
theorem wipe_many {vs : List Nat} : ∀ {is : List Nat} {ws : List V} {σ : L2.St}, (∀ i ∈ is, i ∈ vs) → wipe (setManyV σ is ws) vs = wipe σ vs
  | [], _, σ, _ => by unfold setManyV; rfl
  | i :: is, [], σ, _ => by unfold setManyV; rfl
  | i :: is, w :: ws, σ, h => by
    unfold setManyV
    rw [wipe_many fun j hj => h j (List.mem_cons_of_mem _ hj), wipe_set (h i List.mem_cons_self)]
theorem wipe_wipe {σ : L2.St} {vs : List Nat} : wipe (wipe σ vs) vs = wipe σ vs := by
  refine List.ext_getElem? fun j => ?_
  rw [wipe_get, wipe_get, wipe_length]
  by_cases hj : j ∈ vs ∧ j < σ.length
  · simp [hj]
  · simp [hj]
def MT.slots : MT → List Nat
  | .name i => [i]
  | .tup is => is
theorem put_w {ρ : List Addr} {h : AH} {H : Hp} {σA σA' : Sg} {σ : L2.St} {t : MT} {x : AV} {v : V} {own : List Nat} {Q : L2.St → Hp → Prop} (ht : ∀ i ∈ t.slots, i ∈ own) (rs : RG G ρ H σA σ) (rv : RV G ρ H x v) (e : putT σA h t x = some σA')
    (q : ∀ σ', RG G ρ H σA' σ' → wipe σ' own = wipe σ own → Q σ' H) : rdG G.K t v σ H Q := by
  cases t with
  | name i =>
    cases e
    exact q _ (rs.set i rv) (wipe_set (ht i (by simp [MT.slots])))
  | tup is =>
    unfold putT at e
    cases rv with
    | tup h2 rr =>
      obtain ⟨h1, h3⟩ := rs.many rr e
      exact ⟨_, _, rfl, h2.sq, h3, q _ h1 (wipe_many ht)⟩
    | _ => cases e
/-- what a comprehension's loop asks -/
def CompW (J : It) (g : TG) (te : TE) (vs : List Nat) (σ : L2.St) (D : Addr) (Q : VK) (H0 : Hp) : Prop := ∃ Wn : Nat → Nat → Hp → Prop, (∃ m, Wn 0 m H0) ∧ ∀ i m H, Wn i m H →
  (J.stop i H ∧ Q (.ref D) H) ∨ (J.go i H ∧ ∃ Nx : Hp → Prop, (∀ H', Nx H' → ∃ m', m' < m ∧ Wn (i + 1) m' H') ∧ ∀ x H', J.yld i H x H' → g x (wipe σ vs) H' fun σ2 H2 => wipe σ2 vs = wipe σ vs ∧ tYes σ2 H2 fun b H3 =>
    if b = true then te σ2 H3 fun y H4 => ∃ acc, H4 D = some (.lst acc) ∧ acc.length < sizeLine ∧ Nx (upd H4 D (.lst (acc ++ [y]))) else Nx H3)
theorem kComp_nx {k : Nat} {ρ : List Addr} {H : Hp} {E : XK} {σA : Sg} {h : AH} {Q : AV → AH → List Addr → Hp → Prop} (o : Out G E ρ H (kComp k (.nx σA h)) Q) : Out G E ρ H (.ok (.ref k) h) Q := o
theorem cturn_r {ρ : List Addr} {h : AH} {H : Hp} {σA : Sg} {σ : L2.St} {t : MT} {own : List Nat} {m : ME} {x : AV} {v : V} {k : Nat} {D : Addr} {E : XK} {Q : AV → AH → List Addr → Hp → Prop} {Nx : Hp → Prop} {next : Sg → AH → RS}
    (ht : ∀ i ∈ t.slots, i ∈ own) (rs : RG T.G ρ H σA σ) (rv : RV T.G ρ H x v) (rh : RH T.G ρ h H) (ed : ρ[k]? = some D)
    (o : Out T.G E ρ H (kComp k (match compTurn k own t (evE T.Pr cal m) x σA h with
      | .nx σ' h' => next σ' h'
      | .ct σ' h' => next σ' h'
      | .bk σ' h' => .nx σ' h'
      | r => r)) Q)
    (hN : ∀ ρ' h' H', Ext T.G ρ H ρ' H' → RH T.G ρ' h' H' → Out T.G E ρ' H' (kComp k (next σA h')) Q → Nx H') :
    rdG T.G.K t v (wipe σ own) H fun σ2 H2 => wipe σ2 own = wipe σ own ∧ tYes σ2 H2 fun b H3 =>
      if b = true then rdE T cal W0 m σ2 H3 fun y H4 => ∃ acc, H4 D = some (.lst acc) ∧ acc.length < sizeLine ∧ Nx (upd H4 D (.lst (acc ++ [y]))) else Nx H3 := by
  unfold compTurn at o
  cases e : putT (wipeS σA own) h t x with
  | none => rw [e] at o; exact o.elim
  | some σ1 =>
    rw [e] at o
    refine put_w ht (rs.wipe own) rv e fun σ' rs' hw => ⟨by rw [hw, wipe_wipe], ?_⟩
    show rdE T cal W0 m σ' H fun y H4 => ∃ acc, H4 D = some (.lst acc) ∧ acc.length < sizeLine ∧ Nx (upd H4 D (.lst (acc ++ [y])))
    refine ⟨ρ, σ1, h, rs', rh, ?_⟩
    dsimp only at o
    cases hf : evE T.Pr cal m σ1 h with
    | bad => rw [hf] at o; exact o.elim
    | exc c fs h1 => rw [hf] at o; exact o.elim
    | ok y h1 =>
      rw [hf] at o
      dsimp only at o
      intro ρ1 H1 e1 rh1 yv ry
      cases hk : h1[k]? with
      | none => rw [hk] at o; exact o.elim
      | some ob =>
        rw [hk] at o
        cases ob with
        | lst acc =>
          dsimp only at o
          by_cases hl : acc.length < sizeLine
          · rw [if_pos hl] at o
            have ed1 := e1.at ed
            obtain ⟨vs, z, rr⟩ := rh1.lst hk ed1
            obtain ⟨w0, hw0, _, hn1, hn2⟩ := (rh1.at' k _ D hk ed1).is rfl
            have ex : Ext T.G ρ1 H1 ρ1 (upd H1 D (.lst (vs ++ [yv]))) := Ext.put hw0 hn1 hn2
            obtain ⟨rh2, ex2⟩ := rh1.put (o' := .lst (acc ++ [y])) (u := .lst (vs ++ [yv])) hk ed1 rfl rfl (.lst upd_same ((rr.append (.cons ry .nil)).ext ex))
            refine ⟨vs, z, by rw [← rr.length]; exact hl, hN ρ1 _ _ (e1.trans ex2) rh2 (Out.later (e1.trans ex2) o)⟩
          · rw [if_neg hl] at o; exact o.elim
        | _ => exact o.elim

theorem comp_r {ρ : List Addr} {h : AH} {H : Hp} {σA : Sg} {σ : L2.St} {t : MT} {own : List Nat} {m : ME} {it : MIt} {J : It} {k : Nat} {D : Addr} {E : XK} {Q : VK}
    (ht : ∀ i ∈ t.slots, i ∈ own) (rs : RG T.G ρ H σA σ) (rh : RH T.G ρ h H) (ri : RIt T.G ρ H it J) (ed : ρ[k]? = some D)
    (o : Out T.G E ρ H (kComp k (walkI (compTurn k own t (evE T.Pr cal m)) it σA h)) fun x _ ρ' H' => ∀ v, RV T.G ρ' H' x v → Q v H') : CompW J (rdG T.G.K t) (rdE T cal W0 m) own σ D Q H := by
  generalize hf : compTurn k own t (evE T.Pr cal m) = f at o
  cases ri with
  | tup ha rr =>
    rename_i xs vs a
    refine ⟨fun i n H => ∃ ρ h, TA T.G.K H a vs ∧ RVs T.G ρ H xs vs ∧ RG T.G ρ H σA σ ∧ RH T.G ρ h H ∧ ρ[k]? = some D ∧ i ≤ xs.length ∧ n = xs.length - i ∧ Out T.G E ρ H (kComp k (walkT f (xs.drop i) σA h)) fun x _ ρ' H' => ∀ v, RV T.G ρ' H' x v → Q v H', ⟨_, ρ, h, ha, rr, rs, rh, ed, Nat.zero_le _, rfl, o⟩, ?_⟩
    rintro i n H ⟨ρ, h, ha, rr, rs, rh, ed, hi, rfl, o⟩
    by_cases hlt : i < xs.length
    · have hd : xs.drop i = xs[i] :: xs.drop (i + 1) := List.drop_eq_getElem_cons hlt
      rw [hd] at o
      obtain ⟨v, hv, rv⟩ := rr.get (List.getElem?_eq_getElem hlt)
      refine .inr ⟨⟨vs, v, ha.sq, hv⟩, fun H' => ∃ ρ h, TA T.G.K H' a vs ∧ RVs T.G ρ H' xs vs ∧ RG T.G ρ H' σA σ ∧ RH T.G ρ h H' ∧ ρ[k]? = some D ∧ i + 1 ≤ xs.length ∧ Out T.G E ρ H' (kComp k (walkT f (xs.drop (i + 1)) σA h)) fun x _ ρ' H' => ∀ v, RV T.G ρ' H' x v → Q v H', ?_, ?_⟩
      · rintro H' ⟨ρ, h, h1, h2, h3, h4, h5, h6, h7⟩
        exact ⟨xs.length - (i + 1), by omega, ρ, h, h1, h2, h3, h4, h5, h6, rfl, h7⟩
      · rintro x H' ⟨rfl, hy⟩
        have hx := hy vs ha.sq
        rw [hv] at hx
        cases hx
        subst hf
        exact cturn_r ht rs rv rh ed o fun ρ' h' H' e rh' o' => ⟨ρ', h', e.tup _ _ ha, rr.ext e, rs.ext e, rh', e.at ed, hlt, o'⟩
    · have hd : xs.drop i = [] := List.drop_of_length_le (by omega)
      rw [hd] at o
      exact .inl ⟨⟨vs, ha.sq, by rw [← rr.length]; omega⟩, kComp_nx o ρ H .refl rh _ (.ref ed)⟩
  | lst ea =>
    rename_i l a
    cases hs : seqOf h (.ref l) with
    | none => dsimp only [walkI] at o; rw [hs] at o; exact o.elim
    | some xs0 =>
      dsimp only [walkI] at o
      rw [hs] at o
      refine ⟨fun i n H => ∃ ρ h, ρ[l]? = some a ∧ RG T.G ρ H σA σ ∧ RH T.G ρ h H ∧ ρ[k]? = some D ∧ Out T.G E ρ H (kComp k (walkL f l n i σA h)) fun x _ ρ' H' => ∀ v, RV T.G ρ' H' x v → Q v H', ⟨_, ρ, h, ea, rs, rh, ed, o⟩, ?_⟩
      rintro i n H ⟨ρ, h, ea, rs, rh, ed, o⟩
      cases hs : seqOf h (.ref l) with
      | none => cases n <;> (dsimp only [walkL] at o; rw [hs] at o; exact o.elim)
      | some xs =>
        obtain ⟨vs, hq, rr⟩ := rh.seq hs ea
        cases n with
        | zero =>
          dsimp only [walkL] at o
          rw [hs] at o
          dsimp only at o
          by_cases hl : xs.length ≤ i
          · rw [if_pos hl] at o
            exact .inl ⟨⟨vs, hq, by rw [← rr.length]; exact hl⟩, kComp_nx o ρ H .refl rh _ (.ref ed)⟩
          · rw [if_neg hl] at o; exact o.elim
        | succ n =>
          dsimp only [walkL] at o
          rw [hs] at o
          dsimp only at o
          cases hx : xs[i]? with
          | none =>
            rw [hx] at o
            have hl : xs.length ≤ i := List.getElem?_eq_none_iff.mp hx
            exact .inl ⟨⟨vs, hq, by rw [← rr.length]; exact hl⟩, kComp_nx o ρ H .refl rh _ (.ref ed)⟩
          | some x =>
            rw [hx] at o
            dsimp only at o
            obtain ⟨v, hv, rv⟩ := rr.get hx
            refine .inr ⟨⟨vs, v, hq, hv⟩, fun H' => ∃ ρ h, ρ[l]? = some a ∧ RG T.G ρ H' σA σ ∧ RH T.G ρ h H' ∧ ρ[k]? = some D ∧ Out T.G E ρ H' (kComp k (walkL f l n (i + 1) σA h)) fun x _ ρ' H' => ∀ v, RV T.G ρ' H' x v → Q v H', ?_, ?_⟩
            · rintro H' q
              exact ⟨n, Nat.lt_succ_self _, q⟩
            · rintro y H' ⟨rfl, hy⟩
              have hx' := hy vs hq
              rw [hv] at hx'
              cases hx'
              subst hf
              exact cturn_r ht rs rv rh ed o fun ρ' h' H' e rh' o' => ⟨ρ', h', e.at ea, rs.ext e, rh', e.at ed, o'⟩
  | rng n =>
    refine ⟨fun i m H => ∃ ρ h, i + m = n ∧ RG T.G ρ H σA σ ∧ RH T.G ρ h H ∧ ρ[k]? = some D ∧ Out T.G E ρ H (kComp k (walkR f m (i : Int) σA h)) fun x _ ρ' H' => ∀ v, RV T.G ρ' H' x v → Q v H', ⟨n, ρ, h, by omega, rs, rh, ed, o⟩, ?_⟩
    rintro i m H ⟨ρ, h, hm, rs, rh, ed, o⟩
    cases m with
    | zero => exact .inl ⟨by show n ≤ i; omega, kComp_nx o ρ H .refl rh _ (.ref ed)⟩
    | succ m =>
      refine .inr ⟨by show i < n; omega, fun H' => ∃ ρ h, (i + 1) + m = n ∧ RG T.G ρ H' σA σ ∧ RH T.G ρ h H' ∧ ρ[k]? = some D ∧ Out T.G E ρ H' (kComp k (walkR f m ((i + 1 : Nat) : Int) σA h)) fun x _ ρ' H' => ∀ v, RV T.G ρ' H' x v → Q v H', ?_, ?_⟩
      · rintro H' q
        exact ⟨m, Nat.lt_succ_self _, q⟩
      · rintro y H' ⟨rfl, rfl⟩
        subst hf
        exact cturn_r (x := .int i) ht rs (by rw [Int.zero_add]; exact .int _) rh ed o fun ρ' h' H' e rh' o' => ⟨ρ', h', by omega, rs.ext e, rh', e.at ed, o'⟩
theorem lc_r {t : MT} {own : List Nat} {m : ME} {src : MI} {σ : L2.St} {H : Hp} {Q : VK} (ht : ∀ i ∈ t.slots, i ∈ own) (h : rdE T cal W (.comp t src m own) σ H Q) : tLc (rdI T cal W src) (rdG T.G.K t) tYes (rdE T cal W0 m) own σ H Q := by
  obtain ⟨ρ, σA, h0, rs, rh, o⟩ := h
  refine ⟨ρ, σA, h0, rs, rh, (Out.bind o).imp fun it h1 ρ1 H1 e1 rh1 o1 J ri D hD => ?_⟩
  have rh2 : RH T.G (ρ1 ++ [D]) (h1 ++ [.lst []]) (upd H1 D (.lst [])) := rh1.new hD rfl (.lst upd_same .nil)
  have e2 : Ext T.G ρ1 H1 (ρ1 ++ [D]) (upd H1 D (.lst [])) := Ext.new hD [D]
  have ed : (ρ1 ++ [D])[h1.length]? = some D := by rw [← rh1.len]; simp
  have ri2 : RIt T.G (ρ1 ++ [D]) (upd H1 D (.lst [])) it J := by
    cases ri with
    | tup ha rr => exact .tup (e2.tup _ _ ha) (rr.ext e2)
    | lst ea => exact .lst (e2.at ea)
    | rng n => exact .rng n
  exact comp_r ht ((rs.ext e1).ext e2) rh2 ri2 ed (Out.later e2 o1)
theorem je_comp (rd : Rdy T cal lvl X W) {elt tg iter : Expr} {scope : Scope} {own : List (Str × Nat)} {pos : Pos} {t : MT} {src : MI} {m : ME} (ht : ∀ i ∈ t.slots, i ∈ own.map (·.2)) (hi : PI X tg iter (rdI T cal W src)) (ok : BlkOk X.N X.env.scope scope own)
    (hg : ∀ (s : Shared) (H : Hp) (C : Addr) (cl : List (Str × Addr)) (fp : List Addr), PG (X.blk s H scope (compEnvC scope cl C X.env) fp) tg (rdG T.G.K t))
    (he : ∀ (s : Shared) (H : Hp) (C : Addr) (cl : List (Str × Addr)) (fp : List Addr), PE (X.blk s H scope (compEnvC scope cl C X.env) fp) elt (rdE T cal W0 m)) (hs : ∀ x, foldedSetIterable iter X.env x = pure x) :
    PE X (.ListComp elt [⟨tg, iter, [], 0⟩] scope pos) (rdE T cal W (.comp t src m (own.map (·.2)))) := (pe_lc rd.calm rd.nd hi ok hg (fun _ _ _ _ _ => pts_nil) he hs).imp fun _ _ _ h => lc_r ht h
/-! ### dict displays -/
inductive DOk (T : Top) (cal : Nat → List AV → AH → R AV) (W : WX) (X : Cx) : List (Option Expr) → List Expr → List Str → MEs → List (TE × TE) → Prop
  | nil : DOk T cal W X [] [] [] .nil []
  | cons {k : Str} {j : Nat} {kp : Pos} {v : Expr} {m : ME} {keys : List (Option Expr)} {values : List Expr} {ks : List Str} {ms : MEs} {trs : List (TE × TE)} : PE X v (rdE T cal W m) → DOk T cal W X keys values ks ms trs →
    DOk T cal W X (some (.Constant (.str k) j kp) :: keys) (v :: values) (k :: ks) (.cons m ms) ((tC (.str k), rdE T cal W m) :: trs)
def pairsV : List Str → List V → List (V × V)
  | k :: ks, v :: vs => (.str k, v) :: pairsV ks vs
  | _, _ => []
def pairsK : List Str → List V → List (L2.Key × V)
  | k :: ks, v :: vs => (.inr k, v) :: pairsK ks vs
  | _, _ => []
theorem DOk.pps {keys : List (Option Expr)} {values : List Expr} {ks : List Str} {ms : MEs} {trs : List (TE × TE)} {pos : Pos} (h : DOk T cal W X keys values ks ms trs) : PPs X pos keys values trs := by
  induction h with
  | nil => exact pps_nil
  | cons a _ ih => exact pps_cons pe_str a ih
theorem DOk.len {keys : List (Option Expr)} {values : List Expr} {ks : List Str} {ms : MEs} {trs : List (TE × TE)} (h : DOk T cal W X keys values ks ms trs) : keys.length = ks.length ∧ keys.length = values.length ∧ keys.all (·.isSome) = true := by
  induction h with
  | nil => exact ⟨rfl, rfl, rfl⟩
  | cons a _ ih => exact ⟨by simp [ih.1], by simp [ih.2.1], by simp [ih.2.2]⟩
theorem pairs_r {σ : L2.St} {keys : List (Option Expr)} {values : List Expr} {ks : List Str} {ms : MEs} {trs : List (TE × TE)} (d : DOk T cal W X keys values ks ms trs) : ∀ {H : Hp} {Q : List (V × V) → Hp → Prop},
    Rdg T W (evEs T.Pr cal ms) σ H (fun xs _ ρ' H' => ∀ vs, RVs T.G ρ' H' xs vs → Q (pairsV ks vs) H') → tPairs trs σ H Q := by
  induction d with
  | nil => exact fun ⟨ρ, σA, h, rs, rh, o⟩ => o ρ _ .refl rh [] .nil
  | cons a _ ih => exact fun ⟨ρ, σA, h, rs, rh, o⟩ => ⟨ρ, σA, h, rs, rh, (Out.bind o).imp fun x h1 ρ1 H1 e1 rh1 o1 v rv => ih ⟨ρ1, σA, h1, rs.ext e1, rh1, (Out.bind o1).imp fun xs h2 ρ2 H2 e2 rh2 o2 vs rr => o2 ρ2 H2 .refl rh2 (v :: vs) (.cons (rv.ext e2) rr)⟩⟩
theorem dct_r {ρ : List Addr} {H : Hp} : ∀ {ks : List Str} {xs : List AV} {vs : List V} {kvs : List (Str × AV)}, RVs G ρ H xs vs → dctOf ks xs = some kvs → RD G ρ H kvs (pairsK ks vs) ∧ pairsV ks vs = (pairsK ks vs).map (fun kv => (kV kv.1, kv.2)) ∧ (pairsK ks vs).length = kvs.length
  | [], [], _, _, .nil, e => by cases e; exact ⟨.nil, rfl, rfl⟩
  | [], _ :: _, _, _, .cons _ _, e => by cases e
  | k :: ks, [], _, _, .nil, e => by cases e
  | k :: ks, x :: xs, v :: vs, kvs, .cons r t, e => by
    unfold dctOf at e
    cases e1 : dctOf ks xs with
    | none => rw [e1] at e; cases e
    | some l =>
      rw [e1] at e
      cases e
      obtain ⟨h1, h2, h3⟩ := dct_r t e1
      exact ⟨.cons r h1, by show (V.str k, v) :: pairsV ks vs = _; rw [h2]; rfl, by show (pairsK ks vs).length + 1 = _; rw [h3]; rfl⟩
theorem pairsK_keys : ∀ {ks : List Str} {vs : List V} {k : Str}, (ks.contains k = false) → ((pairsK ks vs).any fun kv => decide (kv.1 = Sum.inr k)) = false
  | [], _, _, _ => by unfold pairsK; rfl
  | _ :: _, [], _, _ => by unfold pairsK; rfl
  | k' :: ks, v :: vs, k, h => by
    simp only [List.contains_cons, Bool.or_eq_false_iff] at h
    unfold pairsK
    rw [List.any_cons, pairsK_keys h.2]
    have : k' ≠ k := fun z => by simp [z] at h
    simp [this]
theorem putK_new {acc : List (L2.Key × V)} {k : L2.Key} {v : V} (h : (acc.any fun kv => decide (kv.1 = k)) = false) : putK acc k v = acc ++ [(k, v)] := by unfold putK; rw [if_neg (by rw [h]; exact Bool.false_ne_true)]
theorem merge_new : ∀ {ks : List Str} {vs : List V} {acc : List (L2.Key × V)}, nodupB ks = true → (∀ k, ks.contains k = true → (acc.any fun kv => decide (kv.1 = Sum.inr k)) = false) → mergeK acc (pairsK ks vs) = acc ++ pairsK ks vs
  | [], _, acc, _, _ => by unfold pairsK mergeK; simp
  | _ :: _, [], acc, _, _ => by unfold pairsK mergeK; simp
  | k :: ks, v :: vs, acc, h, ha => by
    unfold nodupB at h
    simp only [Bool.and_eq_true, Bool.not_eq_true'] at h
    have e1 : putK acc (Sum.inr k : L2.Key) v = acc ++ [(Sum.inr k, v)] := putK_new (ha k (by simp))
    show mergeK (putK acc (Sum.inr k) v) (pairsK ks vs) = _
    rw [e1, merge_new h.2 fun k' hk' => ?_]
    · show acc ++ [(Sum.inr k, v)] ++ pairsK ks vs = acc ++ (Sum.inr k, v) :: pairsK ks vs
      simp
    · rw [List.any_append, ha k' (by simp only [List.contains_cons, hk', Bool.or_true])]
      have : k ≠ k' := fun z => by subst z; rw [h.1] at hk'; cases hk'
      simp [this]
theorem je_dct (rd : Rdy T cal lvl X W) {keys : List (Option Expr)} {values : List Expr} {ks : List Str} {ms : MEs} {trs : List (TE × TE)} {pos : Pos} (d : DOk T cal W X keys values ks ms trs) (h0 : keys ≠ []) (h15 : keys.length ≤ 15) :
    PE X (.Dict keys values pos) (rdE T cal W (.dct ks ms)) := by
  obtain ⟨l1, l2, l3⟩ := d.len
  refine (pe_disp d.pps l3 l2 h0 h15).imp fun σ H Q ⟨ρ, σA, h, rs, rh, o⟩ p hp => ?_
  have rh2 : RH T.G (ρ ++ [p]) (h ++ [.dct []]) (upd H p (.dK [])) := rh.new hp rfl (.dct upd_same .nil)
  have e2 : Ext T.G ρ H (ρ ++ [p]) (upd H p (.dK [])) := Ext.new hp [p]
  have ep : (ρ ++ [p])[h.length]? = some p := by rw [← rh.len]; simp
  refine pairs_r d ⟨_, σA, _, rs.ext e2, rh2, (Out.bind (Out.later e2 o)).imp fun xs h3 ρ3 H3 e3 rh3 o3 vs rr => ?_⟩
  have ep3 := e3.at ep
  unfold kDct at o3
  cases hk : h3[h.length]? with
  | none => rw [hk] at o3; exact o3.elim
  | some ob =>
    rw [hk] at o3
    cases hd : dctOf ks xs with
    | none => rw [hd] at o3; cases ob <;> first | exact o3.elim | (rename_i l; cases l <;> exact o3.elim)
    | some kvs =>
      rw [hd] at o3
      cases ob with
      | dct l =>
        cases l with
        | nil =>
          dsimp only at o3
          by_cases hc : kvs.length ≤ 15 ∧ nodupB ks = true
          · rw [if_pos hc] at o3
            obtain ⟨r1, r2, r3⟩ := dct_r rr hd
            cases rh3.at' _ _ _ hk ep3 with
            | dct z rz =>
              cases rz
              refine ⟨z, pairsK ks vs, r2, by rw [r3]; exact hc.1, ?_⟩
              rw [merge_new hc.2 fun _ _ => rfl, List.nil_append]
              have ex : Ext T.G ρ3 H3 ρ3 (upd H3 p (.dK (pairsK ks vs))) := Ext.put z (fun _ q => by cases q) (fun _ _ q => by cases q)
              obtain ⟨rh', ex'⟩ := rh3.put (o' := .dct kvs) (u := .dK (pairsK ks vs)) hk ep3 rfl rfl (.dct upd_same (r1.ext ex))
              exact o3 ρ3 _ ex' rh' _ (.ref ep3)
          · rw [if_neg hc] at o3; exact o3.elim
        | cons _ _ => exact o3.elim
      | _ => exact o3.elim
theorem je_dct0 (rd : Rdy T cal lvl X W) {pos : Pos} : PE X (.Dict [] [] pos) (rdE T cal W (.dct [] .nil)) := by
  refine pe_dnewK.imp fun σ H Q ⟨ρ, σA, h, rs, rh, o⟩ p hp => ?_
  have rh2 : RH T.G (ρ ++ [p]) (h ++ [.dct []]) (upd H p (.dK [])) := rh.new hp rfl (.dct upd_same .nil)
  have e2 : Ext T.G ρ H (ρ ++ [p]) (upd H p (.dK [])) := Ext.new hp [p]
  have ep : (ρ ++ [p])[h.length]? = some p := by rw [← rh.len]; simp
  have hg : (h ++ [AO.dct []])[h.length]? = some (.dct []) := by simp
  have hs : (h ++ [AO.dct []]).set h.length (.dct []) = h ++ [.dct []] := by rw [List.set_append_right _ _ (Nat.le_refl _)]; simp
  have o1 : Out T.G (WE W σ) ρ H (kDct h.length [] [] (h ++ [AO.dct []])) fun x _ ρ' H' => ∀ v, RV T.G ρ' H' x v → Q v H' := o
  unfold kDct at o1
  rw [hg] at o1
  have o2 : Out T.G (WE W σ) ρ H (.ok (.ref h.length) ((h ++ [AO.dct []]).set h.length (.dct []))) fun x _ ρ' H' => ∀ v, RV T.G ρ' H' x v → Q v H' := o1
  rw [hs] at o2
  exact o2 _ _ e2 rh2 _ (.ref ep)
end
end Mini
set_option autoImplicit false
set_option maxHeartbeats 4000000
/-! Mini, fifteenth part: statements. -/
namespace Mini
open PySem PySem.Spec L2
open PyProof.Rows hiding St
section
variable {T : Top} {cal : Nat → List AV → AH → R AV} {lvl : Nat} {X : Cx} {W : WX} {G : Gr}
variable {e o ix c : Expr} {m mo mi mc : ME} {pos pos' : Pos}
theorem stm_r {σ : L2.St} {H : Hp} {D : Ends} {f : Sg → AV → AH → RS} {R' : V → Hp → Prop} (h : RdgS T W (fun σA h => (evE T.Pr cal m σA h).stm σA (f σA)) D σ H)
    (k : ∀ ρ σA h H' x v, RG T.G ρ H' σA σ → RV T.G ρ H' x v → RH T.G ρ h H' → OutS T.G W ρ H' (f σA x h) D → R' v H') : rdE T cal W m σ H R' := by
  obtain ⟨ρ, σA, h, rs, rh, o⟩ := h
  exact ⟨ρ, σA, h, rs, rh, (OutS.stm rs o).imp fun x h1 ρ1 H1 e1 rh1 o1 v rv => k ρ1 σA h1 H1 x v (rs.ext e1) rv rh1 o1⟩
theorem js_set (rd : Rdy T cal lvl X W) {i : Nat} {x : Str} (n : NameOk X i x) (he : PE X e (rdE T cal W m)) (hs : swapsWith e (some (.Name x pos')) pos.line X.env = pure false) :
    PS X (.Assign [.Name x pos'] e pos) (rdS T cal W (.set i m)) :=
  (ps_set rd.nd n.ix n.loc he hs n.fn).imp fun D σ H h => stm_r (f := fun σA v h1 => .nx (σA.set i (some v)) h1) h fun ρ σA h1 H' x v rs rv rh o => o ρ H' _ .refl rh (rs.set i rv)
/-- y = [..] -/
theorem js_setC (rd : Rdy T cal lvl X W) {i : Nat} {y : Str} {py : Pos} {elt tg iter : Expr} {scope : Scope} {own : List (Str × Nat)} {pos spos : Pos} {t : MT} {src : MI} {m : ME} (n : NameOk X i y) (hyl : X.env.scope.names.lookup y = some .local)
    (hsw : swapsWith (.ListComp elt [⟨tg, iter, [], 0⟩] scope pos) (some (.Name y py)) spos.line X.env = pure true)
    (ht : ∀ i ∈ t.slots, i ∈ own.map (·.2)) (hi : PI X tg iter (rdI T cal W src)) (ok : BlkOk X.N X.env.scope scope own)
    (hg : ∀ (s : Shared) (H : Hp) (C : Addr) (cl : List (Str × Addr)) (fp : List Addr), PG (X.blk s H scope (compEnvC scope cl C X.env) fp) tg (rdG T.G.K t))
    (he : ∀ (s : Shared) (H : Hp) (C : Addr) (cl : List (Str × Addr)) (fp : List Addr), PE (X.blk s H scope (compEnvC scope cl C X.env) fp) elt (rdE T cal W0 m)) (hs : ∀ x, foldedSetIterable iter X.env x = pure x) :
    PS X (.Assign [.Name y py] (.ListComp elt [⟨tg, iter, [], 0⟩] scope pos) spos) (rdS T cal W (.set i (.comp t src m (own.map (·.2))))) := by
  refine (ps_setLc rd.calm rd.nd n.ix hyl hsw hi ok hg (fun _ _ _ _ _ => pts_nil) he hs).imp fun D σ H h => ?_
  have h2 : rdE T cal W (.comp t src m (own.map (·.2))) σ H (fun x H1 => gName i x σ H1 D.nx) := stm_r (f := fun σA v h1 => .nx (σA.set i (some v)) h1) h fun ρ σA h1 H' x v rs rv rh o => o ρ H' _ .refl rh (rs.set i rv)
  exact lc_r ht h2
theorem js_par (rd : Rdy T cal lvl X W) {i j : Nat} {x y : Str} {a b : Expr} {ma mb : ME} {px py pt : Pos} {kt k2 : Nat} {pt2 : Pos} (hi : X.N[i]? = some x) (hj : X.N[j]? = some y) (hij : i ≠ j)
    (hx : X.env.scope.names.lookup x = some .local) (hy : X.env.scope.names.lookup y = some .local) (ha : PA X [a, b] (rdEs T cal W (.cons ma (.cons mb .nil))))
    (hw : swappedStores [.Tuple [.Name x px, .Name y py] kt pt] (.Tuple [a, b] k2 pt2) X.env = pure (some [x, y])) :
    PS X (.Assign [.Tuple [.Name x px, .Name y py] kt pt] (.Tuple [a, b] k2 pt2) pos) (rdS T cal W (.par i j ma mb)) := by
  refine (ps_par rd.calm rd.nd hi hj hij hx hy ha hw).imp fun D σ H ⟨ρ, σA, h, rs, rh, o⟩ => ⟨ρ, σA, h, rs, rh, ?_⟩
  unfold evS at o
  unfold evEs
  cases ea : evE T.Pr cal ma σA h with
  | bad => rw [ea] at o; exact o.elim
  | exc c fs h1 => rw [ea] at o; exact fun ρ2 H2 cls d e2 rh2 x => o ρ2 H2 σ cls d e2 rh2 (rs.ext e2) x
  | ok va h1 =>
    rw [ea] at o
    unfold evEs
    dsimp only [R.bind, R.stm] at o ⊢
    cases eb : evE T.Pr cal mb σA h1 with
    | bad => rw [eb] at o; exact o.elim
    | exc c fs h2 => rw [eb] at o; exact fun ρ2 H2 cls d e2 rh2 x => o ρ2 H2 σ cls d e2 rh2 (rs.ext e2) x
    | ok vb h2 =>
      rw [eb] at o
      unfold evEs
      intro ρ2 H2 e2 rh2 vs rr
      cases rr with
      | cons r1 rr =>
        cases rr with
        | cons r2 rr =>
          cases rr
          exact ⟨_, _, rfl, o ρ2 H2 _ e2 rh2 (((rs.ext e2).set i r1).set j r2)⟩
theorem js_par3 (rd : Rdy T cal lvl X W) {i j l : Nat} {x y z : Str} {a b c : Expr} {ma mb mc : ME} {px py pz pt : Pos} {kt k2 : Nat} {pt2 : Pos} (hi : X.N[i]? = some x) (hj : X.N[j]? = some y) (hl : X.N[l]? = some z) (hij : i ≠ j) (hil : i ≠ l) (hjl : j ≠ l)
    (hx : X.env.scope.names.lookup x = some .local) (hy : X.env.scope.names.lookup y = some .local) (hz : X.env.scope.names.lookup z = some .local) (ha : PA X [a, b, c] (rdEs T cal W (.cons ma (.cons mb (.cons mc .nil)))))
    (hw : swappedStores [.Tuple [.Name x px, .Name y py, .Name z pz] kt pt] (.Tuple [a, b, c] k2 pt2) X.env = pure (some [x, y, z])) :
    PS X (.Assign [.Tuple [.Name x px, .Name y py, .Name z pz] kt pt] (.Tuple [a, b, c] k2 pt2) pos) (rdS T cal W (.par3 i j l ma mb mc)) := by
  refine (ps_par3 rd.calm rd.nd hi hj hl hij hil hjl hx hy hz ha hw).imp fun D σ H ⟨ρ, σA, h, rs, rh, o⟩ => ⟨ρ, σA, h, rs, rh, ?_⟩
  unfold evS at o
  unfold evEs
  cases ea : evE T.Pr cal ma σA h with
  | bad => rw [ea] at o; exact o.elim
  | exc c fs h1 => rw [ea] at o; exact fun ρ2 H2 cls d e2 rh2 x => o ρ2 H2 σ cls d e2 rh2 (rs.ext e2) x
  | ok va h1 =>
    rw [ea] at o
    unfold evEs
    dsimp only [R.bind, R.stm] at o ⊢
    cases eb : evE T.Pr cal mb σA h1 with
    | bad => rw [eb] at o; exact o.elim
    | exc c fs h2 => rw [eb] at o; exact fun ρ2 H2 cls d e2 rh2 x => o ρ2 H2 σ cls d e2 rh2 (rs.ext e2) x
    | ok vb h2 =>
      rw [eb] at o
      unfold evEs
      dsimp only [R.bind, R.stm] at o ⊢
      cases ec : evE T.Pr cal mc σA h2 with
      | bad => rw [ec] at o; exact o.elim
      | exc c fs h3 => rw [ec] at o; exact fun ρ2 H2 cls d e2 rh2 x => o ρ2 H2 σ cls d e2 rh2 (rs.ext e2) x
      | ok vc h3 =>
        rw [ec] at o
        unfold evEs
        intro ρ2 H2 e2 rh2 vs rr
        cases rr with
        | cons r1 rr =>
          cases rr with
          | cons r2 rr =>
            cases rr with
            | cons r3 rr =>
              cases rr
              exact ⟨_, _, _, rfl, o ρ2 H2 _ e2 rh2 ((((rs.ext e2).set i r1).set j r2).set l r3)⟩
/-- (a, b, ..) = a tuple or a list -/
theorem pg_seqA (hN : X.N.Nodup) (hc : X.calm = true) {is : List Nat} {es : List Expr} {k : Nat} {pos : Pos} (h : NamesOk X is es) :
    PG X (.Tuple es k pos) (fun v σ H Q => ∃ a xs, v = .ref a ∧ (SqL X.K H a xs ∨ SqT X.K H a xs) ∧ xs.length = is.length ∧ Q (setManyV σ is xs) H) := by
  obtain ⟨h1, h2⟩ := h.each
  refine ⟨fun pins s σ H v u Q I r q => ?_⟩
  obtain ⟨a, xs, e, hs | hs, hl, q⟩ := q
  · exact (pg_unl (n := is.length) hc (pgs_names hN h) h1 h2).run pins s σ H v u Q I r ⟨a, xs, e, hs, hl, hl, q⟩
  · exact (pg_tup (n := is.length) hc (pgs_names hN h) h1 h2).run pins s σ H v u Q I r ⟨a, xs, e, hs, hl, hl, q⟩
theorem js_unp (rd : Rdy T cal lvl X W) {is : List Nat} {es : List Expr} {k : Nat} {tp : Pos} (n : NamesOk X is es) (he : PE X e (rdE T cal W m)) (hs : swapsWithSole [.Tuple es k tp] e pos.line X.env = pure false)
    (hw : swappedStores [.Tuple es k tp] e X.env = pure none) : PS X (.Assign [.Tuple es k tp] e pos) (rdS T cal W (.unp is m)) := by
  refine (ps_asg he (pg_seqA rd.nd rd.calm n) hs hw).imp fun D σ H h => stm_r (f := fun σA => kUnp σA is) h fun ρ σA h1 H' x v rs rv rh o => ?_
  unfold kUnp at o
  cases ex : seqOf h1 x with
  | none => rw [ex] at o; exact o.elim
  | some xs =>
    rw [ex] at o
    dsimp only at o
    cases em : setMany σA is xs with
    | none => rw [em] at o; exact o.elim
    | some σ2 =>
      rw [em] at o
      obtain ⟨a, vs, e1, hq, rr⟩ := rv.items rh ex
      obtain ⟨r1, r2⟩ := rs.many rr em
      exact ⟨a, vs, e1, by rw [rd.k]; exact hq, r2, o ρ H' _ .refl rh r1⟩
theorem js_setI (rd : Rdy T cal lvl X W) (ho : PE X o (rdE T cal W mo)) (hi : PE X ix (rdE T cal W mi)) (he : PE X e (rdE T cal W m)) (hs : swapsWith e (some (.Subscript o ix pos')) pos.line X.env = pure false) :
    PS X (.Assign [.Subscript o ix pos'] e pos) (rdS T cal W (.setI mo mi m)) := by
  refine (ps_dput (by have := rd.hu; omega) ho hi he hs).imp fun D σ H h => stm_r (f := fun σA v h1 => (evE T.Pr cal mo σA h1).stm σA fun x h2 => (evE T.Pr cal mi σA h2).stm σA fun y h3 => (R.of (setIA x y v h3)).stm σA fun _ h4 => .nx σA h4) h fun ρ σA h1 H1 x v rs rv rh o => ?_
  refine ⟨ρ, σA, h1, rs, rh, (OutS.stm rs o).imp fun xo h2 ρ2 H2 e2 rh2 o2 vo ro => ?_⟩
  refine ⟨ρ2, σA, h2, rs.ext e2, rh2, (OutS.stm (rs.ext e2) o2).imp fun xi h3 ρ3 H3 e3 rh3 o3 vi ri => ?_⟩
  have rs3 := (rs.ext e2).ext e3
  have ro := ro.ext e3
  have rv := (rv.ext e2).ext e3
  cases es : setIA xo xi x h3 with
  | none => rw [es] at o3; exact o3.elim
  | some p =>
    obtain ⟨u, h4⟩ := p
    rw [es] at o3
    unfold setIA at es
    split at es
    · rename_i k zz _
      split at es
      · rename_i kvs hk'
        split at es
        · rename_i hl
          cases es
          obtain ⟨a, rfl, ea⟩ := ro.ref_inv
          obtain rfl := ri.str_inv
          obtain ⟨ws, zd, rdd⟩ := rh3.dct hk' ea
          have hlen : ws.length < sizeLine := small1000 (by rw [← rdd.length]; omega)
          have hw := (rh3.at' k _ a hk' ea).is rfl
          obtain ⟨w0, hw0, _, hn1, hn2⟩ := hw
          have ex : Ext T.G ρ3 H3 ρ3 (upd H3 a (.dK (L2.putK ws (Sum.inr zz) v))) := Ext.put hw0 hn1 hn2
          obtain ⟨rh', ex'⟩ := rh3.put (o' := .dct (putA kvs zz x)) (u := .dK (L2.putK ws (Sum.inr zz) v)) hk' ea rfl rfl (.dct upd_same ((rdd.put rv).ext ex))
          exact ⟨a, _, rfl, DPut.k (k := Sum.inr zz) zd hlen, o3 ρ3 _ σ ex' rh' (rs3.ext ex')⟩
        · cases es
      · cases es
    · cases es
theorem js_setF (rd : Rdy T cal lvl X W) {f : Str} (hf : f ∈ T.flds) (ho : PE X o (rdE T cal W mo)) (he : PE X e (rdE T cal W m)) (hs : swapsWith e (some (.Attribute o f pos')) pos.line X.env = pure false) :
    PS X (.Assign [.Attribute o f pos'] e pos) (rdS T cal W (.setF mo f m)) := by
  refine ⟨fun pins s σ H D I h => ?_⟩
  obtain ⟨ρ, σA, h0, rs, rh, o1⟩ := h
  have h1 : rdE T cal W m σ H fun v H1 => ∃ ρ σA h1 x, RG T.G ρ H1 σA σ ∧ RV T.G ρ H1 x v ∧ RH T.G ρ h1 H1 ∧ OutS T.G W ρ H1 ((evE T.Pr cal mo σA h1).stm σA fun y h2 => (R.of (setFA T.Pr y f x h2)).stm σA fun _ h3 => .nx σA h3) D :=
    ⟨ρ, σA, h0, rs, rh, (OutS.stm rs o1).imp fun x h1 ρ1 H1 e1 rh1 o1 v rv => ⟨ρ1, σA, h1, x, rs.ext e1, rv, rh1, o1⟩⟩
  refine plainObj_wpAny_Assign_Attribute (thn (he.run pins s σ H _ I h1) fun v s1 ⟨y, H1, I1, r1, ρ1, σA1, h1, xa, rs1, rv1, rh1, o1⟩ => ?_) hs
  have h2 : rdE T cal W mo σ H1 fun w H2 => ∃ ρ σA h2 z, RG T.G ρ H2 σA σ ∧ RV T.G ρ H2 z w ∧ RV T.G ρ H2 xa y ∧ RH T.G ρ h2 H2 ∧ OutS T.G W ρ H2 ((R.of (setFA T.Pr z f xa h2)).stm σA fun _ h3 => .nx σA h3) D :=
    ⟨ρ1, σA1, h1, rs1, rh1, (OutS.stm rs1 o1).imp fun z h2 ρ2 H2 e2 rh2 o2 w rw => ⟨ρ2, σA1, h2, z, rs1.ext e2, rw, rv1.ext e2, rh2, o2⟩⟩
  refine thn (ho.run pins s1 σ H1 _ I1 h2) fun u s2 ⟨x, H2, I2, r2, ρ2, σA2, h2, za, rs2, rz, ry, rh2, o2⟩ => ?_
  cases es : setFA T.Pr za f xa h2 with
  | none => rw [es] at o2; exact o2.elim
  | some p =>
    obtain ⟨uu, h3⟩ := p
    rw [es] at o2
    exact setf_A rd hf I2 r2 r1 rz ry rh2 es fun s' ρ' H' e' rh' I' => ⟨σ, H', I', o2 ρ' H' σ e' rh' (rs2.ext e')⟩
theorem js_ex (he : PE X e (rdE T cal W m)) (hs : swapsWith e none pos.line X.env = pure false) : PS X (.Expr e pos) (rdS T cal W (.ex m)) :=
  (ps_expr he hs).imp fun D σ H h => stm_r (f := fun σA _ h1 => .nx σA h1) h fun ρ σA h1 H' x v rs rv rh o => o ρ H' _ .refl rh rs
theorem js_doc {x : Str} {j : Nat} : PS X (.Expr (.Constant (.str x) j pos) pos') (rdS T cal W .pass) := ps_doc.imp fun D σ H ⟨ρ, σA, h, rs, rh, o⟩ => o ρ H _ .refl rh rs
theorem js_pass : PS X (.Pass pos) (rdS T cal W .pass) := ps_pass.imp fun D σ H ⟨ρ, σA, h, rs, rh, o⟩ => o ρ H _ .refl rh rs
theorem js_brk : PS X (.Break pos) (rdS T cal W .brk) := ps_break.imp fun D σ H ⟨ρ, σA, h, rs, rh, o⟩ => o ρ H _ .refl rh rs
theorem js_cnt : PS X (.Continue pos) (rdS T cal W .cnt) := ps_continue.imp fun D σ H ⟨ρ, σA, h, rs, rh, o⟩ => o ρ H _ .refl rh rs
theorem js_ret (he : PE X e (rdE T cal W m)) : PS X (.Return (some e) pos) (rdS T cal W (.ret m)) :=
  (ps_ret he).imp fun D σ H h => stm_r (f := fun σA v h1 => .rt v h1) h fun ρ σA h1 H' x v rs rv rh o => o ρ H' v .refl rh rv
theorem js_retN : PS X (.Return none pos) (rdS T cal W .retN) := ps_retN.imp fun D σ H ⟨ρ, σA, h, rs, rh, o⟩ => o ρ H _ .refl rh .non
theorem js_if {a b : List Stmt} {ma mb : MSs} (hc : PT X c (rdT T cal W mc)) (ha : PSs X a (rdSs T cal W ma)) (hb : PSs X b (rdSs T cal W mb)) : PS X (.If c a b pos) (rdS T cal W (.if_ mc ma mb)) := by
  refine (ps_if hc ha hb).imp fun D σ H ⟨ρ, σA, h, rs, rh, o⟩ => ⟨ρ, σA, h, rs, rh, (OutS.stm rs o).imp fun x h1 ρ1 H1 e1 rh1 o1 => ?_⟩
  unfold kIf at o1
  split at o1
  · exact ⟨true, rfl, show rdSs T cal W ma D σ H1 from ⟨ρ1, σA, h1, rs.ext e1, rh1, o1⟩⟩
  · exact ⟨false, rfl, show rdSs T cal W mb D σ H1 from ⟨ρ1, σA, h1, rs.ext e1, rh1, o1⟩⟩
  · exact o1.elim
theorem js_for (rd : Rdy T cal lvl X W) {tg iter : Expr} {body : List Stmt} {t : MT} {src : MI} {ms : MSs} (hp : PassesOwn (model X.prog X.w) X.A X.env X.xe) (hi : PI X tg iter (rdI T cal W src)) (hg : PG X tg (rdG T.G.K t)) (hb : PSs X body (rdSs T cal W ms))
    (hs : ∀ x, foldedSetIterable iter X.env x = pure x) : PS X (.For tg iter body [] pos) (rdS T cal W (.for_ t src ms)) := by
  refine (ps_for hp rd.calm hi hg hb hs).imp fun D σ H ⟨ρ, σA, h, rs, rh, o⟩ => ⟨ρ, σA, h, rs, rh, (OutS.stm rs o).imp fun it h1 ρ1 H1 e1 rh1 o1 J ri => ?_⟩
  exact loop_r (rs.ext e1) rh1 ri o1
theorem jss_nil : PSs X [] (rdSs T cal W .nil) := pss_nil.imp fun D σ H ⟨ρ, σA, h, rs, rh, o⟩ => o ρ H _ .refl rh rs
theorem jss_cons {s : Stmt} {r : List Stmt} {ms : MS} {mr : MSs} (h1 : PS X s (rdS T cal W ms)) (h2 : PSs X r (rdSs T cal W mr)) : PSs X (s :: r) (rdSs T cal W (.cons ms mr)) := by
  refine (pss_cons h1 h2).imp fun D σ H ⟨ρ, σA, h, rs, rh, o⟩ => ⟨ρ, σA, h, rs, rh, ?_⟩
  unfold evSs at o
  cases e : evS T.Pr cal ms σA h with
  | nx σ2 h2 => rw [e] at o; exact fun ρ' H' σ' e' rh' rs' => ⟨ρ', σ2, h2, rs', rh', OutS.later e' o⟩
  | rt v k => rw [e] at o; exact o
  | bk s k => rw [e] at o; exact o
  | ct s k => rw [e] at o; exact o
  | exc c fs s k => rw [e] at o; exact o
  | bad => rw [e] at o; exact o
end
end Mini
set_option autoImplicit false
set_option maxHeartbeats 4000000
/-! Mini, sixteenth part: whether a text is what the small syntax says; then it runs so. -/
namespace Mini
open PySem PySem.Spec L2
open PyProof.Rows hiding St
/-- what a check is told of the program -/
structure Ck where
  Pr : Prog
  nm : Nat → Str
  flds : List Str
  top : Nat → Bool
  gcd : Bool
def noStar : Expr → Bool
  | .Starred .. => false
  | _ => true
def noSet : Expr → Bool
  | .Set .. => false
  | _ => true
def noSlice : Expr → Bool
  | .Slice .. => false
  | _ => true
def noComp : Expr → Bool
  | .ListComp .. => false | .SetComp .. => false | .DictComp .. => false
  | _ => true
/-- not a call of a name with nothing in it -/
def noCall0 : Expr → Bool
  | .Call (.Name _ _) [] [] _ => false
  | _ => true
def plainTest : Expr → Bool
  | .UnaryOp .Not _ _ => false
  | .BoolOp .. => false | .IfExp .. => false | .Compare .. => false
  | _ => true
def visB (sc : Scope) (x : Str) : Bool := match sc.names.lookup x with
  | some .local => true | some .cell => true | some .free => true
  | _ => false
def glB (sc : Scope) (x : Str) : Bool := decide (sc.names.lookup x = some .globalImplicit)
def okName (x : Str) : Bool := !(x == ("__debug__" : Str)) && !(x == ("__classdict__" : Str)) && !decide (x = ("__name__" : Str))
/-- a name that is stored: d in a def, else in a block -/
def nameB (d : Bool) (sc : Scope) (N : List Str) (i : Nat) (x : Str) : Bool := decide (N[i]? = some x) && (decide (sc.names.lookup x = some .local) || (d && decide (sc.names.lookup x = some .cell)))
def namesB (d : Bool) (sc : Scope) (N : List Str) : List Nat → List Expr → Bool
  | [], [] => true
  | i :: is, .Name x _ :: es => nameB d sc N i x && namesB d sc N is es
  | _, _ => false
def tgB (d : Bool) (sc : Scope) (N : List Str) (t : MT) (e : Expr) : Bool := match t, e with
  | .name i, .Name x _ => nameB d sc N i x
  | .tup is, .Tuple es _ _ => namesB d sc N is es
  | _, _ => false
def tyNames : List String := ["int", "str", "bool", "list", "tuple", "dict"]
def isVal (P : Prog) (g : Nat) : Bool := match P g with
  | some (.val _) => true
  | _ => false
def ownP (N : List Str) (own : List Nat) : List (Str × Nat) := own.map fun i => (N[i]?.getD "", i)
section
variable (C : Ck) (N : List Str)
def gloB (sc : Scope) (g : Nat) (x : Str) : Bool := decide (C.nm g = x) && glB sc x && okName x && (C.top g || isVal C.Pr g)
def defB (sc : Scope) (g : Nat) (x : Str) : Bool := decide (C.nm g = x) && glB sc x && okName x && C.top g
def biB (sc : Scope) (b : Bi) (x : Str) : Bool := decide (biName b = x) && glB sc x && okName x && (match b with
  | .bitlen => false
  | .gcd => C.gcd
  | _ => bnames.contains x)
mutual
def chkE (d : Bool) (sc : Scope) (m : ME) (e : Expr) : Bool := match m with
  | .var i => match e with
    | .Name x _ => decide (N[i]? = some x) && visB sc x && okName x
    | _ => false
  | .int i => match e with
    | .Constant (.int j) _ _ => decide (j = i)
    | _ => false
  | .str i => match e with
    | .Constant (.str j) _ _ => decide (j = i)
    | _ => false
  | .bl i => match e with
    | .Constant (.bool j) _ _ => decide (j = i)
    | _ => false
  | .non => match e with
    | .Constant .none _ _ => true
    | _ => false
  | .glo g => match e with
    | .Name x _ => gloB C sc g x
    | _ => false
  | .ty n => match e with
    | .Name x _ => decide (n ∈ tyNames) && decide (x = (PySem.Str.ofString n)) && glB sc x && okName x
    | _ => false
  | .bop o a b => match e with
    | .BinOp l op r _ => decide (op = opOf o) && chkE d sc a l && chkE d sc b r
    | _ => false
  | .neg a => match e with
    | .UnaryOp .USub l _ => chkE d sc a l
    | _ => false
  | .cmp o a b => match e with
    | .Compare l [op] [r] _ => decide (op = copOf o) && noSet r && chkE d sc a l && chkE d sc b r
    | _ => false
  | .cmp2 o o' a b c => match e with
    | .Compare l [op, op'] [r, r'] _ => decide (op = copOf o) && decide (op' = copOf o') && noSet r' && chkE d sc a l && chkE d sc b r && chkE d sc c r'
    | _ => false
  | .and_ a b => match e with
    | .BoolOp .And [l, r] _ => chkE d sc a l && chkE d sc b r
    | .BoolOp .And (l :: r :: q :: rest) p => chkE d sc a l && chkE d sc b (.BoolOp .And (r :: q :: rest) p)
    | _ => false
  | .or_ a b => match e with
    | .BoolOp .Or [l, r] _ => chkE d sc a l && chkE d sc b r
    | .BoolOp .Or (l :: r :: q :: rest) p => chkE d sc a l && chkE d sc b (.BoolOp .Or (r :: q :: rest) p)
    | _ => false
  | .not_ a => match e with
    | .UnaryOp .Not l _ => chkE d sc a l
    | _ => false
  | .ite c a b => match e with
    | .IfExp t l r _ => chkC d sc c t && chkE d sc a l && chkE d sc b r
    | _ => false
  | .tup ms => match e with
    | .Tuple es _ _ => chkEs d sc ms es
    | _ => false
  | .lst ms => match e with
    | .List es _ => chkEs d sc ms es
    | _ => false
  | .dct ks ms => match e with
    | .Dict keys vals _ => decide (keys.length ≤ 15) && chkD d sc ks ms keys vals
    | _ => false
  | .idx a b => match e with
    | .Subscript l r _ => noSlice r && chkE d sc a l && chkE d sc b r
    | _ => false
  | .fld a f => match e with
    | .Attribute l g _ => decide (g = f) && decide (f ∈ C.flds) && noCall0 l && chkE d sc a l
    | _ => false
  | .call g ms => match e with
    | .Call (.Name x _) es [] _ => defB C sc g x && chkEs d sc ms es
    | _ => false
  | .callk g ms ks mk => match e with
    | .Call (.Name x _) es kws _ => defB C sc g x && chkEs d sc ms es && chkK d sc ks mk kws
    | _ => false
  | .bi b ms => match e with
    | .Call (.Name x _) (l :: es) [] _ => biB C sc b x && chkEs d sc ms (l :: es)
    | _ => false
  | .met .append a ms => match e with
    | .Call (.Attribute o g ap) [l] [] cp => decide (g = ("append" : Str)) && noCall0 o && (ap.endLine == cp.line) && chkE d sc a o && chkEs d sc ms [l]
    | _ => false
  | .met _ _ _ => false
  | .comp t src elt own => match e with
    | .ListComp l [⟨tg, it, [], 0⟩] scope _ => (t.slots.all fun i => own.contains i) && blkC N sc scope (ownP N own) && noSet it && chkI d sc src it && tgB false (relS scope sc) N t tg && chkE false (relS scope sc) elt l
    | _ => false
/-- a test -/
def chkC (d : Bool) (sc : Scope) (m : ME) (e : Expr) : Bool := match m with
  | .not_ a => match e with
    | .UnaryOp .Not l _ => chkC d sc a l
    | _ => false
  | .and_ a b => match e with
    | .BoolOp .And [l, r] _ => chkC d sc a l && chkC d sc b r
    | .BoolOp .And (l :: r :: q :: rest) p => chkC d sc a l && chkC d sc b (.BoolOp .And (r :: q :: rest) p)
    | _ => false
  | .or_ a b => match e with
    | .BoolOp .Or [l, r] _ => chkC d sc a l && chkC d sc b r
    | .BoolOp .Or (l :: r :: q :: rest) p => chkC d sc a l && chkC d sc b (.BoolOp .Or (r :: q :: rest) p)
    | _ => false
  | .cmp o a b => match e with
    | .Compare l [op] [r] _ => decide (op = copOf o) && noSet r && chkE d sc a l && chkE d sc b r
    | _ => false
  | .cmp2 o o' a b c => match e with
    | .Compare l [op, op'] [r, r'] _ => decide (op = copOf o) && decide (op' = copOf o') && noSet r' && chkE d sc a l && chkE d sc b r && chkE d sc c r'
    | _ => false
  | .var i => match e with
    | .Name x _ => decide (N[i]? = some x) && visB sc x && okName x
    | _ => false
  | .bl i => match e with
    | .Constant (.bool j) _ _ => decide (j = i)
    | _ => false
  | .idx a b => match e with
    | .Subscript l r _ => noSlice r && chkE d sc a l && chkE d sc b r
    | _ => false
  | .fld a f => match e with
    | .Attribute l g _ => decide (g = f) && decide (f ∈ C.flds) && noCall0 l && chkE d sc a l
    | _ => false
  | .call g ms => match e with
    | .Call (.Name x _) es [] _ => defB C sc g x && chkEs d sc ms es
    | _ => false
  | .callk g ms ks mk => match e with
    | .Call (.Name x _) es kws _ => defB C sc g x && chkEs d sc ms es && chkK d sc ks mk kws
    | _ => false
  | .bi b ms => match e with
    | .Call (.Name x _) (l :: es) [] _ => biB C sc b x && chkEs d sc ms (l :: es)
    | _ => false
  | _ => false
def chkEs (d : Bool) (sc : Scope) (ms : MEs) (es : List Expr) : Bool := match ms with
  | .nil => match es with
    | [] => true
    | _ => false
  | .cons m ms => match es with
    | e :: es => noStar e && chkE d sc m e && chkEs d sc ms es
    | _ => false
def chkD (d : Bool) (sc : Scope) (ks : List Str) (ms : MEs) (keys : List (Option Expr)) (vals : List Expr) : Bool := match ms with
  | .nil => match ks, keys, vals with
    | [], [], [] => true
    | _, _, _ => false
  | .cons m ms => match ks, keys, vals with
    | k :: ks, some (.Constant (.str j) _ _) :: keys, e :: es => decide (j = k) && chkE d sc m e && chkD d sc ks ms keys es
    | _, _, _ => false
def chkK (d : Bool) (sc : Scope) (ks : List Str) (ms : MEs) (kws : List Keyword) : Bool := match ms with
  | .nil => match ks, kws with
    | [], [] => true
    | _, _ => false
  | .cons m ms => match ks, kws with
    | k :: ks, ⟨some j, e, _⟩ :: kws => decide (j = k) && chkE d sc m e && chkK d sc ks ms kws
    | _, _ => false
def chkI (d : Bool) (sc : Scope) (m : MI) (e : Expr) : Bool := match m with
  | .seq a => noSet e && chkE d sc a e
  | .range a => match e with
    | .Call (.Name x _) [l] [] _ => decide (x = ("range" : Str)) && glB sc x && noStar l && chkE d sc a l
    | _ => false
end
end
/-! ### the sides -/
theorem star_e {e : Expr} {es : List Expr} {env : Env} (h : noStar e = true) : starEach (e :: es) env = (false, eval e env) :: starEach es env := by
  cases e <;> first | rfl | (cases h)
theorem ix_e {b : Expr} (h : noSlice b = true) : PlainIx b := by
  intro o i
  cases b <;> first | rfl | (cases h)
theorem base_e {a : Expr} {f : Str} {env : Env} (h : noCall0 a = true) : attributeBase a f env (eval a env) = eval a env := by
  unfold attributeBase
  split
  · cases h
  · rfl
theorem mark_e {op : CmpOp} {b : Expr} (h : noSet b = true) : behindInMarks op b = false := by
  cases b <;> first | rfl | (cases h)
theorem marks_e {o o' : CmpOp} {b c : Expr} (h : noSet c = true) : lastMarks [o, o'] [b, c] = false := mark_e h
theorem set_e {e : Expr} {env : Env} (h : noSet e = true) (x : Value) : foldedSetIterable e env x = pure x := by
  cases e <;> first | rfl | (cases h)
theorem test_e {e : Expr} {env : Env} (h : plainTest e = true) (whole : Sem Value) : isTrue e env whole = (do let v ← whole; standAt e.pos; holding [v] (truthy v)) := by
  cases e with
  | UnaryOp op x p => cases op <;> first | rfl | (cases h)
  | _ => first | rfl | (cases h)
theorem sw_e {e : Expr} {t : Option Expr} {l : Nat} {env : Env} (h : noComp e = true) : swapsWith e t l env = pure false := by
  cases e <;> first | rfl | (cases h)
theorem sw_sub {e a b : Expr} {p : Pos} {l : Nat} {env : Env} : swapsWith e (some (.Subscript a b p)) l env = pure false := by cases e <;> rfl
theorem sw_att {e a : Expr} {f : Str} {p : Pos} {l : Nat} {env : Env} : swapsWith e (some (.Attribute a f p)) l env = pure false := by cases e <;> rfl
theorem sw_tup {e : Expr} {es : List Expr} {k : Nat} {p : Pos} {l : Nat} {env : Env} : swapsWithSole [.Tuple es k p] e l env = pure false := by
  show swapsWith e (some (.Tuple es k p)) l env = pure false
  cases e <;> rfl
theorem vis_e {sc : Scope} {x : Str} (h : visB sc x = true) : Vis sc x := by
  unfold visB at h
  split at h
  · exact .inl (by assumption)
  · exact .inr (.inl (by assumption))
  · exact .inr (.inr (by assumption))
  · cases h
theorem okName_e {x : Str} (h : okName x = true) : (x == ("__debug__" : Str)) = false ∧ (x == ("__classdict__" : Str)) = false ∧ x ≠ "__name__" := by
  unfold okName at h
  simp only [Bool.and_eq_true, Bool.not_eq_true', decide_eq_false_iff_not] at h
  exact ⟨h.1.1, h.1.2, h.2⟩
theorem boot_ty {n : String} (h : n ∈ tyNames) : bootBuiltins (PySem.Str.ofString n) = some (.type n) ∧ PySem.Str.ofString n ∈ bnames := by
  simp only [tyNames, List.mem_cons, List.not_mem_nil, or_false] at h
  rcases h with rfl | rfl | rfl | rfl | rfl | rfl <;> exact ⟨by decide +kernel, by decide +kernel⟩
/-- what the place gives -/
structure Gd (C : Ck) (T : Top) (X : Cx) (d : Bool) : Prop where
  pr : T.Pr = C.Pr
  nm : T.nm = C.nm
  flds : T.flds = C.flds
  top : ∀ g, C.top g = true → X.mg (C.nm g) = some (.ref (T.G.ad g)) ∧ PySem.W.keepIn T.G.K (.ref (T.G.ad g)) = true
  gcd : C.gcd = true → X.mg "gcd" = some (.builtin "math.gcd")
  fn : d = true → ∀ x, X.fn x = true
section
variable {C : Ck} {T : Top} {cal : Nat → List AV → AH → R AV} {lvl : Nat} {X : Cx} {W : WX} {d : Bool}
theorem Gd.blk (gd : Gd C T X d) (s : Shared) (H : Hp) (scope : Scope) (cenv : Env) (fp : List Addr) : Gd C T (X.blk s H scope cenv fp) false := ⟨gd.pr, gd.nm, gd.flds, gd.top, gd.gcd, fun h => by cases h⟩
theorem name_ok (gd : Gd C T X d) {i : Nat} {x : Str} (h : nameB d X.env.scope X.N i x = true) : NameOk X i x := by
  unfold nameB at h
  simp only [Bool.and_eq_true, Bool.or_eq_true, decide_eq_true_eq] at h
  obtain ⟨h1, h2 | ⟨h2, h3⟩⟩ := h
  · exact ⟨h1, .inl h2, .inr h2⟩
  · exact ⟨h1, .inr h3, .inl (gd.fn h2 x)⟩
theorem names_ok (gd : Gd C T X d) : ∀ {is : List Nat} {es : List Expr}, namesB d X.env.scope X.N is es = true → NamesOk X is es
  | [], [], _ => .nil
  | [], _ :: _, h => by cases h
  | _ :: _, [], h => by cases h
  | i :: is, e :: es, h => by
    cases e with
    | Name x p =>
      unfold namesB at h
      simp only [Bool.and_eq_true] at h
      exact .cons (name_ok gd h.1) (names_ok gd h.2)
    | _ => cases h
theorem tg_ok (rd : Rdy T cal lvl X W) (gd : Gd C T X d) {t : MT} {e : Expr} (h : tgB d X.env.scope X.N t e = true) : PG X e (rdG T.G.K t) := by
  rw [← rd.k]
  unfold tgB at h
  split at h
  · exact pg_nameA rd.nd (name_ok gd h)
  · exact pg_tupA rd.nd rd.calm (names_ok gd h)
  · cases h
theorem named_ok (gd : Gd C T X d) {g : Nat} {x : Str} (h : defB C X.env.scope g x = true) : Named T X g x := by
  unfold defB glB at h
  simp only [Bool.and_eq_true, decide_eq_true_eq] at h
  obtain ⟨⟨⟨h1, h2⟩, h3⟩, h4⟩ := h
  obtain ⟨t1, t2⟩ := gd.top g h4
  rw [h1] at t1
  exact ⟨h2, t1, (okName_e h3).1, t2⟩
theorem back_ok {pos : Pos} {env : Env} : ∀ {es : List Expr}, es.all noStar = true → (backTo pos (starEach es env)).any (·.1) = false
  | [], _ => rfl
  | e :: es, h => by
    simp only [List.all_cons, Bool.and_eq_true] at h
    rw [star_e h.1]
    show (false || (backTo pos (starEach es env)).any (·.1)) = false
    rw [back_ok h.2]; rfl
theorem stars_ok {N : List Str} {sc : Scope} : ∀ {ms : MEs} {es : List Expr}, chkEs C N d sc ms es = true → es.all noStar = true
  | .nil, [], _ => rfl
  | .nil, _ :: _, h => by unfold chkEs at h; cases h
  | .cons m ms, [], h => by unfold chkEs at h; cases h
  | .cons m ms, e :: es, h => by
    unfold chkEs at h
    simp only [Bool.and_eq_true] at h
    simp only [List.all_cons, Bool.and_eq_true]
    exact ⟨h.1.1, stars_ok h.2⟩
theorem kw_ok {N : List Str} {sc : Scope} {pos : Pos} {env : Env} : ∀ {ms : MEs} {ks : List Str} {kws : List Keyword}, chkK C N d sc ks ms kws = true →
    (backToKw pos (keywordEach kws env)).all (·.1.isSome) = true ∧ (backToKw pos (keywordEach kws env)).filterMap (·.1) = ks ∧ (backToKw pos (keywordEach kws env)).any (·.1.isNone) = false
  | .nil, [], [], _ => ⟨rfl, rfl, rfl⟩
  | .nil, [], _ :: _, h => by unfold chkK at h; cases h
  | .nil, _ :: _, _, h => by unfold chkK at h; cases h
  | .cons m ms, [], _, h => by unfold chkK at h; cases h
  | .cons m ms, _ :: _, [], h => by unfold chkK at h; cases h
  | .cons m ms, k :: ks, ⟨nm, e, p⟩ :: kws, h => by
    unfold chkK at h
    cases nm with
    | none => cases h
    | some j =>
      simp only [Bool.and_eq_true, decide_eq_true_eq] at h
      obtain ⟨⟨h1, _⟩, h3⟩ := h
      subst h1
      obtain ⟨q1, q2, q3⟩ := kw_ok (pos := pos) (env := env) h3
      refine ⟨?_, ?_, ?_⟩
      · show (true && (backToKw pos (keywordEach kws env)).all (·.1.isSome)) = true
        rw [q1]; rfl
      · show j :: (backToKw pos (keywordEach kws env)).filterMap (·.1) = _
        rw [q2]
      · show (false || (backToKw pos (keywordEach kws env)).any (·.1.isNone)) = false
        rw [q3]; rfl
theorem bi_ok (rd : Rdy T cal lvl X W) (gd : Gd C T X d) {b : Bi} {x : Str} {p pos : Pos} {l : Expr} {es : List Expr} {ms : MEs} (h : biB C X.env.scope b x = true) (ha : PA X (l :: es) (rdEs T cal W ms)) (hst : (l :: es).all noStar = true) : PE X (.Call (.Name x p) (l :: es) [] pos) (rdE T cal W (.bi b ms)) := by
  unfold biB glB at h
  simp only [Bool.and_eq_true, decide_eq_true_eq] at h
  obtain ⟨⟨⟨h1, h2⟩, h3⟩, h4⟩ := h
  have hs := hst
  simp only [List.all_cons, Bool.and_eq_true] at hst
  refine je_bi rd ?_ h1 h2 ?_ (okName_e h3).1 ha (star_e hst.1) (back_ok hst.2)
  · intro z; subst z; cases h4
  · cases b with
    | gcd => exact .inr ⟨rfl, by rw [← h1]; exact gd.gcd h4⟩
    | bitlen => cases h4
    | _ => exact .inl ⟨(fun z => by cases z), by simpa using h4⟩
theorem glo_ok (rd : Rdy T cal lvl X W) (gd : Gd C T X d) {g : Nat} {x : Str} {p : Pos} (h : gloB C X.env.scope g x = true) : PE X (.Name x p) (rdE T cal W (.glo g)) := by
  unfold gloB glB at h
  simp only [Bool.and_eq_true, Bool.or_eq_true, decide_eq_true_eq] at h
  obtain ⟨⟨⟨h1, h2⟩, h3⟩, h4⟩ := h
  refine je_glo rd (by rw [gd.nm]; exact h1) h2 (okName_e h3).1 ?_
  rcases h4 with h4 | h4
  · have := (gd.top g h4).1
    rw [h1] at this
    exact .inr this
  · unfold isVal at h4
    rw [gd.pr]
    split at h4
    · rename_i v e
      exact .inl ⟨v, e⟩
    · cases h4
end
end Mini
set_option autoImplicit false
set_option maxHeartbeats 4000000
/-! Mini, seventeenth part: a checked expression runs as the small syntax says. -/
namespace Mini
open PySem PySem.Spec L2
open PyProof.Rows hiding St
section
variable {C : Ck} {T : Top} {cal : Nat → List AV → AH → R AV} {lvl : Nat}
theorem ownP_map (N : List Str) : ∀ own : List Nat, (ownP N own).map (·.2) = own
  | [] => rfl
  | i :: own => by
    show i :: (ownP N own).map (·.2) = _
    rw [ownP_map N own]
mutual
theorem chkE_ok : ∀ (m : ME) {X : Cx} {W : WX} {d : Bool} {e : Expr}, Rdy T cal lvl X W → Gd C T X d → chkE C X.N d X.env.scope m e = true → PE X e (rdE T cal W m)
  | .var i, X, W, d, e, rd, gd, h => by
    unfold chkE at h
    split at h
    · simp only [Bool.and_eq_true, decide_eq_true_eq] at h
      exact je_var rd h.1.1 (vis_e h.1.2) (okName_e h.2).1 (okName_e h.2).2.1
    · cases h
  | .int i, X, W, d, e, rd, gd, h => by
    unfold chkE at h
    split at h
    · simp only [Bool.and_eq_true, decide_eq_true_eq] at h
      subst h
      exact je_int
    · cases h
  | .str i, X, W, d, e, rd, gd, h => by
    unfold chkE at h
    split at h
    · simp only [Bool.and_eq_true, decide_eq_true_eq] at h
      subst h
      exact je_str
    · cases h
  | .bl i, X, W, d, e, rd, gd, h => by
    unfold chkE at h
    split at h
    · simp only [Bool.and_eq_true, decide_eq_true_eq] at h
      subst h
      exact je_bl
    · cases h
  | .non, X, W, d, e, rd, gd, h => by
    unfold chkE at h
    split at h
    · exact je_non
    · cases h
  | .glo g, X, W, d, e, rd, gd, h => by
    unfold chkE at h
    split at h
    · exact glo_ok rd gd h
    · cases h
  | .ty n, X, W, d, e, rd, gd, h => by
    unfold chkE glB at h
    split at h
    · simp only [Bool.and_eq_true, decide_eq_true_eq] at h
      obtain ⟨⟨⟨h1, h2⟩, h3⟩, h4⟩ := h
      obtain ⟨b1, b2⟩ := boot_ty h1
      rw [← h2] at b1 b2
      exact je_ty rd h3 b2 b1 (okName_e h4).2.2 (okName_e h4).1
    · cases h
  | .bop o a b, X, W, d, e, rd, gd, h => by
    unfold chkE at h
    split at h
    · simp only [Bool.and_eq_true, decide_eq_true_eq] at h
      obtain ⟨⟨h1, h2⟩, h3⟩ := h
      subst h1
      exact je_bop rd (chkE_ok a rd gd h2) (chkE_ok b rd gd h3)
    · cases h
  | .neg a, X, W, d, e, rd, gd, h => by
    unfold chkE at h
    split at h
    · exact je_neg (chkE_ok a rd gd h)
    · cases h
  | .cmp o a b, X, W, d, e, rd, gd, h => by
    unfold chkE at h
    split at h
    · simp only [Bool.and_eq_true, decide_eq_true_eq] at h
      obtain ⟨⟨⟨h1, h0⟩, h2⟩, h3⟩ := h
      subst h1
      exact je_cmp rd (chkE_ok a rd gd h2) (chkE_ok b rd gd h3) (mark_e h0)
    · cases h
  | .cmp2 o o' a b c, X, W, d, e, rd, gd, h => by
    unfold chkE at h
    split at h
    · simp only [Bool.and_eq_true, decide_eq_true_eq] at h
      obtain ⟨⟨⟨⟨⟨h1, h1'⟩, h0⟩, h2⟩, h3⟩, h4⟩ := h
      subst h1 h1'
      exact je_cmp2 rd (chkE_ok a rd gd h2) (chkE_ok b rd gd h3) (chkE_ok c rd gd h4) (marks_e h0)
    · cases h
  | .and_ a b, X, W, d, e, rd, gd, h => by
    unfold chkE at h
    split at h
    · simp only [Bool.and_eq_true, decide_eq_true_eq] at h
      exact je_and (chkE_ok a rd gd h.1) (je_one (chkE_ok b rd gd h.2))
    · simp only [Bool.and_eq_true, decide_eq_true_eq] at h
      exact je_and (chkE_ok a rd gd h.1) (chkE_ok b rd gd h.2)
    · cases h
  | .or_ a b, X, W, d, e, rd, gd, h => by
    unfold chkE at h
    split at h
    · simp only [Bool.and_eq_true, decide_eq_true_eq] at h
      exact je_or (chkE_ok a rd gd h.1) (je_one (chkE_ok b rd gd h.2))
    · simp only [Bool.and_eq_true, decide_eq_true_eq] at h
      exact je_or (chkE_ok a rd gd h.1) (chkE_ok b rd gd h.2)
    · cases h
  | .not_ a, X, W, d, e, rd, gd, h => by
    unfold chkE at h
    split at h
    · exact je_not (chkE_ok a rd gd h)
    · cases h
  | .ite c a b, X, W, d, e, rd, gd, h => by
    unfold chkE at h
    split at h
    · simp only [Bool.and_eq_true, decide_eq_true_eq] at h
      exact je_ite (chkC_ok c rd gd h.1.1).1 (chkE_ok a rd gd h.1.2) (chkE_ok b rd gd h.2)
    · cases h
  | .tup ms, X, W, d, e, rd, gd, h => by
    unfold chkE at h
    split at h
    · exact je_tup (chkEs_ok ms rd gd h)
    · cases h
  | .lst ms, X, W, d, e, rd, gd, h => by
    unfold chkE at h
    split at h
    · exact je_lst (chkEs_ok ms rd gd h)
    · cases h
  | .dct ks ms, X, W, d, e, rd, gd, h => by
    unfold chkE at h
    split at h
    · rename_i keys vals p
      simp only [Bool.and_eq_true, decide_eq_true_eq] at h
      obtain ⟨trs, D⟩ := chkD_ok ms rd gd h.2
      by_cases h0 : keys = []
      · subst h0
        cases D
        exact je_dct0 rd
      · exact je_dct rd D h0 h.1
    · cases h
  | .idx a b, X, W, d, e, rd, gd, h => by
    unfold chkE at h
    split at h
    · simp only [Bool.and_eq_true, decide_eq_true_eq] at h
      exact je_idx rd (chkE_ok a rd gd h.1.2) (chkE_ok b rd gd h.2) (ix_e h.1.1)
    · cases h
  | .fld a f, X, W, d, e, rd, gd, h => by
    unfold chkE at h
    split at h
    · simp only [Bool.and_eq_true, decide_eq_true_eq] at h
      obtain ⟨⟨⟨h1, h2⟩, h3⟩, h4⟩ := h
      subst h1
      exact je_fld rd (by rw [gd.flds]; exact h2) (chkE_ok a rd gd h4) (base_e h3)
    · cases h
  | .call g ms, X, W, d, e, rd, gd, h => by
    unfold chkE at h
    split at h
    · rename_i x p es pos
      simp only [Bool.and_eq_true, decide_eq_true_eq] at h
      have hs := stars_ok h.2
      cases es with
      | nil =>
        cases ms with
        | nil => exact je_call0 rd (named_ok gd h.1)
        | cons _ _ => have := h.2; unfold chkEs at this; cases this
      | cons l es =>
        have hs' := hs
        simp only [List.all_cons, Bool.and_eq_true] at hs
        exact je_call rd (named_ok gd h.1) (chkEs_ok ms rd gd h.2) (star_e hs.1) (back_ok hs.2)
    · cases h
  | .callk g ms ks mk, X, W, d, e, rd, gd, h => by
    unfold chkE at h
    split at h
    · rename_i x p es kws pos
      simp only [Bool.and_eq_true, decide_eq_true_eq] at h
      obtain ⟨⟨h1, h2⟩, h3⟩ := h
      have hs := stars_ok h2
      obtain ⟨k1, k2, k3⟩ := kw_ok (pos := pos) (env := X.env) h3
      cases es with
      | nil =>
        cases ms with
        | nil => exact je_callk0 rd (named_ok gd h1) (chkK_ok mk rd gd h3) k1 k2 (by rw [k3]; rfl)
        | cons _ _ => unfold chkEs at h2; cases h2
      | cons l es =>
        have hs' := hs
        simp only [List.all_cons, Bool.and_eq_true] at hs
        exact je_callk rd (named_ok gd h1) (chkEs_ok ms rd gd h2) (chkK_ok mk rd gd h3) (star_e hs.1) k1 k2 (by rw [k3, back_ok hs']; rfl)
    · cases h
  | .bi b ms, X, W, d, e, rd, gd, h => by
    unfold chkE at h
    split at h
    · simp only [Bool.and_eq_true, decide_eq_true_eq] at h
      exact bi_ok rd gd h.1 (chkEs_ok ms rd gd h.2) (stars_ok h.2)
    · cases h
  | .met .append a ms, X, W, d, e, rd, gd, h => by
    unfold chkE at h
    split at h
    · simp only [Bool.and_eq_true, decide_eq_true_eq] at h
      obtain ⟨⟨⟨⟨h1, h2⟩, h3⟩, h4⟩, h5⟩ := h
      subst h1
      have hs := stars_ok h5
      simp only [List.all_cons, Bool.and_eq_true] at hs
      exact je_append (chkE_ok a rd gd h4) (chkEs_ok ms rd gd h5) (base_e h2) (star_e hs.1) h3 rd.k
    · cases h
  | .met .bitlen a ms, X, W, d, e, rd, gd, h => by unfold chkE at h; cases h
  | .comp t src elt own, X, W, d, e, rd, gd, h => by
    unfold chkE at h
    split at h
    · simp only [Bool.and_eq_true, decide_eq_true_eq] at h
      obtain ⟨⟨⟨⟨⟨h1, h2⟩, h3⟩, h4⟩, h5⟩, h6⟩ := h
      rename_i l tg it scope pos
      have hm := ownP_map X.N own
      have ht : ∀ i ∈ t.slots, i ∈ (ownP X.N own).map (·.2) := fun i hi => by
        rw [hm]
        have := List.all_eq_true.mp h1 i hi
        simpa using this
      have q := je_comp (pos := pos) (t := t) (m := elt) (own := ownP X.N own) rd ht (chkI_ok src rd gd h4) (blkOk_by h2)
        (fun s H Cc cl fp => tg_ok (d := false) (rd.blk s H _ _ fp) (gd.blk s H _ _ fp) h5)
        (fun s H Cc cl fp => chkE_ok elt (d := false) (rd.blk s H _ _ fp) (gd.blk s H _ _ fp) h6) (set_e h3)
      rw [hm] at q
      exact q
    · cases h
theorem chkC_ok : ∀ (m : ME) {X : Cx} {W : WX} {d : Bool} {e : Expr}, Rdy T cal lvl X W → Gd C T X d → chkC C X.N d X.env.scope m e = true → PT X e (rdT T cal W m) ∧ (∀ op l p, e = .BoolOp op l p → PW X e (rdT T cal W m))
  | .not_ a, X, W, d, e, rd, gd, h => by
    unfold chkC at h
    split at h
    · exact ⟨jt_not (chkC_ok a rd gd h).1, fun _ _ _ z => by cases z⟩
    · cases h
  | .and_ a b, X, W, d, e, rd, gd, h => by
    unfold chkC at h
    split at h
    · simp only [Bool.and_eq_true, decide_eq_true_eq] at h
      have q := jw_and (chkC_ok a rd gd h.1).1 (jw_one (pos := by assumption) (op := .And) (chkC_ok b rd gd h.2).1)
      exact ⟨q.pt, fun _ _ _ _ => q⟩
    · simp only [Bool.and_eq_true, decide_eq_true_eq] at h
      have q := jw_and (chkC_ok a rd gd h.1).1 ((chkC_ok b rd gd h.2).2 _ _ _ rfl)
      exact ⟨q.pt, fun _ _ _ _ => q⟩
    · cases h
  | .or_ a b, X, W, d, e, rd, gd, h => by
    unfold chkC at h
    split at h
    · simp only [Bool.and_eq_true, decide_eq_true_eq] at h
      have q := jw_or (chkC_ok a rd gd h.1).1 (jw_one (pos := by assumption) (op := .Or) (chkC_ok b rd gd h.2).1)
      exact ⟨q.pt, fun _ _ _ _ => q⟩
    · simp only [Bool.and_eq_true, decide_eq_true_eq] at h
      have q := jw_or (chkC_ok a rd gd h.1).1 ((chkC_ok b rd gd h.2).2 _ _ _ rfl)
      exact ⟨q.pt, fun _ _ _ _ => q⟩
    · cases h
  | .cmp o a b, X, W, d, e, rd, gd, h => by
    unfold chkC at h
    split at h
    · simp only [Bool.and_eq_true, decide_eq_true_eq] at h
      obtain ⟨⟨⟨h1, h0⟩, h2⟩, h3⟩ := h
      subst h1
      exact ⟨jt_cmp rd (chkE_ok a rd gd h2) (chkE_ok b rd gd h3) (mark_e h0), fun _ _ _ z => by cases z⟩
    · cases h
  | .cmp2 o o' a b c, X, W, d, e, rd, gd, h => by
    unfold chkC at h
    split at h
    · simp only [Bool.and_eq_true, decide_eq_true_eq] at h
      obtain ⟨⟨⟨⟨⟨h1, h1'⟩, h0⟩, h2⟩, h3⟩, h4⟩ := h
      subst h1 h1'
      exact ⟨jt_cmp2 rd (chkE_ok a rd gd h2) (chkE_ok b rd gd h3) (chkE_ok c rd gd h4) (marks_e h0), fun _ _ _ z => by cases z⟩
    · cases h
  | .var i, X, W, d, e, rd, gd, h => by
    unfold chkC at h
    split at h
    · simp only [Bool.and_eq_true, decide_eq_true_eq] at h
      exact ⟨jt_val (je_var rd h.1.1 (vis_e h.1.2) (okName_e h.2).1 (okName_e h.2).2.1) (test_e rfl), fun _ _ _ z => by cases z⟩
    · cases h
  | .bl i, X, W, d, e, rd, gd, h => by
    unfold chkC at h
    split at h
    · simp only [Bool.and_eq_true, decide_eq_true_eq] at h
      subst h
      exact ⟨jt_val je_bl (test_e rfl), fun _ _ _ z => by cases z⟩
    · cases h
  | .idx a b, X, W, d, e, rd, gd, h => by
    unfold chkC at h
    split at h
    · simp only [Bool.and_eq_true, decide_eq_true_eq] at h
      exact ⟨jt_val (je_idx rd (chkE_ok a rd gd h.1.2) (chkE_ok b rd gd h.2) (ix_e h.1.1)) (test_e rfl), fun _ _ _ z => by cases z⟩
    · cases h
  | .fld a f, X, W, d, e, rd, gd, h => by
    unfold chkC at h
    split at h
    · simp only [Bool.and_eq_true, decide_eq_true_eq] at h
      obtain ⟨⟨⟨h1, h2⟩, h3⟩, h4⟩ := h
      subst h1
      exact ⟨jt_val (je_fld rd (by rw [gd.flds]; exact h2) (chkE_ok a rd gd h4) (base_e h3)) (test_e rfl), fun _ _ _ z => by cases z⟩
    · cases h
  | .call g ms, X, W, d, e, rd, gd, h => by
    unfold chkC at h
    split at h
    · rename_i x p es pos
      simp only [Bool.and_eq_true, decide_eq_true_eq] at h
      have hs := stars_ok h.2
      refine ⟨jt_val ?_ (test_e rfl), fun _ _ _ z => by cases z⟩
      cases es with
      | nil =>
        cases ms with
        | nil => exact je_call0 rd (named_ok gd h.1)
        | cons _ _ => have := h.2; unfold chkEs at this; cases this
      | cons l es =>
        simp only [List.all_cons, Bool.and_eq_true] at hs
        exact je_call rd (named_ok gd h.1) (chkEs_ok ms rd gd h.2) (star_e hs.1) (back_ok hs.2)
    · cases h
  | .callk g ms ks mk, X, W, d, e, rd, gd, h => by
    unfold chkC at h
    split at h
    · rename_i x p es kws pos
      simp only [Bool.and_eq_true, decide_eq_true_eq] at h
      obtain ⟨⟨h1, h2⟩, h3⟩ := h
      have hs := stars_ok h2
      obtain ⟨k1, k2, k3⟩ := kw_ok (pos := pos) (env := X.env) h3
      refine ⟨jt_val ?_ (test_e rfl), fun _ _ _ z => by cases z⟩
      cases es with
      | nil =>
        cases ms with
        | nil => exact je_callk0 rd (named_ok gd h1) (chkK_ok mk rd gd h3) k1 k2 (by rw [k3]; rfl)
        | cons _ _ => unfold chkEs at h2; cases h2
      | cons l es =>
        have hs' := hs
        simp only [List.all_cons, Bool.and_eq_true] at hs
        exact je_callk rd (named_ok gd h1) (chkEs_ok ms rd gd h2) (chkK_ok mk rd gd h3) (star_e hs.1) k1 k2 (by rw [k3, back_ok hs']; rfl)
    · cases h
  | .bi b ms, X, W, d, e, rd, gd, h => by
    unfold chkC at h
    split at h
    · simp only [Bool.and_eq_true, decide_eq_true_eq] at h
      exact ⟨jt_val (bi_ok rd gd h.1 (chkEs_ok ms rd gd h.2) (stars_ok h.2)) (test_e rfl), fun _ _ _ z => by cases z⟩
    · cases h
  | .int _, X, W, d, e, rd, gd, h => by unfold chkC at h; cases h
  | .str _, X, W, d, e, rd, gd, h => by unfold chkC at h; cases h
  | .non, X, W, d, e, rd, gd, h => by unfold chkC at h; cases h
  | .glo _, X, W, d, e, rd, gd, h => by unfold chkC at h; cases h
  | .ty _, X, W, d, e, rd, gd, h => by unfold chkC at h; cases h
  | .bop _ _ _, X, W, d, e, rd, gd, h => by unfold chkC at h; cases h
  | .neg _, X, W, d, e, rd, gd, h => by unfold chkC at h; cases h
  | .ite _ _ _, X, W, d, e, rd, gd, h => by unfold chkC at h; cases h
  | .tup _, X, W, d, e, rd, gd, h => by unfold chkC at h; cases h
  | .lst _, X, W, d, e, rd, gd, h => by unfold chkC at h; cases h
  | .dct _ _, X, W, d, e, rd, gd, h => by unfold chkC at h; cases h
  | .met _ _ _, X, W, d, e, rd, gd, h => by unfold chkC at h; cases h
  | .comp _ _ _ _, X, W, d, e, rd, gd, h => by unfold chkC at h; cases h
theorem chkEs_ok : ∀ (ms : MEs) {X : Cx} {W : WX} {d : Bool} {es : List Expr}, Rdy T cal lvl X W → Gd C T X d → chkEs C X.N d X.env.scope ms es = true → PA X es (rdEs T cal W ms)
  | .nil, X, W, d, es, rd, gd, h => by
    unfold chkEs at h
    split at h
    · exact ja_nil
    · cases h
  | .cons m ms, X, W, d, es, rd, gd, h => by
    unfold chkEs at h
    split at h
    · simp only [Bool.and_eq_true, decide_eq_true_eq] at h
      exact ja_cons (chkE_ok m rd gd h.1.2) (chkEs_ok ms rd gd h.2) (star_e h.1.1)
    · cases h
theorem chkD_ok : ∀ (ms : MEs) {X : Cx} {W : WX} {d : Bool} {ks : List Str} {keys : List (Option Expr)} {es : List Expr}, Rdy T cal lvl X W → Gd C T X d → chkD C X.N d X.env.scope ks ms keys es = true → ∃ trs, DOk T cal W X keys es ks ms trs
  | .nil, X, W, d, ks, keys, es, rd, gd, h => by
    unfold chkD at h
    split at h
    · exact ⟨_, .nil⟩
    · cases h
  | .cons m ms, X, W, d, ks, keys, es, rd, gd, h => by
    unfold chkD at h
    split at h
    · simp only [Bool.and_eq_true, decide_eq_true_eq] at h
      obtain ⟨⟨h1, h2⟩, h3⟩ := h
      subst h1
      obtain ⟨trs, D⟩ := chkD_ok ms rd gd h3
      exact ⟨_, .cons (chkE_ok m rd gd h2) D⟩
    · cases h
theorem chkK_ok : ∀ (ms : MEs) {X : Cx} {W : WX} {d : Bool} {ks : List Str} {kws : List Keyword}, Rdy T cal lvl X W → Gd C T X d → chkK C X.N d X.env.scope ks ms kws = true → PK X kws (rdEs T cal W ms)
  | .nil, X, W, d, ks, kws, rd, gd, h => by
    unfold chkK at h
    split at h
    · exact jk_nil
    · cases h
  | .cons m ms, X, W, d, ks, kws, rd, gd, h => by
    unfold chkK at h
    split at h
    · simp only [Bool.and_eq_true, decide_eq_true_eq] at h
      exact jk_cons (chkE_ok m rd gd h.1.2) (chkK_ok ms rd gd h.2)
    · cases h
theorem chkI_ok : ∀ (m : MI) {X : Cx} {W : WX} {d : Bool} {e tg : Expr}, Rdy T cal lvl X W → Gd C T X d → chkI C X.N d X.env.scope m e = true → PI X tg e (rdI T cal W m)
  | .seq a, X, W, d, e, tg, rd, gd, h => by
    unfold chkI at h
    simp only [Bool.and_eq_true, decide_eq_true_eq] at h
    exact pi_seqA rd (chkE_ok a rd gd h.2)
  | .range a, X, W, d, e, tg, rd, gd, h => by
    unfold chkI glB at h
    split at h
    · simp only [Bool.and_eq_true, decide_eq_true_eq] at h
      obtain ⟨⟨⟨h1, h2⟩, h3⟩, h4⟩ := h
      subst h1
      exact pi_rangeA rd h2 (chkE_ok a rd gd h4) (star_e h3)
    · cases h
end
end
end Mini
set_option autoImplicit false
set_option maxHeartbeats 4000000
/-! Mini, eighteenth part: a checked body runs as the small syntax says. -/
namespace Mini
open PySem PySem.Spec L2
open PyProof.Rows hiding St
/-- what swappedStores says of (ts) = (vs) in a def -/
def swapQ (sc : Scope) (ts vs : List Expr) : Option (Option (List Str)) :=
  if !(ts.length == 2 || ts.length == 3) || vs.length != ts.length then some none
  else if vs.any (fun | .Starred .. => true | _ => false) then some none
  else
    let line := (ts.head?.map (·.pos.line)).getD 0
    let names := ts.filterMap fun
      | .Name id pos => if sc.names.lookup id == some .local && pos.line == line then some id else none
      | _ => none
    if names.length != ts.length || names.eraseDups.length != names.length then some none
    else if vs.all (foldedForSure 8) then some none
    else if vs.all (constantsAlone 8) then none
    else some (some names)
theorem swapQ_ok {env : Env} {ts vs : List Expr} {k k' : Nat} {p p' : Pos} {r : Option (List Str)} (hk : env.scope.kind = .function) (h : swapQ env.scope ts vs = some r) : swappedStores [.Tuple ts k p] (.Tuple vs k' p') env = pure r := by
  have hb : env.blockKind = .function := by unfold Env.blockKind; rw [hk]; rfl
  unfold swapQ at h
  unfold swappedStores
  simp only [hb]
  split at h
  · rename_i c
    cases h
    exact if_pos (by simpa using c)
  · rename_i c
    refine (if_neg (by simpa using c)).trans ?_
    split at h
    · rename_i c2
      cases h
      exact if_pos c2
    · rename_i c2
      refine (if_neg c2).trans ?_
      dsimp only at h
      split at h
      · rename_i c3
        cases h
        exact if_pos c3
      · rename_i c3
        split at h
        · rename_i c4
          cases h
          exact (if_neg c3).trans (if_pos c4)
        · rename_i c4
          split at h
          · cases h
          · rename_i c5
            cases h
            exact (if_neg c3).trans ((if_neg c4).trans (if_neg c5))
theorem swapN_ok {env : Env} {ts : List Expr} {e : Expr} {k : Nat} {p : Pos} (h : ∀ vs k' p', e ≠ .Tuple vs k' p') : swappedStores [.Tuple ts k p] e env = pure none := by
  cases e with
  | Tuple vs k' p' => exact absurd rfl (h vs k' p')
  | _ => rfl
/-- whether y = [..] stores within the comprehension -/
def swC (sc : Scope) (x : Str) (p : Pos) : Expr → Bool
  | .ListComp _ _ scope q => decide (sc.names.lookup x = some .local) && (p.line == q.line) && !(scope.names.any fun (n, k) => n == x && (k == .local || k == .cell))
  | _ => false
theorem swC_no {env : Env} {x : Str} {p q : Pos} {elt : Expr} {gs : List Comprehension} {scope : Scope} {l : Nat} (hk : env.scope.kind = .function) (h : swC env.scope x p (.ListComp elt gs scope q) = false) : swapsWith (.ListComp elt gs scope q) (some (.Name x p)) l env = pure false := by
  have hb : env.blockKind = .function := by unfold Env.blockKind; rw [hk]; rfl
  unfold swC at h
  unfold swapsWith
  simp only [hb]
  have e : (env.kindOf x == some NameKind.local) = decide (env.scope.names.lookup x = some .local) := by
    show (env.scope.names.lookup x == some NameKind.local) = _
    cases env.scope.names.lookup x with
    | none => rfl
    | some k => cases k <;> rfl
  rw [e]
  simp only [Expr.pos]
  refine congrArg pure ?_
  rw [← h]
  simp
section
variable (C : Ck) (N : List Str)
mutual
def chkS (sc : Scope) (m : MS) (s : Stmt) : Bool := match m with
  | .set i m => match s with
    | .Assign [.Name x _] e _ => nameB true sc N i x && chkE C N true sc m e
    | _ => false
  | .par i j a b => match s with
    | .Assign [.Tuple [.Name x px, .Name y py] _ _] (.Tuple [l, r] _ _) _ => decide (N[i]? = some x) && decide (N[j]? = some y) && decide (i ≠ j) && decide (sc.names.lookup x = some .local) && decide (sc.names.lookup y = some .local) &&
      chkEs C N true sc (.cons a (.cons b .nil)) [l, r] && decide (swapQ sc [.Name x px, .Name y py] [l, r] = some (some [x, y]))
    | _ => false
  | .par3 i j k a b c => match s with
    | .Assign [.Tuple [.Name x px, .Name y py, .Name z pz] _ _] (.Tuple [l, r, q] _ _) _ => decide (N[i]? = some x) && decide (N[j]? = some y) && decide (N[k]? = some z) && decide (i ≠ j) && decide (i ≠ k) && decide (j ≠ k) &&
      decide (sc.names.lookup x = some .local) && decide (sc.names.lookup y = some .local) && decide (sc.names.lookup z = some .local) &&
      chkEs C N true sc (.cons a (.cons b (.cons c .nil))) [l, r, q] && decide (swapQ sc [.Name x px, .Name y py, .Name z pz] [l, r, q] = some (some [x, y, z]))
    | _ => false
  | .unp is m => match s with
    | .Assign [.Tuple es _ _] e _ => namesB true sc N is es && chkE C N true sc m e && (match e with
      | .Tuple vs _ _ => decide (swapQ sc es vs = some none)
      | _ => true)
    | _ => false
  | .setI a b c => match s with
    | .Assign [.Subscript o i _] e _ => chkE C N true sc a o && chkE C N true sc b i && chkE C N true sc c e
    | _ => false
  | .setF a f c => match s with
    | .Assign [.Attribute o g _] e _ => decide (g = f) && decide (f ∈ C.flds) && chkE C N true sc a o && chkE C N true sc c e
    | _ => false
  | .ex a => match s with
    | .Expr e _ => noComp e && chkE C N true sc a e
    | _ => false
  | .ret a => match s with
    | .Return (some e) _ => chkE C N true sc a e
    | _ => false
  | .retN => match s with
    | .Return none _ => true
    | _ => false
  | .if_ c a b => match s with
    | .If t x y _ => chkC C N true sc c t && chkSs sc a x && chkSs sc b y
    | _ => false
  | .for_ t src body => match s with
    | .For tg it x [] _ => tgB true sc N t tg && noSet it && chkI C N true sc src it && chkSs sc body x
    | _ => false
  | .brk => match s with
    | .Break _ => true
    | _ => false
  | .cnt => match s with
    | .Continue _ => true
    | _ => false
  | .pass => match s with
    | .Pass _ => true
    | .Expr (.Constant (.str _) _ _) _ => true
    | _ => false
def chkSs (sc : Scope) (ms : MSs) (l : List Stmt) : Bool := match ms with
  | .nil => match l with
    | [] => true
    | _ => false
  | .cons m ms => match l with
    | s :: l => chkS sc m s && chkSs sc ms l
    | _ => false
end
end
section
variable {C : Ck} {T : Top} {cal : Nat → List AV → AH → R AV} {lvl : Nat} {X : Cx} {W : WX}
theorem set_ok (rd : Rdy T cal lvl X W) (gd : Gd C T X true) (hk : X.env.scope.kind = .function) {i : Nat} {m : ME} {x : Str} {p pos : Pos} {e : Expr} (h1 : nameB true X.env.scope X.N i x = true) (h2 : chkE C X.N true X.env.scope m e = true) : PS X (.Assign [.Name x p] e pos) (rdS T cal W (.set i m)) := by
  have n := name_ok gd h1
  by_cases hc : noComp e = true
  · exact js_set rd n (chkE_ok m rd gd h2) (sw_e hc)
  · cases hs : swC X.env.scope x p e with
    | false =>
      cases e with
      | ListComp elt gs scope q => exact js_set rd n (chkE_ok m rd gd h2) (swC_no hk hs)
      | SetComp _ _ _ _ => cases m <;> (try rename_i mm _ _; cases mm) <;> (unfold chkE at h2; cases h2)
      | DictComp _ _ _ _ _ => cases m <;> (try rename_i mm _ _; cases mm) <;> (unfold chkE at h2; cases h2)
      | _ => exact absurd rfl hc
    | true =>
      unfold swC at hs
      split at hs
      · rename_i elt gs scope q
        simp only [Bool.and_eq_true, decide_eq_true_eq, Bool.not_eq_true'] at hs
        cases m with
        | comp t src el own =>
          unfold chkE at h2
          split at h2
          · rename_i l tg it scope2 pos2 z
            cases z
            simp only [Bool.and_eq_true, decide_eq_true_eq] at h2
            obtain ⟨⟨⟨⟨⟨g1, g2⟩, g3⟩, g4⟩, g5⟩, g6⟩ := h2
            have hm := ownP_map X.N own
            have ht : ∀ i ∈ t.slots, i ∈ (ownP X.N own).map (·.2) := fun i hi => by
              rw [hm]
              have := List.all_eq_true.mp g1 i hi
              simpa using this
            have q := js_setC (spos := pos) (py := p) (t := t) (m := el) (own := ownP X.N own) rd n hs.1.1 (sw_true hk hs.1.1 hs.1.2 hs.2) ht (chkI_ok src rd gd g4) (blkOk_by g2)
              (fun s H Cc cl fp => tg_ok (d := false) (rd.blk s H _ _ fp) (gd.blk s H _ _ fp) g5)
              (fun s H Cc cl fp => chkE_ok el (d := false) (rd.blk s H _ _ fp) (gd.blk s H _ _ fp) g6) (set_e g3)
            rw [hm] at q
            exact q
          · cases h2
        | met mm _ _ => cases mm <;> (unfold chkE at h2; cases h2)
        | _ => unfold chkE at h2; cases h2
      · cases hs
mutual
theorem chkS_ok : ∀ (m : MS) {X : Cx} {W : WX} {s : Stmt}, Rdy T cal lvl X W → Gd C T X true → X.env.scope.kind = .function → PassesOwn (model X.prog X.w) X.A X.env X.xe → chkS C X.N X.env.scope m s = true → PS X s (rdS T cal W m)
  | .set i m, X, W, s, rd, gd, hk, hp, h => by
    unfold chkS at h
    split at h
    · simp only [Bool.and_eq_true, decide_eq_true_eq] at h
      exact set_ok rd gd hk h.1 h.2
    · cases h
  | .par i j a b, X, W, s, rd, gd, hk, hp, h => by
    unfold chkS at h
    split at h
    · simp only [Bool.and_eq_true, decide_eq_true_eq] at h
      obtain ⟨⟨⟨⟨⟨⟨h1, h2⟩, h3⟩, h4⟩, h5⟩, h6⟩, h7⟩ := h
      exact js_par rd h1 h2 h3 h4 h5 (chkEs_ok _ rd gd h6) (swapQ_ok hk h7)
    · cases h
  | .par3 i j k a b c, X, W, s, rd, gd, hk, hp, h => by
    unfold chkS at h
    split at h
    · simp only [Bool.and_eq_true, decide_eq_true_eq] at h
      obtain ⟨⟨⟨⟨⟨⟨⟨⟨⟨⟨h1, h2⟩, h3⟩, h4⟩, h5⟩, h6⟩, h7⟩, h8⟩, h9⟩, h10⟩, h11⟩ := h
      exact js_par3 rd h1 h2 h3 h4 h5 h6 h7 h8 h9 (chkEs_ok _ rd gd h10) (swapQ_ok hk h11)
    · cases h
  | .unp is m, X, W, s, rd, gd, hk, hp, h => by
    unfold chkS at h
    split at h
    · rename_i es _ _ e _
      simp only [Bool.and_eq_true] at h
      refine js_unp rd (names_ok gd h.1.1) (chkE_ok m rd gd h.1.2) sw_tup ?_
      have h3 := h.2
      split at h3
      · exact swapQ_ok hk (by simpa using h3)
      · rename_i hn
        exact swapN_ok hn
    · cases h
  | .setI a b c, X, W, s, rd, gd, hk, hp, h => by
    unfold chkS at h
    split at h
    · simp only [Bool.and_eq_true, decide_eq_true_eq] at h
      exact js_setI rd (chkE_ok a rd gd h.1.1) (chkE_ok b rd gd h.1.2) (chkE_ok c rd gd h.2) sw_sub
    · cases h
  | .setF a f c, X, W, s, rd, gd, hk, hp, h => by
    unfold chkS at h
    split at h
    · simp only [Bool.and_eq_true, decide_eq_true_eq] at h
      obtain ⟨⟨⟨h1, h2⟩, h3⟩, h4⟩ := h
      subst h1
      exact js_setF rd (by rw [gd.flds]; exact h2) (chkE_ok a rd gd h3) (chkE_ok c rd gd h4) sw_att
    · cases h
  | .ex a, X, W, s, rd, gd, hk, hp, h => by
    unfold chkS at h
    split at h
    · simp only [Bool.and_eq_true, decide_eq_true_eq] at h
      exact js_ex (chkE_ok a rd gd h.2) (sw_e h.1)
    · cases h
  | .ret a, X, W, s, rd, gd, hk, hp, h => by
    unfold chkS at h
    split at h
    · exact js_ret (chkE_ok a rd gd h)
    · cases h
  | .retN, X, W, s, rd, gd, hk, hp, h => by
    unfold chkS at h
    split at h
    · exact js_retN
    · cases h
  | .if_ c a b, X, W, s, rd, gd, hk, hp, h => by
    unfold chkS at h
    split at h
    · simp only [Bool.and_eq_true, decide_eq_true_eq] at h
      exact js_if (chkC_ok c rd gd h.1.1).1 (chkSs_ok a rd gd hk hp h.1.2) (chkSs_ok b rd gd hk hp h.2)
    · cases h
  | .for_ t src body, X, W, s, rd, gd, hk, hp, h => by
    unfold chkS at h
    split at h
    · simp only [Bool.and_eq_true, decide_eq_true_eq] at h
      obtain ⟨⟨⟨h1, h2⟩, h3⟩, h4⟩ := h
      exact js_for rd hp (chkI_ok src rd gd h3) (tg_ok rd gd h1) (chkSs_ok body rd gd hk hp h4) (set_e h2)
    · cases h
  | .brk, X, W, s, rd, gd, hk, hp, h => by
    unfold chkS at h
    split at h
    · exact js_brk
    · cases h
  | .cnt, X, W, s, rd, gd, hk, hp, h => by
    unfold chkS at h
    split at h
    · exact js_cnt
    · cases h
  | .pass, X, W, s, rd, gd, hk, hp, h => by
    unfold chkS at h
    split at h
    · exact js_pass
    · exact js_doc
    · cases h
theorem chkSs_ok : ∀ (ms : MSs) {X : Cx} {W : WX} {l : List Stmt}, Rdy T cal lvl X W → Gd C T X true → X.env.scope.kind = .function → PassesOwn (model X.prog X.w) X.A X.env X.xe → chkSs C X.N X.env.scope ms l = true → PSs X l (rdSs T cal W ms)
  | .nil, X, W, l, rd, gd, hk, hp, h => by
    unfold chkSs at h
    split at h
    · exact jss_nil
    · cases h
  | .cons m ms, X, W, l, rd, gd, hk, hp, h => by
    unfold chkSs at h
    split at h
    · simp only [Bool.and_eq_true, decide_eq_true_eq] at h
      exact jss_cons (chkS_ok m rd gd hk hp h.1) (chkSs_ok ms rd gd hk hp h.2)
    · cases h
end
end
end Mini
set_option autoImplicit false
set_option maxHeartbeats 4000000
/-! Mini, nineteenth part: the arguments of a call; every def keeps what its run tells. -/
namespace Mini
open PySem PySem.Spec L2
open PyProof.Rows hiding St
/-! ### bindArgs -/
/-- plain parameters: names alone -/
structure PlainP (p : Arguments) (ps : List Str) : Prop where
  po : p.posonlyargs = []
  ar : p.args.map (·.arg) = ps
  va : p.vararg = none
  ko : p.kwonlyargs = []
  kw : p.kwarg = none
theorem lk_zip {ps : List Str} : ∀ {us : List Value} {Z : List (Str × Value)} {i : Nat} {p : Str} {b : Value}, ps.Nodup → ps[i]? = some p → us[i]? = some b → (ps.zip us ++ Z).lookup p = some b := by
  induction ps with
  | nil => intro us Z i p b _ h; simp at h
  | cons q ps ih =>
    intro us Z i p b nd h1 h2
    cases us with
    | nil => simp at h2
    | cons u us =>
      show List.lookup p ((q, u) :: (ps.zip us ++ Z)) = _
      rw [List.lookup_cons]
      cases i with
      | zero =>
        simp at h1 h2
        subst h1 h2
        simp
      | succ i =>
        have h1' : ps[i]? = some p := by simpa using h1
        have hne : p ≠ q := fun e => (List.nodup_cons.mp nd).1 (by rw [← e]; exact List.mem_of_getElem? h1')
        have : (p == q) = false := by simp [hne]
        rw [this]
        exact ih (List.nodup_cons.mp nd).2 h1' (by simpa using h2)
theorem lk_out {ps : List Str} : ∀ {us : List Value} {Z : List (Str × Value)} {p : Str}, p ∉ ps.take us.length → (ps.zip us ++ Z).lookup p = Z.lookup p := by
  induction ps with
  | nil => intro us Z p _; rfl
  | cons q ps ih =>
    intro us Z p h
    cases us with
    | nil => rfl
    | cons u us =>
      simp only [List.length_cons, List.take_succ_cons, List.mem_cons, not_or] at h
      show List.lookup p ((q, u) :: (ps.zip us ++ Z)) = _
      rw [List.lookup_cons]
      have : (p == q) = false := by simp [h.1]
      rw [this]
      exact ih h.2
theorem lk_find {p : Str} : ∀ {ks : List Str} {ws : List Value}, (ks.zip ws).lookup p = findK p ks ws
  | [], _ => by unfold findK; rfl
  | _ :: _, [] => by unfold findK; rfl
  | k :: ks, w :: ws => by
    show List.lookup p ((k, w) :: ks.zip ws) = _
    rw [List.lookup_cons]
    unfold findK
    by_cases e : k = p
    · subst e
      simp
    · have : (p == k) = false := by simp [Ne.symm e]
      rw [this, if_neg e]
      exact lk_find
theorem optAll_get {α γ : Type} {f : γ → Option α} : ∀ {cs : List γ} {xs : List α} {i : Nat} {c : γ}, optAll f cs = some xs → cs[i]? = some c → ∃ x, xs[i]? = some x ∧ f c = some x
  | [], _, _, _, _, h => by simp at h
  | d :: cs, xs, i, c, e, h => by
    unfold optAll at e
    cases hd : f d with
    | none => rw [hd] at e; cases e
    | some y =>
      cases hr : optAll f cs with
      | none => rw [hd, hr] at e; cases e
      | some ys =>
        rw [hd, hr] at e
        cases e
        cases i with
        | zero => simp at h; subst h; exact ⟨y, rfl, hd⟩
        | succ i =>
          obtain ⟨x, h1, h2⟩ := optAll_get (i := i) hr (by simpa using h)
          exact ⟨x, by simpa using h1, h2⟩
theorem fm_zip {S : List (Str × Value)} : ∀ {ps : List Str} {bs : List Value}, bs.length = ps.length → (∀ (i : Nat) (p : Str) (b : Value), ps[i]? = some p → bs[i]? = some b → S.lookup p = some b) → ps.filterMap (fun n => (S.lookup n).map (n, ·)) = ps.zip bs
  | [], _, _, _ => rfl
  | p :: ps, [], h, _ => by cases h
  | p :: ps, b :: bs, h, k => by
    have e : (S.lookup p).map (p, ·) = some (p, b) := by rw [k 0 p b rfl rfl]; rfl
    rw [List.filterMap_cons, e, fm_zip (by simpa using h) fun i q c h1 h2 => k (i + 1) q c (by simpa using h1) (by simpa using h2)]
    rfl
theorem slots_ok {ps ks : List Str} {us ws bs : List Value} (nd : ps.Nodup) (hb : bindK ps us ks ws = some bs) : ∀ (i : Nat) (p : Str) (b : Value), ps[i]? = some p → bs[i]? = some b → (ps.zip us ++ ks.zip ws).lookup p = some b := by
  unfold bindK at hb
  split at hb
  · rename_i hl
    obtain ⟨rs, hr, rfl⟩ := Option.map_eq_some_iff.mp hb
    intro i p b h1 h2
    by_cases hi : i < us.length
    · rw [List.getElem?_append_left hi] at h2
      exact lk_zip nd h1 h2
    · have hi := Nat.le_of_not_lt hi
      rw [List.getElem?_append_right hi] at h2
      have hp : (ps.drop us.length)[i - us.length]? = some p := by rw [List.getElem?_drop, Nat.add_sub_cancel' hi]; exact h1
      obtain ⟨x, hx, hf⟩ := optAll_get hr hp
      rw [h2] at hx
      cases hx
      rw [lk_out, lk_find, hf]
      intro hm
      obtain ⟨j, hj⟩ := List.getElem?_of_mem hm
      have hjl : j < us.length := by
        rcases Nat.lt_or_ge j us.length with z | z
        · exact z
        · rw [List.getElem?_eq_none (by rw [List.length_take]; omega)] at hj; cases hj
      rw [List.getElem?_take_of_lt hjl] at hj
      have := (List.getElem?_inj (List.getElem?_eq_some_iff.mp h1).1 nd).mp (h1.trans hj.symm)
      omega
  · cases hb
/-- the keywords' turn -/
theorem kw_loop {ps : List Str} {σ : Type} {f : (Str × Value) → σ → Sem (ForInStep σ)} {g : List (Str × Value) → σ} (hf : ∀ k v S, ps.contains k = true → (S.lookup k).isSome = false → f (k, v) (g S) = pure (.yield (g (S ++ [(k, v)])))) :
    ∀ {ks : List Str} {ws : List Value} {S : List (Str × Value)}, nodupB ks = true → (∀ k ∈ ks, ps.contains k = true ∧ S.lookup k = none) → forIn (ks.zip ws) (g S) f = pure (g (S ++ ks.zip ws))
  | [], _, S, _, _ => by
    show forIn ([] : List (Str × Value)) (g S) f = _
    rw [List.forIn_nil]
    simp
  | _ :: _, [], S, _, _ => by
    show forIn ([] : List (Str × Value)) (g S) f = _
    rw [List.forIn_nil]
    simp
  | k :: ks, w :: ws, S, nd, h => by
    show forIn ((k, w) :: ks.zip ws) (g S) f = _
    unfold nodupB at nd
    simp only [Bool.and_eq_true, Bool.not_eq_true'] at nd
    rw [List.forIn_cons, hf k w S (h k List.mem_cons_self).1 (by rw [(h k List.mem_cons_self).2]; rfl)]
    show forIn (ks.zip ws) (g (S ++ [(k, w)])) f = _
    rw [kw_loop hf nd.2 fun j hj => ⟨(h j (List.mem_cons_of_mem _ hj)).1, ?_⟩]
    · rw [List.append_assoc]; rfl
    · have hne : j ≠ k := fun e => by
        subst e
        have : ks.contains j = true := by simpa using hj
        rw [nd.1] at this
        cases this
      rw [List.lookup_append, (h j (List.mem_cons_of_mem _ hj)).2]
      show (List.lookup j [(k, w)]) = none
      rw [List.lookup_cons]
      have : (j == k) = false := by simp [hne]
      rw [this]; rfl
theorem bind_plain {name qual : Str} {params : Arguments} {body : List Stmt} {scope : Scope} {kV doc pm cdv ct : Value} {an : Option Addr} {ps ks : List Str} {us ws bs : List Value} (pp : PlainP params ps) (nd : ps.Nodup) (hb : bindK ps us ks ws = some bs) (hk : kwOk ps us.length ks = true) :
    bindArgs (PySem.W.fnOf name qual params body scope .none kV doc pm an cdv ct) ⟨us, ks.zip ws⟩ = pure (ps.zip bs) := by
  have sl := slots_ok nd hb
  have bl := bindK_length hb
  have ul : us.length ≤ ps.length := by
    unfold bindK at hb
    split at hb
    · omega
    · cases hb
  unfold kwOk at hk
  simp only [Bool.and_eq_true, List.all_eq_true] at hk
  obtain ⟨hk1, hk2⟩ := hk
  obtain ⟨p1, p2, p3, p4, p5⟩ := pp
  unfold bindArgs
  simp only [PySem.W.fnOf, p1, p2, p3, p4, p5, List.map_nil, List.nil_append, List.append_nil]
  have hz : ∀ k ∈ ks, ps.contains k = true ∧ (ps.zip us).lookup k = none := fun k hm => by
    have h1 := hk2 k hm
    have h2 : k ∈ ps.drop us.length := by simpa using h1
    refine ⟨by simpa using List.mem_of_mem_drop h2, ?_⟩
    have h3 : k ∉ ps.take us.length := fun h4 => by
      have := List.take_append_drop us.length ps
      rw [← this] at nd
      exact (List.nodup_append.mp nd).2.2 k h4 k h2 rfl
    have := lk_out (Z := []) h3
    rw [List.append_nil] at this
    exact this
  have loop : ∀ f, (∀ k v S, ps.contains k = true → (S.lookup k).isSome = false → f (k, v) (S, ([] : List (Str × Value))) = pure (.yield (S ++ [(k, v)], []))) → forIn (ks.zip ws) (ps.zip us, ([] : List (Str × Value))) f = (pure (ps.zip us ++ ks.zip ws, []) : Sem _) :=
    fun f hf => kw_loop (g := fun S => (S, [])) hf hk1 hz
  rw [loop]
  rotate_left
  · intro k v S h1 h2
    simp only [h1, h2, Bool.true_or, if_true, Bool.false_eq_true, if_false]
  generalize hS : ps.zip us ++ ks.zip ws = S at sl
  have hs : seqItems? Value.none = pure none := rfl
  have hmis : ∀ n : Nat, List.filter (fun n => (List.lookup n S).isNone) (List.take n ps) = [] := fun n => by
    rw [List.filter_eq_nil_iff]
    intro p hp
    obtain ⟨i, hi⟩ := List.getElem?_of_mem (List.mem_of_mem_take hp)
    have hil : i < bs.length := by rw [bl]; exact (List.getElem?_eq_some_iff.mp hi).1
    rw [sl i p bs[i] hi (List.getElem?_eq_getElem hil)]
    simp
  have hgt : decide (us.length > ps.length) = false := by simp; omega
  rw [hs]
  simp only [pure_bind, hgt, hmis, Bool.false_and, Bool.false_eq_true, if_false, Option.getD_none, List.drop_nil, List.zip_nil_right, List.isEmpty_nil, Bool.not_true, List.forIn_nil]
  rw [fm_zip bl sl]
/-! ### every def keeps what its run tells -/
/-- a def as it stands in the written part -/
structure DefAt (C : Ck) (K : PySem.W.Frag) (f : Addr) (d : MDef) : Prop where
  ex : ∃ (name qual : Str) (params : Arguments) (body : List Stmt) (scope : Scope) (kV doc pm cdv ct oc : Value) (an od : Option Addr) (osl : Array (Option Value)) (N : List Str),
    K.lookup f = some ⟨oc, od, .func (PySem.W.fnOf name qual params body scope .none kV doc pm an cdv ct), osl⟩ ∧ PySem.W.codeIn K cdv qual = true ∧ PlainP params d.params ∧ FnScope N d.params scope ∧ N.length = d.ns ∧ chkSs C N scope d.body body = true
/-- what is known at the top -/
structure Known (C : Ck) (T : Top) (mg : Str → Option Value) : Prop where
  pr : T.Pr = C.Pr
  nm : T.nm = C.nm
  flds : T.flds = C.flds
  top : ∀ g, C.top g = true → mg (C.nm g) = some (.ref (T.G.ad g)) ∧ PySem.W.keepIn T.G.K (.ref (T.G.ad g)) = true
  gcd : C.gcd = true → mg "gcd" = some (.builtin "math.gcd")
  ok : TopOk T mg
  defs : ∀ g d, T.Pr g = some (.def_ d) → DefAt C T.G.K (T.G.ad g) d
section
variable {C : Ck} {T : Top} {P : Program} {w : World} {mg : Str → Option Value} {base : Heap}
theorem rg_start {G : Gr} {ρ : List Addr} {H : Hp} {xs : List AV} {vs : List V} (r : RVs G ρ H xs vs) (n : Nat) : RG G ρ H (xs.map some ++ List.replicate n none) (vs.map some ++ List.replicate n none) := by
  refine ⟨by simp [r.length], fun i x h => ?_⟩
  by_cases hi : i < xs.length
  · rw [List.getElem?_append_left (by simpa using hi), List.getElem?_map] at h
    cases e : xs[i]? with
    | none => rw [e] at h; cases h
    | some y =>
      rw [e] at h
      cases h
      obtain ⟨v, hv, rv⟩ := r.get e
      have hi2 : i < vs.length := by rw [← r.length]; exact hi
      exact ⟨v, by rw [List.getElem?_append_left (by simpa using hi2), List.getElem?_map, hv]; rfl, rv⟩
  · rw [List.getElem?_append_right (by simpa using hi), List.getElem?_replicate] at h
    split at h <;> cases h
theorem tab_all (kn : Known C T mg) : ∀ n : Nat, Tab T (calA T.Pr n) (2 * n) P w mg base
  | 0 => ⟨fun g d hg => by
    obtain ⟨name, qual, params, body, scope, kV, doc, pm, cdv, ct, oc, an, od, osl, N, lk, hcd, pp, S, hn, hc⟩ := (kn.defs g d hg).ex
    refine ⟨_, ⟨fun vs H Q E h => ?_, fun A outer s H args us vs Q E g hr e0 hb r hsp => ?_⟩, fun us ks ws bs hb hk => bind_plain (name := name) (qual := qual) (params := params) (body := body) (scope := scope) (kV := kV) (doc := doc) (pm := pm) (cdv := cdv) (ct := ct) (an := an) pp ?_ hb hk⟩
    · rw [h.1, kn.ok.np g d hg]
    · obtain ⟨_, ρ, xs, h, _, _, o⟩ := hsp
      exact o.elim
    · rw [← S.pre]; exact S.nd.sublist (List.take_sublist _ _)⟩
  | n + 1 => ⟨fun g d hg => by
    have ih := tab_all kn n
    obtain ⟨name, qual, params, body, scope, kV, doc, pm, cdv, ct, oc, an, od, osl, N, lk, hcd, pp, S, hn, hc⟩ := (kn.defs g d hg).ex
    refine ⟨_, fn_ofG (k := 2 * n + 1) lk hcd S (fun vs H Q E h => by rw [h.1, kn.ok.np g d hg]) (fun A outer s H vs Q E hgu hr hsp => ?_), fun us ks ws bs hb hk => bind_plain pp ?_ hb hk⟩
    · obtain ⟨hl, ρ, xs, h, rr, rh, o⟩ := hsp
      have rd : Rdy T (calA T.Pr n) (2 * n) (cxOf (L2.CX P w) P w T.G.K mg base N qual scope (T.G.ad g) cdv A outer s H E) (fun cls d _ H => E cls d H) :=
        ⟨rfl, S.nd, hgu, hr, takes_of rfl rfl rfl rfl, rfl, kn.ok, ih⟩
      have gd : Gd C T (cxOf (L2.CX P w) P w T.G.K mg base N qual scope (T.G.ad g) cdv A outer s H E) true := ⟨kn.pr, kn.nm, kn.flds, kn.top, kn.gcd, fun _ _ => rfl⟩
      refine ⟨_, chkSs_ok d.body rd gd S.kind (passes_of rfl) hc, ρ, xs.map some ++ List.replicate (d.ns - d.np) none, h, ?_, rh, ?_⟩
      · unfold L2.start
        rw [hn, hl]
        exact rg_start rr _
      · have hxl : xs.length = d.np := by rw [rr.length, hl]
        unfold calA at o
        rw [hg] at o
        dsimp only at o
        rw [if_pos hxl] at o
        cases e : evSs T.Pr (calA T.Pr n) d.body (xs.map some ++ List.replicate (d.ns - d.np) none) h with
        | nx σ' h' => rw [e] at o; exact fun ρ' H' σ' e' rh' rs' => o ρ' H' e' rh' _ .non
        | rt v h' => rw [e] at o; exact fun ρ' H' v e' rh' rv => o ρ' H' e' rh' v rv
        | bk σ' h' => rw [e] at o; exact o.elim
        | ct σ' h' => rw [e] at o; exact o.elim
        | exc c fs σ' h' => rw [e] at o; exact fun ρ' H' σ' cls d' e' rh' rs' x => o ρ' H' cls d' e' rh' x
        | bad => rw [e] at o; exact o.elim
    · rw [← S.pre]; exact S.nd.sublist (List.take_sublist _ _)⟩
end
end Mini
set_option autoImplicit false
set_option maxHeartbeats 4000000
/-! Mini, twentieth part: the program as data, the facts of its written part by one look; the end. -/
namespace Mini
open PySem PySem.Spec L2
open PyProof.Rows hiding St
/-- a program: where each of its defs and classes stands, what it is -/
structure Pg where
  ats : List (Str × Option Str)
  gs : List MG
  flds : List Str
  gcd : Bool
namespace Pg
variable (p : Pg)
def Pr : Prog := fun g => p.gs[g]?
def at_ (g : Nat) : Str × Option Str := p.ats[g]?.getD ("", some "")
def nm (g : Nat) : Str := (p.at_ g).1
def gr (K : PySem.W.Frag) : Gr := ⟨K, fun g => He.fAd K (p.at_ g)⟩
def T (K : PySem.W.Frag) : Top := ⟨p.gr K, p.Pr, p.nm, p.flds⟩
def top (g : Nat) : Bool := (p.at_ g).2.isNone && (match p.Pr g with
  | some (.def_ _) => true
  | some (.cls _) => true
  | _ => false)
def C : Ck := ⟨p.Pr, p.nm, p.flds, p.top, p.gcd⟩
def idx : List Nat := List.range p.gs.length
def isC (g : Nat) : Bool := (clsAt p.Pr g).isSome
def tds : List TD := (tnames.map TD.b) ++ (p.idx.filter p.isC).map TD.c
/-- what is seen of the program alone -/
def staticB : Bool := p.idx.all fun g => match p.Pr g with
  | some (.def_ d) => decide (d.params.length = d.np)
  | some (.cls c) => (p.at_ g).2.isNone && decide (p.at_ c.init = (p.nm g, some ("__init__" : Str))) && (match p.Pr c.init with
      | some (.def_ d) => !d.params.isEmpty
      | _ => false) &&
    (match c.eq with
      | none => true
      | some e => decide (p.at_ e = (p.nm g, some ("__eq__" : Str))) && (match p.Pr e with
        | some (.def_ d) => decide (d.np = 2)
        | _ => false)) &&
    (match c.ne with
      | none => true
      | some e => decide (p.at_ e = (p.nm g, some ("__ne__" : Str))) && (match p.Pr e with
        | some (.def_ d) => decide (d.np = 2)
        | _ => false))
  | some (.val v) => (p.at_ g).2.isNone && (match v with
      | .int _ => true
      | .str _ => true
      | _ => false)
  | _ => true
def clsB (K : PySem.W.Frag) (g : Nat) (c : MCls) : Bool :=
  (He.Fa.mkr (p.nm g)).ok K && ((He.Fa.cls (p.nm g)).ok K && ((p.flds.all fun f => (He.Fa.noat (p.nm g) f).ok K) && (He.eqO (PySem.W.findIn K (.ref (He.ga K (p.nm g))) "__class__") (some (some (.builtin "object.__class__"))) &&
    (decide (PySem.W.mroIn K (He.ga K (p.nm g)) (.type "object") = some true) && ((match c.eq with
      | none => true
      | some _ => (He.Fa.meth (p.nm g) "__eq__").ok K) && ((match c.ne with
      | none => true
      | some _ => (He.Fa.meth (p.nm g) "__ne__").ok K) && p.tds.all fun t => PySem.W.notFirst K (He.ga K (p.nm g)) (tdV (p.gr K) t)))))))
def gB (K : PySem.W.Frag) (g : Nat) : Bool := match p.Pr g with
  | some (.def_ _) => PySem.W.keepIn K (.ref (He.fAd K (p.at_ g))) && ((p.at_ g).2.isSome || (He.Fa.glo (p.nm g)).ok K)
  | some (.cls c) => (He.Fa.glo (p.nm g)).ok K && p.clsB K g c
  | some (.val (.int i)) => (He.Fa.int (p.nm g) i).ok K
  | some (.val (.str z)) => (He.Fa.str (p.nm g) z).ok K
  | _ => true
def sysB (K : PySem.W.Frag) : Bool := match K.lookup sysModules with
  | some o => (match o.data with
    | .dict _ _ => true
    | _ => false)
  | none => false
def gcdB (K : PySem.W.Frag) : Bool := !p.gcd || He.eqO (PySem.W.nsIn K mainGlobals "gcd") (some (some (.builtin "math.gcd")))
/-- what is seen of the written part -/
def factsB (K : PySem.W.Frag) : Bool := (p.idx.all fun g => p.gB K g) && ((bnames.all fun x => (He.Fa.free x).ok K) && ((p.tds.all fun t => p.tds.all fun u => match isTD p.Pr t u with
    | some b => decide (PySem.W.kitOne K (tdV (p.gr K) t) (tdV (p.gr K) u) = some b)
    | none => true) && (sysB K && (p.gcdB K && (decide (PySem.W.specialIn K (.builtin "object.__class__") "__get__" = some (some (.builtin "getset_descriptor.__get__"))) && decide (PySem.W.takesIn K (.builtin "object.__class__") = some true))))))
end Pg
theorem idx_mem {p : Pg} {g : Nat} {m : MG} (h : p.Pr g = some m) : g ∈ p.idx := by
  unfold Pg.idx
  exact List.mem_range.mpr (List.getElem?_eq_some_iff.mp h).1
theorem tds_c {p : Pg} {g : Nat} (h : isCls p.Pr g = true) : TD.c g ∈ p.tds := by
  unfold Pg.tds
  refine List.mem_append_right _ (List.mem_map.mpr ⟨g, List.mem_filter.mpr ⟨?_, h⟩, rfl⟩)
  unfold isCls clsAt at h
  cases e : p.Pr g with
  | none => rw [e] at h; cases h
  | some m => exact idx_mem e
theorem tds_b {p : Pg} {T : String} (h : tnames.contains T = true) : TD.b T ∈ p.tds := by
  unfold Pg.tds
  exact List.mem_append_left _ (List.mem_map.mpr ⟨T, by simpa using h, rfl⟩)
theorem tds_of {p : Pg} {t u : TD} {b : Bool} (h : isTD p.Pr t u = some b) : t ∈ p.tds ∧ u ∈ p.tds := by
  cases t with
  | b T =>
    cases u with
    | b U =>
      by_cases c : (tnames.contains T && tnames.contains U) = true
      · simp only [Bool.and_eq_true] at c; exact ⟨tds_b c.1, tds_b c.2⟩
      · rw [show isTD p.Pr (.b T) (.b U) = none from if_neg c] at h; cases h
    | c g =>
      by_cases c : (isCls p.Pr g && tnames.contains T) = true
      · simp only [Bool.and_eq_true] at c; exact ⟨tds_b c.2, tds_c c.1⟩
      · rw [show isTD p.Pr (.b T) (.c g) = none from if_neg c] at h; cases h
  | c g =>
    cases u with
    | b U =>
      by_cases c : (isCls p.Pr g && tnames.contains U) = true
      · simp only [Bool.and_eq_true] at c; exact ⟨tds_c c.1, tds_b c.2⟩
      · rw [show isTD p.Pr (.c g) (.b U) = none from if_neg c] at h; cases h
    | c k =>
      by_cases c : (isCls p.Pr g && isCls p.Pr k) = true
      · simp only [Bool.and_eq_true] at c; exact ⟨tds_c c.1, tds_c c.2⟩
      · rw [show isTD p.Pr (.c g) (.c k) = none from if_neg c] at h; cases h
/-! ### defs -/
def plainB (a : Arguments) (ps : List Str) : Bool := a.posonlyargs.isEmpty && decide (a.args.map (·.arg) = ps) && a.vararg.isNone && a.kwonlyargs.isEmpty && a.kwarg.isNone
theorem plain_by {a : Arguments} {ps : List Str} (h : plainB a ps = true) : PlainP a ps := by
  unfold plainB at h
  simp only [Bool.and_eq_true, decide_eq_true_eq, List.isEmpty_iff, Option.isNone_iff_eq_none] at h
  exact ⟨h.1.1.1.1, h.1.1.1.2, h.1.1.2, h.1.2, h.2⟩
/-- a def of the text: its slots' names, where it stands -/
abbrev DR := List Str × He.DefD
def defOk (p : Pg) (g : Nat) (md : MDef) (r : DR) : Bool := decide (r.2.at_ = p.at_ g) && (r.2.dfl.isEmpty && (plainB r.2.params md.params && (C8.scC r.1 md.params r.2.scope && (decide (r.1.length = md.ns) && chkSs p.C r.1 r.2.scope md.body r.2.body))))
/-- the g-th thing is a def: ds has its text -/
def defsB (p : Pg) (ds : List (Option DR)) : Bool := p.idx.all fun g => match p.Pr g with
  | some (.def_ md) => (match ds[g]? with
    | some (some r) => defOk p g md r
    | _ => false)
  | _ => true
def fnsOf (ds : List (Option DR)) : List He.DefD := ds.filterMap fun o => o.map (·.2)
/-! ### the look -/
abbrev AlM : Type := Bool × List He.FnW
def obsM (p : Pg) (ds : List (Option DR)) (K : PySem.W.Frag) : AlM := (p.factsB K && (fnsOf ds).all fun d => d.ok K, (fnsOf ds).map fun d => He.fnW K d.at_)
def valM (ds : List (Option DR)) : AlM := (true, (fnsOf ds).map He.DefD.val)
def SaysM (p : Pg) (ds : List (Option DR)) (K : PySem.W.Frag) : Prop := obsM p ds K = valM ds
def obsMG (n : Nat) (p : Pg) (ds : List (Option DR)) (g : Addr → Option Obj) : AlM := obsM p ds (He.frG g (He.asD g n ++ [sysModules]))
def hookM (n : Nat) (p : Pg) (ds : List (Option DR)) : PySem.W.Hook where
  α := AlM
  obs := fun s => obsMG n p ds s.heap.get?
  val := fun _ => valM ds
  says := fun _ h => ∃ K : PySem.W.Frag, K.In h ∧ SaysM p ds K
  of := fun _ _ e => ⟨_, He.frG_in, e⟩
  keeps := fun _ _ _ ⟨K, hK, c⟩ k => ⟨K, PySem.W.Frag.In.keeps hK k, c⟩
theorem obsMG_eq {n : Nat} {p : Pg} {ds : List (Option DR)} {g : Addr → Option Obj} {s : Shared} (h : ∀ a, g a = s.heap.get? a) : obsMG n p ds g = (hookM n p ds).obs s := by
  have e : g = s.heap.get? := funext h
  rw [e]; rfl
theorem map_at {α β : Type} {f g : α → β} : ∀ {l : List α}, l.map f = l.map g → ∀ x ∈ l, f x = g x
  | [], _, _, h => by cases h
  | y :: l, e, x, h => by
    simp only [List.map_cons, List.cons.injEq] at e
    rcases List.mem_cons.mp h with rfl | h
    · exact e.1
    · exact map_at e.2 x h
section
variable {p : Pg} {ds : List (Option DR)} {K : PySem.W.Frag} {h : Heap} {mg : Str → Option Value}
theorem def_at (c : SaysM p ds K) (sd : defsB p ds = true) {g : Nat} {md : MDef} (hg : p.Pr g = some (.def_ md)) : DefAt p.C K (He.fAd K (p.at_ g)) md := by
  have q := List.all_eq_true.mp sd g (idx_mem hg)
  rw [hg] at q
  dsimp only at q
  split at q
  · rename_i r hr
    unfold defOk at q
    simp only [Bool.and_eq_true, decide_eq_true_eq, List.isEmpty_iff] at q
    obtain ⟨q1, q2, q3, q4, q5, q6⟩ := q
    have hm : r.2 ∈ fnsOf ds := List.mem_filterMap.mpr ⟨some r, List.mem_of_getElem? hr, rfl⟩
    have c1 : (p.factsB K && (fnsOf ds).all fun d => d.ok K) = true := congrArg (fun z : AlM => z.1) c
    have c2 : (fnsOf ds).map (fun d => He.fnW K d.at_) = (fnsOf ds).map He.DefD.val := congrArg (fun z : AlM => z.2) c
    obtain ⟨fd, F⟩ := He.DefD.funD (map_at c2 r.2 hm) (List.all_eq_true.mp (He.ba c1).2 r.2 hm)
    obtain ⟨oc, od, dV, kV, doc, pm, an, cdv, ct, osl, rfl, lk, hcd, df, _⟩ := F.ex
    have hd : dV = .none := by
      rcases df with ⟨_, z⟩ | ⟨z, _⟩
      · exact z
      · exact absurd (by unfold He.DefD.dvs; rw [q2]; rfl) z
    subst hd
    rw [q1] at lk
    exact ⟨_, _, _, _, _, kV, doc, pm, cdv, ct, oc, an, od, osl, r.1, lk, hcd, plain_by q3, C8.fnScope_by q4, q5, q6⟩
  · cases q
end
end Mini
set_option autoImplicit false
set_option maxHeartbeats 4000000
/-! Mini, twenty-first part: what the look tells; the end of a law. -/
namespace Mini
open PySem PySem.Spec L2
open PyProof.Rows hiding St
section
variable {p : Pg} {ds : List (Option DR)} {K : PySem.W.Frag} {h : Heap} {mg : Str → Option Value}
theorem at_none {g : Nat} (e : (p.at_ g).2.isNone = true) : p.at_ g = (p.nm g, none) := by
  unfold Pg.nm
  cases q : p.at_ g with
  | mk x o =>
    rw [q] at e
    cases o with
    | none => rfl
    | some _ => cases e
theorem ad_top {g : Nat} (e : (p.at_ g).2.isNone = true) : He.fAd K (p.at_ g) = He.ga K (p.nm g) := by rw [at_none e]; rfl
theorem known_of (c : SaysM p ds K) (sd : defsB p ds = true) (st : p.staticB = true) (X : K.In h) (G : h.Ns mainGlobals mg) : Known p.C (p.T K) mg := by
  have c1 : (p.factsB K && (fnsOf ds).all fun d => d.ok K) = true := congrArg (fun z : AlM => z.1) c
  have cf := (He.ba c1).1
  unfold Pg.factsB at cf
  simp only [Bool.and_eq_true] at cf
  obtain ⟨f1, f2, f3, f4, f5, f6, f7⟩ := cf
  have gb : ∀ {g : Nat} {m : MG}, p.Pr g = some m → p.gB K g = true := fun {g m} e => List.all_eq_true.mp f1 g (idx_mem e)
  have sb : ∀ {g : Nat} {m : MG}, p.Pr g = some m → _ := fun {g m} e => List.all_eq_true.mp st g (idx_mem e)
  have fre : ∀ x ∈ bnames, mg x = none := fun x hx => He.free_ok X G (List.all_eq_true.mp f2 x hx)
  have dtop : ∀ {g : Nat} {d : MDef}, p.Pr g = some (.def_ d) → (p.at_ g).2.isNone = true → mg (p.nm g) = some (.ref (He.fAd K (p.at_ g))) := fun {g d} e hn => by
    have q := gb e
    unfold Pg.gB at q
    rw [e] at q
    simp only [Bool.and_eq_true, Bool.or_eq_true] at q
    rcases q.2 with q2 | q2
    · cases z : (p.at_ g).2 with
      | none => rw [z] at q2; cases q2
      | some _ => rw [z] at hn; cases hn
    · rw [ad_top hn]; exact He.glo_ok X G q2
  have dkeep : ∀ {g : Nat} {d : MDef}, p.Pr g = some (.def_ d) → PySem.W.keepIn K (.ref (He.fAd K (p.at_ g))) = true := fun {g d} e => by
    have q := gb e
    unfold Pg.gB at q
    rw [e] at q
    simp only [Bool.and_eq_true] at q
    exact q.1
  have cst : ∀ {g : Nat} {c : MCls}, p.Pr g = some (.cls c) → (p.at_ g).2.isNone = true ∧ p.at_ c.init = (p.nm g, some ("__init__" : Str)) ∧ (∃ d x ps, p.Pr c.init = some (.def_ d) ∧ d.params = x :: ps) ∧
      (∀ e, c.eq = some e → p.at_ e = (p.nm g, some ("__eq__" : Str)) ∧ ∃ d, p.Pr e = some (.def_ d) ∧ d.np = 2) ∧ (∀ e, c.ne = some e → p.at_ e = (p.nm g, some ("__ne__" : Str)) ∧ ∃ d, p.Pr e = some (.def_ d) ∧ d.np = 2) := fun {g c} e => by
    have q := sb e
    rw [e] at q
    simp only [Bool.and_eq_true, decide_eq_true_eq] at q
    obtain ⟨⟨⟨⟨q1, q2⟩, q3⟩, q4⟩, q5⟩ := q
    refine ⟨q1, q2, ?_, fun x hx => ?_, fun x hx => ?_⟩
    · split at q3
      · rename_i d hd
        cases hp : d.params with
        | nil => rw [hp] at q3; cases q3
        | cons x ps => exact ⟨d, x, ps, hd, hp⟩
      · cases q3
    · rw [hx] at q4
      simp only [Bool.and_eq_true, decide_eq_true_eq] at q4
      obtain ⟨r1, r2⟩ := q4
      split at r2
      · rename_i d hd
        exact ⟨r1, d, hd, by simpa using r2⟩
      · cases r2
    · rw [hx] at q5
      simp only [Bool.and_eq_true, decide_eq_true_eq] at q5
      obtain ⟨r1, r2⟩ := q5
      split at r2
      · rename_i d hd
        exact ⟨r1, d, hd, by simpa using r2⟩
      · cases r2
  have cfa : ∀ {g : Nat} {c : MCls}, p.Pr g = some (.cls c) → (He.Fa.glo (p.nm g)).ok K = true ∧ p.clsB K g c = true := fun {g c} e => by
    have q := gb e
    unfold Pg.gB at q
    rw [e] at q
    simp only [Bool.and_eq_true] at q
    exact q
  have cok : ∀ g c, p.Pr g = some (.cls c) → ClsOk (p.T K) g c := fun g c e => by
    obtain ⟨s1, s2, s3, s4, s5⟩ := cst e
    have q := (cfa e).2
    unfold Pg.clsB at q
    simp only [Bool.and_eq_true, decide_eq_true_eq] at q
    obtain ⟨q1, q2, q3, q4, q5, q6, q7, q8⟩ := q
    have ea : (p.T K).G.ad g = He.ga K (p.nm g) := ad_top s1
    have em : ∀ {j : Nat} {m : Str}, p.at_ j = (p.nm g, some m) → (p.T K).G.ad j = He.ma K (He.ga K (p.nm g)) m := fun {j m} z => by
      show He.fAd K (p.at_ j) = _
      rw [z]; rfl
    refine ⟨?_, ?_, fun f hf => ?_, ?_, ?_, fun x hx => ?_, fun x hx => ?_, fun t ht => ?_⟩
    · rw [ea, em s2]; exact He.mkr_ok q1
    · rw [ea]; exact He.cls_ok q2
    · rw [ea]; exact He.noat_ok (List.all_eq_true.mp q3 f hf)
    · rw [ea]; exact He.eqO_ok q4
    · rw [ea]; exact q5
    · rw [hx] at q6
      obtain ⟨m1, m2, m3⟩ := He.meth_ok q6
      rw [ea, em (s4 x hx).1]
      exact ⟨m1, m2⟩
    · rw [hx] at q7
      obtain ⟨m1, m2, m3⟩ := He.meth_ok q7
      rw [ea, em (s5 x hx).1]
      exact ⟨m1, m2⟩
    · rw [ea]
      obtain ⟨b, hb⟩ := Option.isSome_iff_exists.mp ht
      exact List.all_eq_true.mp q8 t (tds_of hb).1
  refine ⟨rfl, rfl, rfl, fun g hg => ?_, fun hg => ?_, ⟨fun g d e _ => dkeep e, cok, fun g c e => (cst e).2.2.1, fun g d e => ?_, fun g c x e hx => ?_, fun g v e => ?_, fre, fun t u b e => ?_, ?_, ?_, ?_⟩, fun g d e => def_at c sd e⟩
  · have hg : p.top g = true := hg
    unfold Pg.top at hg
    simp only [Bool.and_eq_true] at hg
    obtain ⟨g1, g2⟩ := hg
    show mg (p.nm g) = some (.ref (He.fAd K (p.at_ g))) ∧ PySem.W.keepIn K (.ref (He.fAd K (p.at_ g))) = true
    cases e : p.Pr g with
    | none => rw [e] at g2; cases g2
    | some m =>
      rw [e] at g2
      cases m with
      | val v => cases g2
      | def_ d => exact ⟨dtop e g1, dkeep e⟩
      | cls c =>
        rw [ad_top g1]
        refine ⟨He.glo_ok X G (cfa e).1, ?_⟩
        have q := (cfa e).2
        unfold Pg.clsB at q
        simp only [Bool.and_eq_true] at q
        exact (He.mkr_ok q.1).kp
  · have hg : p.gcd = true := hg
    unfold Pg.gcdB at f5
    rw [hg] at f5
    exact PySem.W.mg_of X G (He.eqO_ok f5)
  · have q := sb e
    rw [show p.Pr g = some (.def_ d) from e] at q
    simpa using q
  · rcases hx with hx | hx
    · exact ((cst e).2.2.2.1 x hx).2
    · exact ((cst e).2.2.2.2 x hx).2
  · have q := gb (show p.Pr g = some (.val v) from e)
    have s := sb (show p.Pr g = some (.val v) from e)
    unfold Pg.gB at q
    rw [show p.Pr g = some (.val v) from e] at q s
    cases v with
    | int i =>
      obtain ⟨t, ht⟩ := He.int_ok X G q
      exact ⟨_, .int i, ht, ⟨t, rfl⟩, fun ρ H => .int i⟩
    | str z =>
      obtain ⟨t, ht⟩ := He.str_ok X G q
      exact ⟨_, .str z, ht, ⟨t, rfl⟩, fun ρ H => .str z⟩
    | _ => simp at s
  · have e : isTD p.Pr t u = some b := e
    obtain ⟨ht, hu⟩ := tds_of e
    have q := List.all_eq_true.mp (List.all_eq_true.mp f3 t ht) u hu
    rw [e] at q
    exact of_decide_eq_true q
  · unfold Pg.sysB at f4
    split at f4
    · rename_i o ho
      split at f4
      · rename_i es n hd
        exact ⟨o, es, n, ho, hd⟩
      · cases f4
    · cases f4
  · exact of_decide_eq_true f6
  · exact of_decide_eq_true f7
end
end Mini
set_option autoImplicit false
set_option maxHeartbeats 4000000
/-! Mini, twenty-second part: the end of a law. -/
namespace Mini
open PySem PySem.Spec L2
open PyProof.Rows hiding St
/-- the heap in which the script is tracked, or nothing -/
def scriptHp (K : PySem.W.Frag) (a : Addr) (o : Obj) (xs : List V) : Hp := fun b => if b = a ∧ K.lookup a = none then some (.frz o (.lst xs)) else none
theorem script_none {K : PySem.W.Frag} {a : Addr} {o : Obj} {xs : List V} {b : Addr} (h : b ≠ a ∨ K.lookup a ≠ none) : scriptHp K a o xs b = none := if_neg fun z => h.elim (fun q => q z.1) fun q => q z.2
theorem law_callG {P : Program} {w : World} {K : PySem.W.Frag} {mg mb : Str → Option Value} {k : Nat} {fa a : Addr} {x : Str} {sp : Sp} {s₁ : Shared} {vs : List Value} {ns : List Int}
    (KX : K.In s₁.heap) (hns : s₁.heap.Ns mainGlobals mg) (hb : s₁.heap.Ns builtinsNs mb) (hbb : ∀ x : Str, x ≠ "__name__" → mb x = bootBuiltins x) (hlim : s₁.heap.NoLimit) (hg : s₁.gens = #[])
    (ha : s₁.heap.get? a = some { cls := .type "list", data := .seq vs.toArray }) (hi : IntsAre vs ns) (hl : ns.length ≤ sizeLine) (hr : Room k callerA)
    (F : ∀ base : Heap, K.In base → base.Ns mainGlobals mg → ∃ fd, FnG P w K mg base k fa fd [x] sp ∧ ∀ (s : Shared) (u : Value), BindsTo s fd ⟨[u], []⟩ [(x, u)])
    (hsp : ∀ H : Hp, Only H → SqL K H a (ns.map V.int) → sp [.ref a] H (fun v _ => v = .bl true) fun _ _ _ => False) :
    codeAny (model P w) callerA (.call (.ref fa) ⟨[.ref a], []⟩) (fun r s' => r = .ok (.ret (.bool true)) ∧ OldK s₁.heap s'.heap ∧ s'.os = s₁.os ∧ AllBare s'.gens) s₁ := by
  have rv := vals_ints hi
  have lenV := hi.length
  generalize hO : ({ cls := .type "list", data := .seq vs.toArray } : Obj) = o at ha
  generalize hH : scriptHp K a o (ns.map V.int) = H
  have off : ∀ {b : Addr} {ob : Obj} {es : Array DictEntry} {ep : Nat}, s₁.heap.get? b = some ob → ob.data = .dict es ep → H b = none := fun {b ob es ep} e d => by
    rw [← hH]
    refine script_none (.inl fun z => ?_)
    subst z
    rw [ha] at e
    cases e
    rw [← hO] at d
    cases d
  have nsK : ∀ {b : Addr} {m : Str → Option Value}, s₁.heap.Ns b m → (hidT s₁.heap H).Ns b m := fun {b m} ⟨ob, es, ep, e, d, r⟩ => ⟨ob, es, ep, hidT_get e (off e d), d, r⟩
  have inK : K.In (hidT s₁.heap H) := fun b ob e => hidT_get (KX b ob e) (by
    rw [← hH]
    by_cases z : b = a
    · subst z; exact script_none (.inr (by rw [e]; simp))
    · exact script_none (.inl z))
  have is : ∀ {b : Addr} {u : HO}, H b = some u → b = a ∧ u = .frz o (.lst (ns.map V.int)) := fun {b u} z => by
    rw [← hH] at z
    unfold scriptHp at z
    split at z
    · rename_i c; cases z; exact ⟨c.1, rfl⟩
    · cases z
  have ok : HOk P w H s₁.heap := fun b u z => by
    obtain ⟨rfl, rfl⟩ := is z
    exact ⟨ha, by rw [List.length_map]; exact hl, vs, _, rv, ha.trans (congrArg some hO.symm)⟩
  have sq : SqL K H a (ns.map V.int) := by
    cases e : K.lookup a with
    | none => exact .inl (.inr ⟨o, by rw [← hH]; exact if_pos ⟨rfl, e⟩⟩)
    | some ob =>
      have e2 := KX a ob e
      rw [ha] at e2
      cases e2
      exact .inr ⟨_, vs.toArray, _, e, by rw [← hO], by rw [← hO], by rw [← hO], by rw [List.size_toArray, lenV]; exact hl, by simpa using rv⟩
  have on : Only H := fun b => by
    cases z : H b with
    | none => exact .inl rfl
    | some u => exact .inr ⟨o, _, congrArg some (is z).2⟩
  have hM : Mod K mg (hidT s₁.heap H) := ⟨inK, nsK hns, ⟨mb, nsK hb, hbb⟩, let ⟨mc, h1, h2⟩ := hlim; ⟨mc, nsK h1, h2⟩⟩
  have e0 : Env0 P w K mg (hidT s₁.heap H) callerA [] s₁ H := ⟨rfl, hM, fun b o e => of_hidT e, Nat.le_of_eq (hidT_size _ _), trivial, fun b hb => absurd (show b ∈ ([] : List Addr) from hb) (by simp), ok, .of_eq hg⟩
  obtain ⟨fd, Fg, hbind⟩ := F _ inK (nsK hns)
  refine codeAny_mono (Fg.run callerA [] s₁ H ⟨[.ref a], []⟩ [.ref a] [.ref a] _ _ rfl hr e0 (hbind s₁ (.ref a)) (.cons rfl .nil) (hsp H on sq)) fun r s' q => ?_
  cases r with
  | error e =>
    obtain ⟨_, _, _, _, _, _, _, _, _, _, _, _, z⟩ := (show L2.CX P w [] H s₁ (fun _ _ _ => False) e s' from q)
    exact z.elim
  | ok fl =>
    cases fl with
    | next => exact False.elim q
    | brk => exact False.elim q
    | cont => exact False.elim q
    | ret u =>
      obtain ⟨v, H', os, bare, un, hok', r', z⟩ := q
      obtain rfl : v = .bl true := z
      obtain rfl : u = Value.bool true := r'
      refine ⟨rfl, OldK.of_keep fun b ob e => ?_, os, bare⟩
      cases hq : H b with
      | none => exact un.keep b ob e hq (by intro z; exact absurd (show b ∈ ([] : List Addr) from z) (by simp)) (by simp)
      | some u =>
        obtain ⟨rfl, rfl⟩ := is hq
        have z2 := un.frzs b o _ hq
        obtain ⟨e1, _⟩ := hok' b _ z2
        rw [ha] at e
        cases e
        exact e1
theorem rs_script {G : Gr} {H : Hp} {a : Addr} {ns : List Int} (on : Only H) (sq : SqL G.K H a (ns.map V.int)) : RH G [a] [.rls (ns.map .int)] H ∧ RVs G [a] H [.ref 0] [.ref a] := by
  have rr : ∀ l : List Int, RVs G [a] H (l.map AV.int) (l.map V.int) := fun l => by
    induction l with
    | nil => exact .nil
    | cons n ns ih => exact .cons (.int n) ih
  have mk : RO G [a] H (.rls (ns.map .int)) a → RH G [a] [.rls (ns.map .int)] H := fun ro => by
    refine ⟨rfl, fun k o b h1 h2 => ?_, fun j k o u b h1 h2 m1 m2 _ _ => ?_⟩
    · cases k with
      | zero => simp at h1 h2; subst h1 h2; exact ro
      | succ k => simp at h1
    · cases j with
      | zero => simp at h1; subst h1; cases m1
      | succ j => simp at h1
  rcases sq with (z | ⟨o, z⟩) | ⟨o, its, n, e1, e2, e3, e4, e5, e6⟩
  · rcases on a with y | ⟨o, xs, y⟩
    · rw [z] at y; cases y
    · rw [z] at y; cases y
  · exact ⟨mk (.frz z (rr _)), .cons (.ref rfl) .nil⟩
  · exact ⟨mk (.kls ⟨o, its, n, e1, e2, e3, e4, e5, e6⟩ (rr _)), .cons (.ref rfl) .nil⟩
/-- the end: the law's promise from its run in the small syntax -/
theorem walk_mini {l : PySem.W.OpenLaw} {n m fu gl : Nat} {q : Program} {loose : List Str} {XP : (Str → Option Value) → Heap → Prop} {d : DefRec} {p : Pg} {ds : List (Option DR)} {md : MDef} {x : Str}
    (hn : l.most = some n) (hn2 : n ≤ sizeLine) (hdf : d.params.defaults = []) (hr : Room (2 * fu) callerA) (sd : defsB p ds = true) (st : p.staticB = true)
    (hg : p.Pr gl = some (.def_ md)) (hat : p.at_ gl = (d.name, none)) (hps : md.params = [x])
    (law : ∀ ns : List Int, ns.length ≤ n → (∀ k ∈ ns, Builtin.Int.intBits k ≤ 1048576) → ∃ h', calA p.Pr fu gl [.ref 0] [.rls (ns.map .int)] = .ok (.bl true) h') :
    PySem.W.WalkO q loose XP (hookM m p ds).says l.row.toRowW d [] (fun f vs => PySem.call f vs) := by
  refine Att.attach_callB hn hdf fun w s₀ s₁ mg mb fa o pm cd doc a vs ns Gr Y ho hd hcd hmg hobj hints hlen hbits hgens => ?_
  obtain ⟨K, KX, c⟩ := Y
  have top : p.top gl = true := by
    unfold Pg.top
    rw [hat, hg]; rfl
  have kn : Known p.C (p.T K) mg := known_of c sd st KX Gr.T.g
  have e1 := (kn.top gl top).1
  have e2 : mg d.name = some (.ref (He.fAd K (p.at_ gl))) := by
    have e3 : p.C.nm gl = d.name := by show (p.at_ gl).1 = _; rw [hat]
    rw [← e3]; exact e1
  have efa : fa = (p.T K).G.ad gl := by
    rw [hmg] at e2
    cases e2
    rfl
  subst efa
  have np : 1 = md.np := by rw [← kn.ok.np gl md hg, hps]; rfl
  obtain ⟨h', hl⟩ := law ns hlen hbits
  refine law_callG (x := x) (sp := spC (p.gr K) (calA p.Pr fu) gl md.np) KX Gr.T.g Gr.T.b Gr.T.builtins Gr.T.nolimit hgens hobj hints (Nat.le_trans hlen hn2) hr (fun base hK hG => ?_) fun H on sq => ?_
  · obtain ⟨fd, F, hb⟩ := (tab_all (P := l.prog) (w := w) (base := base) kn fu).fn gl md hg
    rw [hps] at F hb
    exact ⟨fd, F, fun s u => .of_eq (hb [u] [] [] [u] (bindK_nil rfl) rfl)⟩
  · obtain ⟨rh, rr⟩ := rs_script (G := p.gr K) on sq
    refine ⟨np, [a], [.ref 0], _, rr, rh, ?_⟩
    rw [hl]
    exact fun ρ' H' e rh' v rv => rv.bl_inv
end Mini
set_option autoImplicit false
set_option maxHeartbeats 0
namespace Mini.K90
open PySem PySem.Spec L2
open PyProof.Rows hiding St
abbrev row : PySem.W.OpenLaw := PySem.Challenge.rw_growthpapers_k90_classes_made_by_hand
def top (i : Nat) : Stmt := PySem.Challenge.pw_growthpapers_k90_classes_made_by_hand.main.body.getD i (.Pass ⟨0, 0, 0, 0⟩)
def meth (i j : Nat) : Stmt := (C8.clsBody (top i)).getD j (.Pass ⟨0, 0, 0, 0⟩)
/-- copied -/
def d0 : MDef := ⟨1, ["value"], 1, (.cons (.ret (.ite (.bi .isinst (.cons (.var 0) (.cons (.ty "list") .nil))) (.bi .tuple (.cons (.var 0) .nil)) (.var 0)))
    .nil)⟩
def r0 : DR := (["value"], ⟨("copied", none), "copied", "copied", C8.fnArgs (top 1), C8.fnBody (top 1), C8.fnScope (top 1), [], []⟩)
/-- Stops.__init__ -/
def d2 : MDef := ⟨4, ["self", "line", "column", "what"], 4, (.cons (.setF (.var 0) "line" (.call 0 (.cons (.var 1) .nil)))
    (.cons (.setF (.var 0) "column" (.call 0 (.cons (.var 2) .nil)))
    (.cons (.setF (.var 0) "what" (.call 0 (.cons (.var 3) .nil)))
    .nil)))⟩
def r2 : DR := (["self", "line", "column", "what"], ⟨("Stops", some ("__init__" : Str)), "__init__", "Stops.__init__", C8.fnArgs (meth 3 0), C8.fnBody (meth 3 0), C8.fnScope (meth 3 0), [], []⟩)
/-- Stops.__eq__ -/
def d3 : MDef := ⟨2, ["self", "other"], 2, (.cons (.if_ (.not_ (.bi .isinst (.cons (.var 1) (.cons (.glo 1) .nil)))) (.cons (.ret (.bl false))
    .nil) .nil)
    (.cons (.ret (.cmp .eq (.tup (.cons (.fld (.var 0) "line") (.cons (.fld (.var 0) "column") (.cons (.fld (.var 0) "what") .nil)))) (.tup (.cons (.fld (.var 1) "line") (.cons (.fld (.var 1) "column") (.cons (.fld (.var 1) "what") .nil))))))
    .nil))⟩
def r3 : DR := (["self", "other"], ⟨("Stops", some ("__eq__" : Str)), "__eq__", "Stops.__eq__", C8.fnArgs (meth 3 1), C8.fnBody (meth 3 1), C8.fnScope (meth 3 1), [], []⟩)
/-- Stops.__ne__ -/
def d4 : MDef := ⟨2, ["self", "other"], 2, (.cons (.ret (.not_ (.cmp .eq (.var 0) (.var 1))))
    .nil)⟩
def r4 : DR := (["self", "other"], ⟨("Stops", some ("__ne__" : Str)), "__ne__", "Stops.__ne__", C8.fnArgs (meth 3 2), C8.fnBody (meth 3 2), C8.fnScope (meth 3 2), [], []⟩)
/-- Limit.__init__ -/
def d6 : MDef := ⟨2, ["self", "ratio"], 2, (.cons (.setF (.var 0) "ratio" (.call 0 (.cons (.var 1) .nil)))
    .nil)⟩
def r6 : DR := (["self", "ratio"], ⟨("Limit", some ("__init__" : Str)), "__init__", "Limit.__init__", C8.fnArgs (meth 4 0), C8.fnBody (meth 4 0), C8.fnScope (meth 4 0), [], []⟩)
/-- Limit.__eq__ -/
def d7 : MDef := ⟨2, ["self", "other"], 2, (.cons (.ret (.and_ (.bi .isinst (.cons (.var 1) (.cons (.glo 5) .nil))) (.cmp .eq (.fld (.var 0) "ratio") (.fld (.var 1) "ratio"))))
    .nil)⟩
def r7 : DR := (["self", "other"], ⟨("Limit", some ("__eq__" : Str)), "__eq__", "Limit.__eq__", C8.fnArgs (meth 4 1), C8.fnBody (meth 4 1), C8.fnScope (meth 4 1), [], []⟩)
/-- Limit.__ne__ -/
def d8 : MDef := ⟨2, ["self", "other"], 2, (.cons (.ret (.not_ (.cmp .eq (.var 0) (.var 1))))
    .nil)⟩
def r8 : DR := (["self", "other"], ⟨("Limit", some ("__ne__" : Str)), "__ne__", "Limit.__ne__", C8.fnArgs (meth 4 2), C8.fnBody (meth 4 2), C8.fnScope (meth 4 2), [], []⟩)
/-- Infinite.__init__ -/
def d10 : MDef := ⟨2, ["self", "sign"], 2, (.cons (.setF (.var 0) "sign" (.call 0 (.cons (.var 1) .nil)))
    .nil)⟩
def r10 : DR := (["self", "sign"], ⟨("Infinite", some ("__init__" : Str)), "__init__", "Infinite.__init__", C8.fnArgs (meth 5 0), C8.fnBody (meth 5 0), C8.fnScope (meth 5 0), [], []⟩)
/-- Infinite.__eq__ -/
def d11 : MDef := ⟨2, ["self", "other"], 2, (.cons (.ret (.and_ (.bi .isinst (.cons (.var 1) (.cons (.glo 9) .nil))) (.cmp .eq (.fld (.var 0) "sign") (.fld (.var 1) "sign"))))
    .nil)⟩
def r11 : DR := (["self", "other"], ⟨("Infinite", some ("__eq__" : Str)), "__eq__", "Infinite.__eq__", C8.fnArgs (meth 5 1), C8.fnBody (meth 5 1), C8.fnScope (meth 5 1), [], []⟩)
/-- Infinite.__ne__ -/
def d12 : MDef := ⟨2, ["self", "other"], 2, (.cons (.ret (.not_ (.cmp .eq (.var 0) (.var 1))))
    .nil)⟩
def r12 : DR := (["self", "other"], ⟨("Infinite", some ("__ne__" : Str)), "__ne__", "Infinite.__ne__", C8.fnArgs (meth 5 2), C8.fnBody (meth 5 2), C8.fnScope (meth 5 2), [], []⟩)
/-- Sign.__init__ -/
def d14 : MDef := ⟨2, ["self", "number"], 2, (.cons (.setF (.var 0) "number" (.call 0 (.cons (.var 1) .nil)))
    .nil)⟩
def r14 : DR := (["self", "number"], ⟨("Sign", some ("__init__" : Str)), "__init__", "Sign.__init__", C8.fnArgs (meth 6 0), C8.fnBody (meth 6 0), C8.fnScope (meth 6 0), [], []⟩)
/-- Sign.__eq__ -/
def d15 : MDef := ⟨2, ["self", "other"], 2, (.cons (.ret (.and_ (.bi .isinst (.cons (.var 1) (.cons (.glo 13) .nil))) (.cmp .eq (.fld (.var 0) "number") (.fld (.var 1) "number"))))
    .nil)⟩
def r15 : DR := (["self", "other"], ⟨("Sign", some ("__eq__" : Str)), "__eq__", "Sign.__eq__", C8.fnArgs (meth 6 1), C8.fnBody (meth 6 1), C8.fnScope (meth 6 1), [], []⟩)
/-- Sign.__ne__ -/
def d16 : MDef := ⟨2, ["self", "other"], 2, (.cons (.ret (.not_ (.cmp .eq (.var 0) (.var 1))))
    .nil)⟩
def r16 : DR := (["self", "other"], ⟨("Sign", some ("__ne__" : Str)), "__ne__", "Sign.__ne__", C8.fnArgs (meth 6 2), C8.fnBody (meth 6 2), C8.fnScope (meth 6 2), [], []⟩)
/-- Order.__init__ -/
def d18 : MDef := ⟨3, ["self", "word", "ratio"], 3, (.cons (.setF (.var 0) "word" (.call 0 (.cons (.var 1) .nil)))
    (.cons (.setF (.var 0) "ratio" (.call 0 (.cons (.var 2) .nil)))
    .nil))⟩
def r18 : DR := (["self", "word", "ratio"], ⟨("Order", some ("__init__" : Str)), "__init__", "Order.__init__", C8.fnArgs (meth 7 0), C8.fnBody (meth 7 0), C8.fnScope (meth 7 0), [], []⟩)
/-- Order.__eq__ -/
def d19 : MDef := ⟨2, ["self", "other"], 2, (.cons (.ret (.and_ (.bi .isinst (.cons (.var 1) (.cons (.glo 17) .nil))) (.cmp .eq (.tup (.cons (.fld (.var 0) "word") (.cons (.fld (.var 0) "ratio") .nil))) (.tup (.cons (.fld (.var 1) "word") (.cons (.fld (.var 1) "ratio") .nil))))))
    .nil)⟩
def r19 : DR := (["self", "other"], ⟨("Order", some ("__eq__" : Str)), "__eq__", "Order.__eq__", C8.fnArgs (meth 7 1), C8.fnBody (meth 7 1), C8.fnScope (meth 7 1), [], []⟩)
/-- Order.__ne__ -/
def d20 : MDef := ⟨2, ["self", "other"], 2, (.cons (.ret (.not_ (.cmp .eq (.var 0) (.var 1))))
    .nil)⟩
def r20 : DR := (["self", "other"], ⟨("Order", some ("__ne__" : Str)), "__ne__", "Order.__ne__", C8.fnArgs (meth 7 2), C8.fnBody (meth 7 2), C8.fnScope (meth 7 2), [], []⟩)
/-- Expansion.__init__ -/
def d22 : MDef := ⟨2, ["self", "row"], 2, (.cons (.setF (.var 0) "row" (.call 0 (.cons (.var 1) .nil)))
    .nil)⟩
def r22 : DR := (["self", "row"], ⟨("Expansion", some ("__init__" : Str)), "__init__", "Expansion.__init__", C8.fnArgs (meth 8 0), C8.fnBody (meth 8 0), C8.fnScope (meth 8 0), [], []⟩)
/-- Expansion.__eq__ -/
def d23 : MDef := ⟨2, ["self", "other"], 2, (.cons (.ret (.and_ (.bi .isinst (.cons (.var 1) (.cons (.glo 21) .nil))) (.cmp .eq (.fld (.var 0) "row") (.fld (.var 1) "row"))))
    .nil)⟩
def r23 : DR := (["self", "other"], ⟨("Expansion", some ("__eq__" : Str)), "__eq__", "Expansion.__eq__", C8.fnArgs (meth 8 1), C8.fnBody (meth 8 1), C8.fnScope (meth 8 1), [], []⟩)
/-- Expansion.__ne__ -/
def d24 : MDef := ⟨2, ["self", "other"], 2, (.cons (.ret (.not_ (.cmp .eq (.var 0) (.var 1))))
    .nil)⟩
def r24 : DR := (["self", "other"], ⟨("Expansion", some ("__ne__" : Str)), "__ne__", "Expansion.__ne__", C8.fnArgs (meth 8 2), C8.fnBody (meth 8 2), C8.fnScope (meth 8 2), [], []⟩)
/-- Letter.__init__ -/
def d26 : MDef := ⟨5, ["self", "kind", "log", "unit", "home"], 5, (.cons (.setF (.var 0) "kind" (.call 0 (.cons (.var 1) .nil)))
    (.cons (.setF (.var 0) "log" (.call 0 (.cons (.var 2) .nil)))
    (.cons (.setF (.var 0) "unit" (.call 0 (.cons (.var 3) .nil)))
    (.cons (.setF (.var 0) "home" (.call 0 (.cons (.var 4) .nil)))
    .nil))))⟩
def r26 : DR := (["self", "kind", "log", "unit", "home"], ⟨("Letter", some ("__init__" : Str)), "__init__", "Letter.__init__", C8.fnArgs (meth 10 0), C8.fnBody (meth 10 0), C8.fnScope (meth 10 0), [], []⟩)
/-- Letter.__eq__ -/
def d27 : MDef := ⟨2, ["self", "other"], 2, (.cons (.ret (.and_ (.bi .isinst (.cons (.var 1) (.cons (.glo 25) .nil))) (.cmp .eq (.call 33 (.cons (.var 0) .nil)) (.call 33 (.cons (.var 1) .nil)))))
    .nil)⟩
def r27 : DR := (["self", "other"], ⟨("Letter", some ("__eq__" : Str)), "__eq__", "Letter.__eq__", C8.fnArgs (meth 10 1), C8.fnBody (meth 10 1), C8.fnScope (meth 10 1), [], []⟩)
/-- Letter.__ne__ -/
def d28 : MDef := ⟨2, ["self", "other"], 2, (.cons (.ret (.not_ (.cmp .eq (.var 0) (.var 1))))
    .nil)⟩
def r28 : DR := (["self", "other"], ⟨("Letter", some ("__ne__" : Str)), "__ne__", "Letter.__ne__", C8.fnArgs (meth 10 2), C8.fnBody (meth 10 2), C8.fnScope (meth 10 2), [], []⟩)
/-- Field.__init__ -/
def d30 : MDef := ⟨4, ["self", "letters", "order", "x"], 4, (.cons (.setF (.var 0) "letters" (.call 0 (.cons (.var 1) .nil)))
    (.cons (.setF (.var 0) "order" (.call 0 (.cons (.var 2) .nil)))
    (.cons (.setF (.var 0) "x" (.call 0 (.cons (.var 3) .nil)))
    .nil)))⟩
def r30 : DR := (["self", "letters", "order", "x"], ⟨("Field", some ("__init__" : Str)), "__init__", "Field.__init__", C8.fnArgs (meth 11 0), C8.fnBody (meth 11 0), C8.fnScope (meth 11 0), [], []⟩)
/-- Field.__eq__ -/
def d31 : MDef := ⟨2, ["self", "other"], 2, (.cons (.ret (.and_ (.bi .isinst (.cons (.var 1) (.cons (.glo 29) .nil))) (.cmp .eq (.call 34 (.cons (.var 0) .nil)) (.call 34 (.cons (.var 1) .nil)))))
    .nil)⟩
def r31 : DR := (["self", "other"], ⟨("Field", some ("__eq__" : Str)), "__eq__", "Field.__eq__", C8.fnArgs (meth 11 1), C8.fnBody (meth 11 1), C8.fnScope (meth 11 1), [], []⟩)
/-- Field.__ne__ -/
def d32 : MDef := ⟨2, ["self", "other"], 2, (.cons (.ret (.not_ (.cmp .eq (.var 0) (.var 1))))
    .nil)⟩
def r32 : DR := (["self", "other"], ⟨("Field", some ("__ne__" : Str)), "__ne__", "Field.__ne__", C8.fnArgs (meth 11 2), C8.fnBody (meth 11 2), C8.fnScope (meth 11 2), [], []⟩)
/-- letter_parts -/
def d33 : MDef := ⟨1, ["letter"], 1, (.cons (.ret (.tup (.cons (.fld (.var 0) "kind") (.cons (.fld (.var 0) "log") (.cons (.fld (.var 0) "unit") (.cons (.fld (.var 0) "home") .nil))))))
    .nil)⟩
def r33 : DR := (["letter"], ⟨("letter_parts", none), "letter_parts", "letter_parts", C8.fnArgs (top 12), C8.fnBody (top 12), C8.fnScope (top 12), [], []⟩)
/-- field_parts -/
def d34 : MDef := ⟨1, ["field"], 1, (.cons (.ret (.tup (.cons (.fld (.var 0) "letters") (.cons (.fld (.var 0) "order") (.cons (.fld (.var 0) "x") .nil)))))
    .nil)⟩
def r34 : DR := (["field"], ⟨("field_parts", none), "field_parts", "field_parts", C8.fnArgs (top 13), C8.fnBody (top 13), C8.fnScope (top 13), [], []⟩)
/-- Lead.__init__ -/
def d36 : MDef := ⟨3, ["self", "number", "powers"], 3, (.cons (.setF (.var 0) "number" (.call 0 (.cons (.var 1) .nil)))
    (.cons (.setF (.var 0) "powers" (.call 0 (.cons (.var 2) .nil)))
    .nil))⟩
def r36 : DR := (["self", "number", "powers"], ⟨("Lead", some ("__init__" : Str)), "__init__", "Lead.__init__", C8.fnArgs (meth 15 0), C8.fnBody (meth 15 0), C8.fnScope (meth 15 0), [], []⟩)
/-- Lead.__eq__ -/
def d37 : MDef := ⟨2, ["self", "other"], 2, (.cons (.ret (.and_ (.bi .isinst (.cons (.var 1) (.cons (.glo 35) .nil))) (.cmp .eq (.tup (.cons (.fld (.var 0) "number") (.cons (.fld (.var 0) "powers") .nil))) (.tup (.cons (.fld (.var 1) "number") (.cons (.fld (.var 1) "powers") .nil))))))
    .nil)⟩
def r37 : DR := (["self", "other"], ⟨("Lead", some ("__eq__" : Str)), "__eq__", "Lead.__eq__", C8.fnArgs (meth 15 1), C8.fnBody (meth 15 1), C8.fnScope (meth 15 1), [], []⟩)
/-- Lead.__ne__ -/
def d38 : MDef := ⟨2, ["self", "other"], 2, (.cons (.ret (.not_ (.cmp .eq (.var 0) (.var 1))))
    .nil)⟩
def r38 : DR := (["self", "other"], ⟨("Lead", some ("__ne__" : Str)), "__ne__", "Lead.__ne__", C8.fnArgs (meth 15 2), C8.fnBody (meth 15 2), C8.fnScope (meth 15 2), [], []⟩)
/-- Model.__init__ -/
def d40 : MDef := ⟨4, ["self", "lets", "asks", "spots"], 4, (.cons (.setF (.var 0) "lets" (.call 0 (.cons (.var 1) .nil)))
    (.cons (.setF (.var 0) "asks" (.call 0 (.cons (.var 2) .nil)))
    (.cons (.setF (.var 0) "spots" (.call 0 (.cons (.var 3) .nil)))
    .nil)))⟩
def r40 : DR := (["self", "lets", "asks", "spots"], ⟨("Model", some ("__init__" : Str)), "__init__", "Model.__init__", C8.fnArgs (meth 17 0), C8.fnBody (meth 17 0), C8.fnScope (meth 17 0), [], []⟩)
/-- Model.__eq__ -/
def d41 : MDef := ⟨2, ["self", "other"], 2, (.cons (.ret (.and_ (.bi .isinst (.cons (.var 1) (.cons (.glo 39) .nil))) (.cmp .eq (.tup (.cons (.fld (.var 0) "lets") (.cons (.fld (.var 0) "asks") .nil))) (.tup (.cons (.fld (.var 1) "lets") (.cons (.fld (.var 1) "asks") .nil))))))
    .nil)⟩
def r41 : DR := (["self", "other"], ⟨("Model", some ("__eq__" : Str)), "__eq__", "Model.__eq__", C8.fnArgs (meth 17 1), C8.fnBody (meth 17 1), C8.fnScope (meth 17 1), [], []⟩)
/-- Model.__ne__ -/
def d42 : MDef := ⟨2, ["self", "other"], 2, (.cons (.ret (.not_ (.cmp .eq (.var 0) (.var 1))))
    .nil)⟩
def r42 : DR := (["self", "other"], ⟨("Model", some ("__ne__" : Str)), "__ne__", "Model.__ne__", C8.fnArgs (meth 17 2), C8.fnBody (meth 17 2), C8.fnScope (meth 17 2), [], []⟩)
/-- Paper.__init__ -/
def d44 : MDef := ⟨7, ["self", "field", "rows", "steps", "depth", "places", "root"], 7, (.cons (.setF (.var 0) "field" (.call 0 (.cons (.var 1) .nil)))
    (.cons (.setF (.var 0) "rows" (.call 0 (.cons (.var 2) .nil)))
    (.cons (.setF (.var 0) "steps" (.call 0 (.cons (.var 3) .nil)))
    (.cons (.setF (.var 0) "depth" (.call 0 (.cons (.var 4) .nil)))
    (.cons (.setF (.var 0) "places" (.call 0 (.cons (.var 5) .nil)))
    (.cons (.setF (.var 0) "root" (.call 0 (.cons (.var 6) .nil)))
    .nil))))))⟩
def r44 : DR := (["self", "field", "rows", "steps", "depth", "places", "root"], ⟨("Paper", some ("__init__" : Str)), "__init__", "Paper.__init__", C8.fnArgs (meth 19 0), C8.fnBody (meth 19 0), C8.fnScope (meth 19 0), [], []⟩)
/-- Paper.__eq__ -/
def d45 : MDef := ⟨2, ["self", "other"], 2, (.cons (.ret (.and_ (.bi .isinst (.cons (.var 1) (.cons (.glo 43) .nil))) (.cmp .eq (.call 47 (.cons (.var 0) .nil)) (.call 47 (.cons (.var 1) .nil)))))
    .nil)⟩
def r45 : DR := (["self", "other"], ⟨("Paper", some ("__eq__" : Str)), "__eq__", "Paper.__eq__", C8.fnArgs (meth 19 1), C8.fnBody (meth 19 1), C8.fnScope (meth 19 1), [], []⟩)
/-- Paper.__ne__ -/
def d46 : MDef := ⟨2, ["self", "other"], 2, (.cons (.ret (.not_ (.cmp .eq (.var 0) (.var 1))))
    .nil)⟩
def r46 : DR := (["self", "other"], ⟨("Paper", some ("__ne__" : Str)), "__ne__", "Paper.__ne__", C8.fnArgs (meth 19 2), C8.fnBody (meth 19 2), C8.fnScope (meth 19 2), [], []⟩)
/-- paper_key -/
def d47 : MDef := ⟨1, ["paper"], 1, (.cons (.ret (.tup (.cons (.fld (.var 0) "field") (.cons (.fld (.var 0) "rows") (.cons (.fld (.var 0) "steps") (.cons (.fld (.var 0) "depth") (.cons (.fld (.var 0) "places") (.cons (.fld (.var 0) "root") .nil))))))))
    .nil)⟩
def r47 : DR := (["paper"], ⟨("paper_key", none), "paper_key", "paper_key", C8.fnArgs (top 20), C8.fnBody (top 20), C8.fnScope (top 20), [], []⟩)
/-- _law_pen -/
def d48 : MDef := ⟨1, ["script"], 3, (.cons (.set 1 (.int 0))
    (.cons (.for_ (.name 2) (.seq (.var 0)) (.cons (.set 1 (.bop .mod (.bi .int (.cons (.bop .add (.bop .mul (.var 1) (.int 179)) (.var 2)) .nil)) (.int 999999223)))
    .nil))
    (.cons (.ret (.dct ["cells", "at", "digits", "count", "fold"] (.cons (.bi .list (.cons (.var 0) .nil)) (.cons (.int 0) (.cons (.int 0) (.cons (.int 0) (.cons (.var 1) .nil)))))))
    .nil)))⟩
def r48 : DR := (["script", "fold", "cell"], ⟨("_law_pen", none), "_law_pen", "_law_pen", C8.fnArgs (top 22), C8.fnBody (top 22), C8.fnScope (top 22), [], []⟩)
/-- _law_draw -/
def d49 : MDef := ⟨2, ["pen", "many"], 5, (.cons (.setI (.var 0) (.str "count") (.bop .add (.idx (.var 0) (.str "count")) (.int 1)))
    (.cons (.if_ (.and_ (.cmp .eq (.idx (.var 0) (.str "digits")) (.int 0)) (.cmp .lt (.idx (.var 0) (.str "at")) (.bi .len (.cons (.idx (.var 0) (.str "cells")) .nil)))) (.cons (.set 2 (.idx (.idx (.var 0) (.str "cells")) (.idx (.var 0) (.str "at"))))
    (.cons (.setI (.var 0) (.str "at") (.bop .add (.idx (.var 0) (.str "at")) (.int 1)))
    (.cons (.if_ (.cmp .ge (.var 2) (.bop .pow (.int 10) (.int 18))) (.cons (.setI (.var 0) (.str "digits") (.bop .sub (.var 2) (.bop .pow (.int 10) (.int 18))))
    .nil) (.cons (.setI (.var 0) (.str "fold") (.bop .mod (.bi .int (.cons (.bop .add (.bop .mul (.idx (.var 0) (.str "fold")) (.int 23003)) (.var 2)) .nil)) (.int 2147483059)))
    .nil))
    .nil))) .nil)
    (.cons (.if_ (.cmp .gt (.idx (.var 0) (.str "digits")) (.int 0)) (.cons (.set 3 (.bop .mod (.bi .int (.cons (.idx (.var 0) (.str "digits")) .nil)) (.var 1)))
    (.cons (.setI (.var 0) (.str "digits") (.bop .fdiv (.idx (.var 0) (.str "digits")) (.var 1)))
    (.cons (.ret (.var 3))
    .nil))) .nil)
    (.cons (.set 4 (.bop .add (.bop .add (.idx (.var 0) (.str "fold")) (.bop .mul (.idx (.var 0) (.str "count")) (.int 4903))) (.int 167)))
    (.cons (.ret (.bop .mod (.bop .fdiv (.bi .int (.cons (.bop .mod (.bop .pow (.var 4) (.int 59)) (.int 2305843009213693951)) .nil)) (.int 128)) (.var 1)))
    .nil)))))⟩
def r49 : DR := (["pen", "many", "cell", "digit", "blend"], ⟨("_law_draw", none), "_law_draw", "_law_draw", C8.fnArgs (top 23), C8.fnBody (top 23), C8.fnScope (top 23), [], []⟩)
/-- _law_pick -/
def d50 : MDef := ⟨2, ["pen", "some"], 2, (.cons (.ret (.idx (.var 1) (.call 49 (.cons (.var 0) (.cons (.bi .len (.cons (.var 1) .nil)) .nil)))))
    .nil)⟩
def r50 : DR := (["pen", "some"], ⟨("_law_pick", none), "_law_pick", "_law_pick", C8.fnArgs (top 24), C8.fnBody (top 24), C8.fnScope (top 24), [], []⟩)
/-- _law_value -/
def d51 : MDef := ⟨1, ["pen"], 3, (.cons (.set 1 (.lst (.cons (.tup (.cons (.int 1) (.cons (.int 2) .nil))) (.cons (.lst (.cons (.int 1) (.cons (.lst (.cons (.int 2) .nil)) .nil))) (.cons (.lst .nil) (.cons (.tup .nil) (.cons (.str "web") (.cons (.int 5) (.cons .non (.cons (.bl true) (.cons (.tup (.cons (.tup (.cons (.int 0) (.cons (.int 1) .nil))) .nil)) (.cons (.lst (.cons (.lst (.cons (.int 0) .nil)) (.cons (.lst (.cons (.int 1) .nil)) .nil))) (.cons (.dct ["a"] (.cons (.int 1) .nil)) (.cons (.neg (.int 3)) (.cons (.str "") (.cons (.lst (.cons .non .nil)) .nil))))))))))))))))
    (.cons (.ret (.call 50 (.cons (.var 0) (.cons (.bop .add (.var 1) (.lst (.cons (.comp (.name 2) (.range (.int 3)) (.call 49 (.cons (.var 0) (.cons (.int 9) .nil))) [2]) .nil))) .nil))))
    .nil))⟩
def r51 : DR := (["pen", "some", "k"], ⟨("_law_value", none), "_law_value", "_law_value", C8.fnArgs (top 25), C8.fnBody (top 25), C8.fnScope (top 25), [], []⟩)
/-- _law_copy -/
def d52 : MDef := ⟨1, ["value"], 1, (.cons (.ret (.ite (.bi .isinst (.cons (.var 0) (.cons (.ty "list") .nil))) (.bi .tuple (.cons (.var 0) .nil)) (.var 0)))
    .nil)⟩
def r52 : DR := (["value"], ⟨("_law_copy", none), "_law_copy", "_law_copy", C8.fnArgs (top 26), C8.fnBody (top 26), C8.fnScope (top 26), [], []⟩)
/-- _law_fields -/
def d53 : MDef := ⟨1, ["one"], 1, (.cons (.if_ (.bi .isinst (.cons (.var 0) (.cons (.glo 1) .nil))) (.cons (.ret (.lst (.cons (.str "Stops") (.cons (.fld (.var 0) "line") (.cons (.fld (.var 0) "column") (.cons (.fld (.var 0) "what") .nil))))))
    .nil) .nil)
    (.cons (.if_ (.bi .isinst (.cons (.var 0) (.cons (.glo 5) .nil))) (.cons (.ret (.lst (.cons (.str "Limit") (.cons (.fld (.var 0) "ratio") .nil))))
    .nil) .nil)
    (.cons (.if_ (.bi .isinst (.cons (.var 0) (.cons (.glo 9) .nil))) (.cons (.ret (.lst (.cons (.str "Infinite") (.cons (.fld (.var 0) "sign") .nil))))
    .nil) .nil)
    (.cons (.if_ (.bi .isinst (.cons (.var 0) (.cons (.glo 13) .nil))) (.cons (.ret (.lst (.cons (.str "Sign") (.cons (.fld (.var 0) "number") .nil))))
    .nil) .nil)
    (.cons (.if_ (.bi .isinst (.cons (.var 0) (.cons (.glo 17) .nil))) (.cons (.ret (.lst (.cons (.str "Order") (.cons (.fld (.var 0) "word") (.cons (.fld (.var 0) "ratio") .nil)))))
    .nil) .nil)
    (.cons (.if_ (.bi .isinst (.cons (.var 0) (.cons (.glo 21) .nil))) (.cons (.ret (.lst (.cons (.str "Expansion") (.cons (.fld (.var 0) "row") .nil))))
    .nil) .nil)
    (.cons (.if_ (.bi .isinst (.cons (.var 0) (.cons (.glo 25) .nil))) (.cons (.ret (.lst (.cons (.str "Letter") (.cons (.fld (.var 0) "kind") (.cons (.fld (.var 0) "log") (.cons (.fld (.var 0) "unit") (.cons (.fld (.var 0) "home") .nil)))))))
    .nil) .nil)
    (.cons (.if_ (.bi .isinst (.cons (.var 0) (.cons (.glo 29) .nil))) (.cons (.ret (.lst (.cons (.str "Field") (.cons (.fld (.var 0) "letters") (.cons (.fld (.var 0) "order") (.cons (.fld (.var 0) "x") .nil))))))
    .nil) .nil)
    (.cons (.if_ (.bi .isinst (.cons (.var 0) (.cons (.glo 35) .nil))) (.cons (.ret (.lst (.cons (.str "Lead") (.cons (.fld (.var 0) "number") (.cons (.fld (.var 0) "powers") .nil)))))
    .nil) .nil)
    (.cons (.if_ (.bi .isinst (.cons (.var 0) (.cons (.glo 39) .nil))) (.cons (.ret (.lst (.cons (.str "Model") (.cons (.fld (.var 0) "lets") (.cons (.fld (.var 0) "asks") (.cons (.fld (.var 0) "spots") .nil))))))
    .nil) .nil)
    (.cons (.if_ (.bi .isinst (.cons (.var 0) (.cons (.glo 43) .nil))) (.cons (.ret (.lst (.cons (.str "Paper") (.cons (.fld (.var 0) "field") (.cons (.fld (.var 0) "rows") (.cons (.fld (.var 0) "steps") (.cons (.fld (.var 0) "depth") (.cons (.fld (.var 0) "places") (.cons (.fld (.var 0) "root") .nil)))))))))
    .nil) .nil)
    (.cons (.ret (.lst (.cons (.str "other") .nil)))
    .nil))))))))))))⟩
def r53 : DR := (["one"], ⟨("_law_fields", none), "_law_fields", "_law_fields", C8.fnArgs (top 27), C8.fnBody (top 27), C8.fnScope (top 27), [], []⟩)
/-- _law_rows -/
def d54 : MDef := ⟨4, ["a", "b", "c", "d"], 9, (.cons (.unp [4, 5, 6, 7] (.tup (.cons (.call 52 (.cons (.var 0) .nil)) (.cons (.call 52 (.cons (.var 1) .nil)) (.cons (.call 52 (.cons (.var 2) .nil)) (.cons (.call 52 (.cons (.var 3) .nil)) .nil))))))
    (.cons (.set 8 (.lst (.cons (.tup (.cons (.call 1 (.cons (.var 0) (.cons (.var 1) (.cons (.var 2) .nil)))) (.cons (.callk 1 .nil ["what", "column", "line"] (.cons (.var 2) (.cons (.var 1) (.cons (.var 0) .nil)))) (.cons (.lst (.cons (.str "Stops") (.cons (.var 4) (.cons (.var 5) (.cons (.var 6) .nil))))) .nil)))) (.cons (.tup (.cons (.call 5 (.cons (.var 0) .nil)) (.cons (.callk 5 .nil ["ratio"] (.cons (.var 0) .nil)) (.cons (.lst (.cons (.str "Limit") (.cons (.var 4) .nil))) .nil)))) .nil))))
    (.cons (.set 8 (.bop .add (.var 8) (.lst (.cons (.tup (.cons (.call 9 (.cons (.var 1) .nil)) (.cons (.callk 9 .nil ["sign"] (.cons (.var 1) .nil)) (.cons (.lst (.cons (.str "Infinite") (.cons (.var 5) .nil))) .nil)))) (.cons (.tup (.cons (.call 13 (.cons (.var 2) .nil)) (.cons (.callk 13 .nil ["number"] (.cons (.var 2) .nil)) (.cons (.lst (.cons (.str "Sign") (.cons (.var 6) .nil))) .nil)))) .nil)))))
    (.cons (.set 8 (.bop .add (.var 8) (.lst (.cons (.tup (.cons (.call 17 (.cons (.var 0) (.cons (.var 3) .nil))) (.cons (.callk 17 .nil ["ratio", "word"] (.cons (.var 3) (.cons (.var 0) .nil))) (.cons (.lst (.cons (.str "Order") (.cons (.var 4) (.cons (.var 7) .nil)))) .nil)))) (.cons (.tup (.cons (.call 21 (.cons (.var 1) .nil)) (.cons (.callk 21 .nil ["row"] (.cons (.var 1) .nil)) (.cons (.lst (.cons (.str "Expansion") (.cons (.var 5) .nil))) .nil)))) .nil)))))
    (.cons (.ex (.met .append (.var 8) (.cons (.tup (.cons (.call 25 (.cons (.var 0) (.cons (.var 1) (.cons (.var 2) (.cons (.var 3) .nil))))) (.cons (.callk 25 .nil ["home", "unit", "log", "kind"] (.cons (.var 3) (.cons (.var 2) (.cons (.var 1) (.cons (.var 0) .nil))))) (.cons (.lst (.cons (.str "Letter") (.cons (.var 4) (.cons (.var 5) (.cons (.var 6) (.cons (.var 7) .nil)))))) .nil)))) .nil)))
    (.cons (.ex (.met .append (.var 8) (.cons (.tup (.cons (.call 29 (.cons (.var 0) (.cons (.var 1) (.cons (.var 2) .nil)))) (.cons (.callk 29 .nil ["x", "order", "letters"] (.cons (.var 2) (.cons (.var 1) (.cons (.var 0) .nil)))) (.cons (.lst (.cons (.str "Field") (.cons (.var 4) (.cons (.var 5) (.cons (.var 6) .nil))))) .nil)))) .nil)))
    (.cons (.ex (.met .append (.var 8) (.cons (.tup (.cons (.call 35 (.cons (.var 2) (.cons (.var 3) .nil))) (.cons (.callk 35 .nil ["powers", "number"] (.cons (.var 3) (.cons (.var 2) .nil))) (.cons (.lst (.cons (.str "Lead") (.cons (.var 6) (.cons (.var 7) .nil)))) .nil)))) .nil)))
    (.cons (.ex (.met .append (.var 8) (.cons (.tup (.cons (.call 39 (.cons (.var 0) (.cons (.var 1) (.cons (.var 2) .nil)))) (.cons (.callk 39 .nil ["spots", "asks", "lets"] (.cons (.var 2) (.cons (.var 1) (.cons (.var 0) .nil)))) (.cons (.lst (.cons (.str "Model") (.cons (.var 4) (.cons (.var 5) (.cons (.var 6) .nil))))) .nil)))) .nil)))
    (.cons (.ex (.met .append (.var 8) (.cons (.tup (.cons (.call 43 (.cons (.var 0) (.cons (.var 1) (.cons (.var 2) (.cons (.var 3) (.cons (.var 0) (.cons (.var 1) .nil))))))) (.cons (.callk 43 .nil ["root", "places", "depth", "steps", "rows", "field"] (.cons (.var 1) (.cons (.var 0) (.cons (.var 3) (.cons (.var 2) (.cons (.var 1) (.cons (.var 0) .nil))))))) (.cons (.lst (.cons (.str "Paper") (.cons (.var 4) (.cons (.var 5) (.cons (.var 6) (.cons (.var 7) (.cons (.var 4) (.cons (.var 5) .nil)))))))) .nil)))) .nil)))
    (.cons (.ret (.var 8))
    .nil))))))))))⟩
def r54 : DR := (["a", "b", "c", "d", "e", "f", "g", "h", "rows"], ⟨("_law_rows", none), "_law_rows", "_law_rows", C8.fnArgs (top 28), C8.fnBody (top 28), C8.fnScope (top 28), [], []⟩)
/-- _law_unlike -/
def d55 : MDef := ⟨0, [], 1, (.cons (.set 0 (.lst .nil))
    (.cons (.set 0 (.bop .add (.var 0) (.lst (.cons (.tup (.cons (.call 43 (.cons (.int 1) (.cons (.int 2) (.cons (.int 3) (.cons (.int 4) (.cons (.int 5) (.cons (.int 6) .nil))))))) (.cons (.call 43 (.cons (.int 0) (.cons (.int 2) (.cons (.int 3) (.cons (.int 4) (.cons (.int 5) (.cons (.int 6) .nil))))))) .nil))) (.cons (.tup (.cons (.call 43 (.cons (.int 1) (.cons (.int 2) (.cons (.int 3) (.cons (.int 4) (.cons (.int 5) (.cons (.int 6) .nil))))))) (.cons (.call 43 (.cons (.int 1) (.cons (.int 0) (.cons (.int 3) (.cons (.int 4) (.cons (.int 5) (.cons (.int 6) .nil))))))) .nil))) .nil)))))
    (.cons (.set 0 (.bop .add (.var 0) (.lst (.cons (.tup (.cons (.call 43 (.cons (.int 1) (.cons (.int 2) (.cons (.int 3) (.cons (.int 4) (.cons (.int 5) (.cons (.int 6) .nil))))))) (.cons (.call 43 (.cons (.int 1) (.cons (.int 2) (.cons (.int 0) (.cons (.int 4) (.cons (.int 5) (.cons (.int 6) .nil))))))) .nil))) (.cons (.tup (.cons (.call 43 (.cons (.int 1) (.cons (.int 2) (.cons (.int 3) (.cons (.int 4) (.cons (.int 5) (.cons (.int 6) .nil))))))) (.cons (.call 43 (.cons (.int 1) (.cons (.int 2) (.cons (.int 3) (.cons (.int 0) (.cons (.int 5) (.cons (.int 6) .nil))))))) .nil))) .nil)))))
    (.cons (.set 0 (.bop .add (.var 0) (.lst (.cons (.tup (.cons (.call 43 (.cons (.int 1) (.cons (.int 2) (.cons (.int 3) (.cons (.int 4) (.cons (.int 5) (.cons (.int 6) .nil))))))) (.cons (.call 43 (.cons (.int 1) (.cons (.int 2) (.cons (.int 3) (.cons (.int 4) (.cons (.int 0) (.cons (.int 6) .nil))))))) .nil))) (.cons (.tup (.cons (.call 43 (.cons (.int 1) (.cons (.int 2) (.cons (.int 3) (.cons (.int 4) (.cons (.int 5) (.cons (.int 6) .nil))))))) (.cons (.call 43 (.cons (.int 1) (.cons (.int 2) (.cons (.int 3) (.cons (.int 4) (.cons (.int 5) (.cons (.int 0) .nil))))))) .nil))) .nil)))))
    (.cons (.set 0 (.bop .add (.var 0) (.lst (.cons (.tup (.cons (.call 25 (.cons (.int 1) (.cons (.int 2) (.cons (.int 3) (.cons (.int 4) .nil))))) (.cons (.call 25 (.cons (.int 0) (.cons (.int 2) (.cons (.int 3) (.cons (.int 4) .nil))))) .nil))) (.cons (.tup (.cons (.call 25 (.cons (.int 1) (.cons (.int 2) (.cons (.int 3) (.cons (.int 4) .nil))))) (.cons (.call 25 (.cons (.int 1) (.cons (.int 0) (.cons (.int 3) (.cons (.int 4) .nil))))) .nil))) (.cons (.tup (.cons (.call 25 (.cons (.int 1) (.cons (.int 2) (.cons (.int 3) (.cons (.int 4) .nil))))) (.cons (.call 25 (.cons (.int 1) (.cons (.int 2) (.cons (.int 0) (.cons (.int 4) .nil))))) .nil))) .nil))))))
    (.cons (.set 0 (.bop .add (.var 0) (.lst (.cons (.tup (.cons (.call 25 (.cons (.int 1) (.cons (.int 2) (.cons (.int 3) (.cons (.int 4) .nil))))) (.cons (.call 25 (.cons (.int 1) (.cons (.int 2) (.cons (.int 3) (.cons (.int 0) .nil))))) .nil))) .nil))))
    (.cons (.set 0 (.bop .add (.var 0) (.lst (.cons (.tup (.cons (.call 29 (.cons (.int 1) (.cons (.int 2) (.cons (.int 3) .nil)))) (.cons (.call 29 (.cons (.int 0) (.cons (.int 2) (.cons (.int 3) .nil)))) .nil))) (.cons (.tup (.cons (.call 29 (.cons (.int 1) (.cons (.int 2) (.cons (.int 3) .nil)))) (.cons (.call 29 (.cons (.int 1) (.cons (.int 0) (.cons (.int 3) .nil)))) .nil))) (.cons (.tup (.cons (.call 29 (.cons (.int 1) (.cons (.int 2) (.cons (.int 3) .nil)))) (.cons (.call 29 (.cons (.int 1) (.cons (.int 2) (.cons (.int 0) .nil)))) .nil))) .nil))))))
    (.cons (.set 0 (.bop .add (.var 0) (.lst (.cons (.tup (.cons (.call 35 (.cons (.int 1) (.cons (.int 2) .nil))) (.cons (.call 35 (.cons (.int 0) (.cons (.int 2) .nil))) .nil))) (.cons (.tup (.cons (.call 35 (.cons (.int 1) (.cons (.int 2) .nil))) (.cons (.call 35 (.cons (.int 1) (.cons (.int 0) .nil))) .nil))) .nil)))))
    (.cons (.set 0 (.bop .add (.var 0) (.lst (.cons (.tup (.cons (.call 1 (.cons (.int 1) (.cons (.int 2) (.cons (.int 3) .nil)))) (.cons (.call 1 (.cons (.int 0) (.cons (.int 2) (.cons (.int 3) .nil)))) .nil))) (.cons (.tup (.cons (.call 1 (.cons (.int 1) (.cons (.int 2) (.cons (.int 3) .nil)))) (.cons (.call 1 (.cons (.int 1) (.cons (.int 0) (.cons (.int 3) .nil)))) .nil))) (.cons (.tup (.cons (.call 1 (.cons (.int 1) (.cons (.int 2) (.cons (.int 3) .nil)))) (.cons (.call 1 (.cons (.int 1) (.cons (.int 2) (.cons (.int 0) .nil)))) .nil))) .nil))))))
    (.cons (.set 0 (.bop .add (.var 0) (.lst (.cons (.tup (.cons (.call 17 (.cons (.int 1) (.cons (.int 2) .nil))) (.cons (.call 17 (.cons (.int 0) (.cons (.int 2) .nil))) .nil))) (.cons (.tup (.cons (.call 17 (.cons (.int 1) (.cons (.int 2) .nil))) (.cons (.call 17 (.cons (.int 1) (.cons (.int 0) .nil))) .nil))) .nil)))))
    (.cons (.ret (.var 0))
    .nil)))))))))))⟩
def r55 : DR := (["rows"], ⟨("_law_unlike", none), "_law_unlike", "_law_unlike", C8.fnArgs (top 29), C8.fnBody (top 29), C8.fnScope (top 29), [], []⟩)
/-- law -/
def d56 : MDef := ⟨1, ["script"], 15, (.cons (.set 1 (.call 48 (.cons (.var 0) .nil)))
    (.cons (.set 2 (.comp (.name 11) (.range (.int 4)) (.call 51 (.cons (.var 1) .nil)) [11]))
    (.cons (.unp [3, 4, 5, 6] (.comp (.name 14) (.seq (.var 2)) (.ite (.bi .isinst (.cons (.var 14) (.cons (.ty "list") .nil))) (.bi .list (.cons (.var 14) .nil)) (.var 14)) [14]))
    (.cons (.set 7 (.call 54 (.cons (.var 3) (.cons (.var 4) (.cons (.var 5) (.cons (.var 6) .nil))))))
    (.cons (.for_ (.tup [8, 9, 10]) (.seq (.var 7)) (.cons (.if_ (.or_ (.cmp .ne (.bi .repr (.cons (.call 53 (.cons (.var 8) .nil)) .nil)) (.bi .repr (.cons (.var 10) .nil))) (.or_ (.cmp .ne (.bi .repr (.cons (.call 53 (.cons (.var 9) .nil)) .nil)) (.bi .repr (.cons (.var 10) .nil))) (.or_ (.cmp .ne (.var 8) (.var 9)) (.not_ (.cmp .eq (.var 8) (.var 9)))))) (.cons (.ret (.bl false))
    .nil) .nil)
    .nil))
    (.cons (.for_ (.name 11) (.range (.bi .len (.cons (.var 7) .nil))) (.cons (.set 12 (.idx (.idx (.var 7) (.bop .mod (.bi .int (.cons (.bop .add (.bop .add (.var 11) (.int 1)) (.call 49 (.cons (.var 1) (.cons (.bop .sub (.bi .len (.cons (.var 7) .nil)) (.int 1)) .nil)))) .nil)) (.bi .len (.cons (.var 7) .nil)))) (.int 0)))
    (.cons (.if_ (.or_ (.cmp .eq (.idx (.idx (.var 7) (.var 11)) (.int 0)) (.var 12)) (.not_ (.cmp .ne (.idx (.idx (.var 7) (.var 11)) (.int 0)) (.var 12)))) (.cons (.ret (.bl false))
    .nil) .nil)
    .nil)))
    (.cons (.if_ (.or_ (.cmp .eq (.call 1 (.cons (.int 1) (.cons (.int 2) (.cons (.str "a") .nil)))) (.call 1 (.cons (.int 1) (.cons (.int 3) (.cons (.str "a") .nil))))) (.or_ (.cmp .eq (.call 5 (.cons (.int 1) .nil)) (.call 5 (.cons (.int 2) .nil))) (.or_ (.cmp .eq (.call 9 (.cons (.int 1) .nil)) (.call 9 (.cons (.neg (.int 1)) .nil))) (.cmp .eq (.call 13 (.cons (.int 0) .nil)) (.call 13 (.cons (.int 1) .nil)))))) (.cons (.ret (.bl false))
    .nil) .nil)
    (.cons (.if_ (.or_ (.cmp .eq (.call 17 (.cons (.str "a") (.cons (.int 1) .nil))) (.call 17 (.cons (.str "a") (.cons (.int 2) .nil)))) (.or_ (.cmp .eq (.call 21 (.cons (.tup .nil) .nil)) (.call 21 (.cons (.tup (.cons (.int 1) .nil)) .nil))) (.or_ (.cmp .eq (.call 35 (.cons (.int 1) (.cons (.tup .nil) .nil))) (.call 35 (.cons (.int 1) (.cons (.tup (.cons (.int 1) .nil)) .nil)))) (.cmp .eq (.call 39 (.cons (.tup .nil) (.cons (.tup .nil) (.cons (.tup .nil) .nil)))) (.call 39 (.cons (.tup .nil) (.cons (.tup (.cons (.int 1) .nil)) (.cons (.tup .nil) .nil)))))))) (.cons (.ret (.bl false))
    .nil) .nil)
    (.cons (.if_ (.bi .any (.cons (.comp (.tup [8, 9]) (.seq (.call 55 .nil)) (.or_ (.cmp .eq (.var 8) (.var 9)) (.not_ (.cmp .ne (.var 8) (.var 9)))) [8, 9]) .nil)) (.cons (.ret (.bl false))
    .nil) .nil)
    (.cons (.set 13 (.bi .repr (.cons (.fld (.idx (.idx (.var 7) (.int 1)) (.int 0)) "ratio") .nil)))
    (.cons (.if_ (.bi .isinst (.cons (.var 3) (.cons (.ty "list") .nil))) (.cons (.ex (.met .append (.var 3) (.cons (.int 7) .nil)))
    .nil) .nil)
    (.cons (.ret (.cmp .eq (.bi .repr (.cons (.fld (.idx (.idx (.var 7) (.int 1)) (.int 0)) "ratio") .nil)) (.var 13)))
    .nil))))))))))))⟩
def r56 : DR := (["script", "pen", "values", "a", "b", "c", "d", "rows", "one", "two", "due", "k", "other", "before", "value"], ⟨("law", none), "law", "law", C8.fnArgs (top 30), C8.fnBody (top 30), C8.fnScope (top 30), [], []⟩)
def ats : List (Str × Option Str) := [(("copied" : Str), none), (("Stops" : Str), none), (("Stops" : Str), some ("__init__" : Str)), (("Stops" : Str), some ("__eq__" : Str)), (("Stops" : Str), some ("__ne__" : Str)), (("Limit" : Str), none), (("Limit" : Str), some ("__init__" : Str)), (("Limit" : Str), some ("__eq__" : Str)), (("Limit" : Str), some ("__ne__" : Str)), (("Infinite" : Str), none), (("Infinite" : Str), some ("__init__" : Str)), (("Infinite" : Str), some ("__eq__" : Str)), (("Infinite" : Str), some ("__ne__" : Str)), (("Sign" : Str), none), (("Sign" : Str), some ("__init__" : Str)), (("Sign" : Str), some ("__eq__" : Str)), (("Sign" : Str), some ("__ne__" : Str)), (("Order" : Str), none), (("Order" : Str), some ("__init__" : Str)), (("Order" : Str), some ("__eq__" : Str)), (("Order" : Str), some ("__ne__" : Str)), (("Expansion" : Str), none), (("Expansion" : Str), some ("__init__" : Str)), (("Expansion" : Str), some ("__eq__" : Str)), (("Expansion" : Str), some ("__ne__" : Str)), (("Letter" : Str), none), (("Letter" : Str), some ("__init__" : Str)), (("Letter" : Str), some ("__eq__" : Str)), (("Letter" : Str), some ("__ne__" : Str)), (("Field" : Str), none), (("Field" : Str), some ("__init__" : Str)), (("Field" : Str), some ("__eq__" : Str)), (("Field" : Str), some ("__ne__" : Str)), (("letter_parts" : Str), none), (("field_parts" : Str), none), (("Lead" : Str), none), (("Lead" : Str), some ("__init__" : Str)), (("Lead" : Str), some ("__eq__" : Str)), (("Lead" : Str), some ("__ne__" : Str)), (("Model" : Str), none), (("Model" : Str), some ("__init__" : Str)), (("Model" : Str), some ("__eq__" : Str)), (("Model" : Str), some ("__ne__" : Str)), (("Paper" : Str), none), (("Paper" : Str), some ("__init__" : Str)), (("Paper" : Str), some ("__eq__" : Str)), (("Paper" : Str), some ("__ne__" : Str)), (("paper_key" : Str), none), (("_law_pen" : Str), none), (("_law_draw" : Str), none), (("_law_pick" : Str), none), (("_law_value" : Str), none), (("_law_copy" : Str), none), (("_law_fields" : Str), none), (("_law_rows" : Str), none), (("_law_unlike" : Str), none), (("law" : Str), none)]
def gs : List MG := [.def_ d0, .cls ⟨2, some 3, some 4⟩, .def_ d2, .def_ d3, .def_ d4, .cls ⟨6, some 7, some 8⟩, .def_ d6, .def_ d7, .def_ d8, .cls ⟨10, some 11, some 12⟩, .def_ d10, .def_ d11, .def_ d12, .cls ⟨14, some 15, some 16⟩, .def_ d14, .def_ d15, .def_ d16, .cls ⟨18, some 19, some 20⟩, .def_ d18, .def_ d19, .def_ d20, .cls ⟨22, some 23, some 24⟩, .def_ d22, .def_ d23, .def_ d24, .cls ⟨26, some 27, some 28⟩, .def_ d26, .def_ d27, .def_ d28, .cls ⟨30, some 31, some 32⟩, .def_ d30, .def_ d31, .def_ d32, .def_ d33, .def_ d34, .cls ⟨36, some 37, some 38⟩, .def_ d36, .def_ d37, .def_ d38, .cls ⟨40, some 41, some 42⟩, .def_ d40, .def_ d41, .def_ d42, .cls ⟨44, some 45, some 46⟩, .def_ d44, .def_ d45, .def_ d46, .def_ d47, .def_ d48, .def_ d49, .def_ d50, .def_ d51, .def_ d52, .def_ d53, .def_ d54, .def_ d55, .def_ d56]
def p : Pg := ⟨ats, gs, ["what", "column", "line", "ratio", "sign", "number", "word", "row", "home", "unit", "log", "kind", "x", "order", "letters", "powers", "spots", "asks", "lets", "root", "places", "depth", "steps", "rows", "field"], false⟩
def ds : List (Option DR) := [some r0, none, some r2, some r3, some r4, none, some r6, some r7, some r8, none, some r10, some r11, some r12, none, some r14, some r15, some r16, none, some r18, some r19, some r20, none, some r22, some r23, some r24, none, some r26, some r27, some r28, none, some r30, some r31, some r32, some r33, some r34, none, some r36, some r37, some r38, none, some r40, some r41, some r42, none, some r44, some r45, some r46, some r47, some r48, some r49, some r50, some r51, some r52, some r53, some r54, some r55, some r56]
def loose0 : List Str := ["copied", "Stops", "Limit", "Infinite", "Sign", "Order", "Expansion", "Letter", "Field", "letter_parts", "field_parts", "Lead", "Model", "Paper", "paper_key", "_law_pen", "_law_draw", "_law_pick", "_law_value", "_law_copy", "_law_fields", "_law_rows", "_law_unlike"]
def loose : List Str := loose0
theorem sd : defsB p ds = true := by kernel_rfl
theorem st : p.staticB = true := by kernel_rfl
end Mini.K90
set_option autoImplicit false
set_option maxHeartbeats 4000000
namespace Mini
open PySem L2
/-! ### heaps that grow -/
def Pre (h h' : AH) : Prop := ∃ l, h' = h ++ l
theorem Pre.refl (h : AH) : Pre h h := ⟨[], by simp⟩
theorem Pre.trans {a b c : AH} (x : Pre a b) (y : Pre b c) : Pre a c := by
  obtain ⟨l, rfl⟩ := x
  obtain ⟨m, rfl⟩ := y
  exact ⟨l ++ m, by simp⟩
theorem Pre.app (h l : AH) : Pre h (h ++ l) := ⟨l, rfl⟩
theorem Pre.get {h h' : AH} {k : Nat} {o : AO} (p : Pre h h') (e : h[k]? = some o) : h'[k]? = some o := by
  obtain ⟨l, rfl⟩ := p
  have hk : k < h.length := (List.getElem?_eq_some_iff.mp e).1
  rw [List.getElem?_append_left hk]; exact e
theorem Pre.len {h h' : AH} (p : Pre h h') : h.length ≤ h'.length := by
  obtain ⟨l, rfl⟩ := p
  simp
theorem get_new (h : AH) (o : AO) : (h ++ [o])[h.length]? = some o := by simp
theorem set_new (h : AH) (o u : AO) : (h ++ [o]).set h.length u = h ++ [u] := by rw [List.set_append_right _ _ (Nat.le_refl _)]; simp
theorem set_same {h : AH} {k : Nat} {o : AO} (e : h[k]? = some o) : h.set k o = h := by
  refine List.ext_getElem? fun j => ?_
  by_cases q : k = j
  · subst q
    rw [List.getElem?_set_self (List.getElem?_eq_some_iff.mp e).1, e]
  · rw [List.getElem?_set_ne q]
theorem lt_of {h : AH} {k : Nat} {o : AO} (e : h[k]? = some o) : k < h.length := (List.getElem?_eq_some_iff.mp e).1
/-- v, copied, is c -/
inductive VOk (h : AH) : AV → AV → Prop
  | lst {k : Nat} {xs : List AV} : h[k]? = some (.lst xs) → VOk h (.ref k) (.tup xs)
  | val {v : AV} {t : String} : tdOf h v = some (.b t) → t ≠ "list" → tnames.contains t = true → VOk h v v
theorem tdOf_pre {h h' : AH} {v : AV} {t : TD} (p : Pre h h') (e : tdOf h v = some t) : tdOf h' v = some t := by
  cases v with
  | ref k =>
    unfold tdOf at e ⊢
    dsimp only at e ⊢
    cases q : h[k]? with
    | none => rw [q] at e; cases e
    | some o => rw [q] at e; rw [p.get q]; exact e
  | _ => exact e
theorem VOk.pre {h h' : AH} {v c : AV} (p : Pre h h') (e : VOk h v c) : VOk h' v c := by
  cases e with
  | lst z => exact .lst (p.get z)
  | val a b d => exact .val (tdOf_pre p a) b d
/-- an instance, or a list that is not looked at, is stored anew -/
theorem VOk.ins {h : AH} {v c : AV} {k g : Nat} {fs fs' : List (Str × AV)} (z : h[k]? = some (.ins g fs)) (e : VOk h v c) : VOk (h.set k (.ins g fs')) v c := by
  have ne : ∀ {j : Nat} {o : AO}, h[j]? = some o → (∀ a b, o ≠ .ins a b) → (h.set k (.ins g fs'))[j]? = some o := fun {j o} a b => by
    have : k ≠ j := fun q => by subst q; rw [z] at a; cases a; exact b _ _ rfl
    rw [List.getElem?_set_ne this]; exact a
  cases e with
  | lst a => exact .lst (ne a fun _ _ q => by cases q)
  | val a b d =>
    refine .val ?_ b d
    cases v with
    | ref j =>
      unfold tdOf at a ⊢
      dsimp only at a ⊢
      cases q : h[j]? with
      | none => rw [q] at a; cases a
      | some o =>
        rw [q] at a
        cases o with
        | ins _ _ => cases a
        | _ => rw [ne q fun _ _ w => by cases w]; exact a
    | _ => exact a
namespace K90
abbrev P : Prog := p.Pr
theorem isList {h : AH} {k : Nat} {xs : List AV} (z : h[k]? = some (.lst xs)) : isInst1 P h (.ref k) (.ty "list") = some true := by
  unfold isInst1 tdOf
  dsimp only
  rw [z]
  rfl
theorem notList {h : AH} {v : AV} {t : String} (a : tdOf h v = some (.b t)) (b : t ≠ "list") (d : tnames.contains t = true) : isInst1 P h v (.ty "list") = some false := by
  unfold isInst1
  rw [a]
  show isTD P (.b t) (.b "list") = _
  unfold isTD
  dsimp only
  rw [if_pos (by rw [d]; rfl)]
  unfold isTy
  simp [b]
theorem seq_lst {h : AH} {k : Nat} {xs : List AV} (z : h[k]? = some (.lst xs)) : seqOf h (.ref k) = some xs := by unfold seqOf; dsimp only; rw [z]
/-- the body of copied, of _law_copy -/
theorem copy_body {cal : Nat → List AV → AH → R AV} {h : AH} {v c : AV} (e : VOk h v c) : evSs P cal d0.body [some v] h = .rt c h := by
  cases e with
  | lst z => simp [d0, evSs, evS, evE, evEs, getS, R.bind, R.stm, R.of, biA, biIsinst, isList z, kIte, biTuple, seq_lst z, kSeqS]
  | val a b d => simp [d0, evSs, evS, evE, evEs, getS, R.bind, R.stm, R.of, biA, biIsinst, notList a b d, kIte, kSeqS]
end K90
def fin : RS → R AV
  | .nx _ h => .ok .non h
  | .rt v h => .ok v h
  | .exc c fs _ h => .exc c fs h
  | _ => .bad
theorem calA_def {P : Prog} {g n : Nat} {d : MDef} {vs : List AV} {h : AH} (e : P g = some (.def_ d)) (l : vs.length = d.np) : calA P (n + 1) g vs h = fin (evSs P (calA P n) d.body (vs.map some ++ List.replicate (d.ns - d.np) none) h) := by
  unfold calA
  rw [e]
  dsimp only
  rw [if_pos l]
  unfold fin
  cases evSs P (calA P n) d.body (vs.map some ++ List.replicate (d.ns - d.np) none) h <;> rfl
theorem callP_def {P : Prog} {cal : Nat → List AV → AH → R AV} {g : Nat} {d : MDef} {vs : List AV} {h : AH} (e : P g = some (.def_ d)) (l : vs.length = d.params.length) : callP P cal g vs h = cal g vs h := by
  unfold callP paramsOf callG
  rw [e]
  dsimp only
  rw [if_pos l]
/-! ### __init__ that copies its arguments into fields -/
def initB : Nat → List Str → MSs
  | _, [] => .nil
  | i, f :: fs => .cons (.setF (.var 0) f (.call 0 (.cons (.var i) .nil))) (initB (i + 1) fs)
def mkInit (fs : List Str) : MDef := ⟨fs.length + 1, "self" :: fs, fs.length + 1, initB 1 fs⟩
theorem putFA_new {f : Str} {c : AV} : ∀ {fs : List (Str × AV)}, fs.any (fun q => decide (q.1 = f)) = false → putFA f c fs = fs ++ [(f, c)]
  | [], _ => rfl
  | (g, u) :: r, h => by
    simp only [List.any_cons, Bool.or_eq_false_iff, decide_eq_false_iff_not] at h
    unfold putFA
    rw [if_neg h.1, putFA_new h.2]
    rfl
namespace K90
theorem copied_run {n : Nat} {h : AH} {v c : AV} (e : VOk h v c) : calA P (n + 1) 0 [v] h = .ok c h := by
  rw [calA_def (d := d0) rfl rfl]
  show fin (evSs P (calA P n) d0.body [some v] h) = _
  rw [copy_body e]; rfl
theorem init_go {n k g : Nat} (hg : isCls P g = true) : ∀ {fs : List Str} {i : Nat} {vs cs : List AV} {done : List (Str × AV)} {σ : Sg} {h : AH}, nodupB fs = true → (∀ f ∈ fs, done.any (fun q => decide (q.1 = f)) = false) → done.length + fs.length < 900 → vs.length = fs.length → cs.length = fs.length →
    (∀ (j : Nat) (v : AV), vs[j]? = some v → σ[i + j]? = some (some v)) → (∀ (j : Nat) (v c : AV), vs[j]? = some v → cs[j]? = some c → VOk h v c) → σ[0]? = some (some (.ref k)) → h[k]? = some (.ins g done) → evSs P (calA P (n + 1)) (initB i fs) σ h = .nx σ (h.set k (.ins g (done ++ fs.zip cs)))
  | [], i, vs, cs, done, σ, h, _, _, _, _, _, _, _, _, hk => by
    unfold initB evSs
    have : h.set k (.ins g (done ++ [].zip cs)) = h := by
      rw [List.zip_nil_left, List.append_nil]
      exact set_same hk
    rw [this]
  | f :: fs, i, [], cs, done, σ, h, _, _, _, hl, _, _, _, _, _ => by cases hl
  | f :: fs, i, v :: vs, [], done, σ, h, _, _, _, _, hc, _, _, _, _ => by cases hc
  | f :: fs, i, v :: vs, c :: cs, done, σ, h, nd, hd, hz, hl, hc, hv, ho, h0, hk => by
    have hi : σ[i]? = some (some v) := hv 0 v rfl
    have hok : VOk h v c := ho 0 v c rfl rfl
    have nd' : (!fs.contains f && nodupB fs) = true := nd
    simp only [Bool.and_eq_true, Bool.not_eq_true'] at nd'
    have hz' : done.length < 900 := by simp at hz; omega
    unfold initB evSs
    have e1 : evS P (calA P (n + 1)) (.setF (.var 0) f (.call 0 (.cons (.var i) .nil))) σ h = .nx σ (h.set k (.ins g (done ++ [(f, c)]))) := by
      simp only [evS, evE, evEs, getS, hi, h0, R.bind, R.stm]
      rw [callP_def (d := d0) rfl rfl, copied_run hok]
      simp only [R.stm, setFA, hk, hz', hg, and_self, if_true, R.of, putFA_new (hd f List.mem_cons_self)]
    rw [e1]
    show evSs P (calA P (n + 1)) (initB (i + 1) fs) σ (h.set k (.ins g (done ++ [(f, c)]))) = _
    have hkl := lt_of hk
    rw [init_go hg (vs := vs) (cs := cs) nd'.2 (fun x hx => ?_) (by simp at hz ⊢; omega) (by simpa using hl) (by simpa using hc) (fun j w hw => ?_) (fun j w u hw hu => (ho (j + 1) w u (by simpa using hw) (by simpa using hu)).ins hk) h0 (List.getElem?_set_self hkl)]
    · rw [List.set_set]
      simp
    · rw [List.any_append, hd x (List.mem_cons_of_mem _ hx)]
      have : f ≠ x := fun z => by
        subst z
        have : fs.contains f = true := by simpa using hx
        rw [nd'.1] at this; cases this
      simp [this]
    · have := hv (j + 1) w (by simpa using hw)
      rw [show i + 1 + j = i + (j + 1) by omega]; exact this

/-- a class whose __init__ copies its arguments -/
theorem make_run {n g i : Nat} {fs : List Str} {eq ne : Option Nat} (hc : P g = some (.cls ⟨i, eq, ne⟩)) (hi : P i = some (.def_ (mkInit fs))) (nd : nodupB fs = true) (hz : fs.length < 900) {vs cs : List AV} {h : AH} (hl : vs.length = fs.length) (hcl : cs.length = fs.length)
    (ho : ∀ (j : Nat) (v c : AV), vs[j]? = some v → cs[j]? = some c → VOk h v c) : callG P (calA P (n + 2)) g vs h = .ok (.ref h.length) (h ++ [.ins g (fs.zip cs)]) := by
  have hg : isCls P g = true := by unfold isCls clsAt; rw [hc]; rfl
  unfold callG
  rw [hc]
  dsimp only
  have key : fin (evSs P (calA P (n + 1)) (mkInit fs).body (List.map some (AV.ref h.length :: vs) ++ List.replicate ((mkInit fs).ns - (mkInit fs).np) none) (h ++ [.ins g []])) = .ok .non (h ++ [.ins g (fs.zip cs)]) := by
    show fin (evSs P (calA P (n + 1)) (initB 1 fs) _ (h ++ [.ins g []])) = _
    rw [init_go (k := h.length) (g := g) hg (vs := vs) (cs := cs) (done := []) nd (fun _ _ => rfl) (by simpa using hz) hl hcl (fun j v hv => ?_) (fun j v c hv hc => (ho j v c hv hc).pre (Pre.app _ _)) (by simp) (get_new _ _)]
    · show R.ok AV.non ((h ++ [AO.ins g []]).set h.length (.ins g ([] ++ fs.zip cs))) = _
      rw [set_new]; rfl
    · rw [List.map_cons, List.cons_append, show 1 + j = j + 1 by omega, List.getElem?_cons_succ]
      have : j < (vs.map some).length := by rw [List.length_map]; exact (List.getElem?_eq_some_iff.mp hv).1
      rw [List.getElem?_append_left this, List.getElem?_map, hv]; rfl
  rw [calA_def hi (by simp [mkInit, hl]), key]
theorem make_P {n g i : Nat} {fs : List Str} {eq ne : Option Nat} (hc : P g = some (.cls ⟨i, eq, ne⟩)) (hi : P i = some (.def_ (mkInit fs))) (nd : nodupB fs = true) (hz : fs.length < 900) {vs cs : List AV} {h : AH} (hl : vs.length = fs.length) (hcl : cs.length = fs.length)
    (ho : ∀ (j : Nat) (v c : AV), vs[j]? = some v → cs[j]? = some c → VOk h v c) : callP P (calA P (n + 2)) g vs h = .ok (.ref h.length) (h ++ [.ins g (fs.zip cs)]) := by
  unfold callP paramsOf
  rw [hc]
  dsimp only
  rw [hi]
  dsimp only
  rw [if_pos (by simp [mkInit, hl])]
  exact make_run hc hi nd hz hl hcl ho
theorem make_K {n g i : Nat} {fs ks : List Str} {eq ne : Option Nat} (hc : P g = some (.cls ⟨i, eq, ne⟩)) (hi : P i = some (.def_ (mkInit fs))) (nd : nodupB fs = true) (hz : fs.length < 900) {kvs vs cs : List AV} {h : AH} (hb : bindK fs [] ks kvs = some vs) (hk : kwOk fs 0 ks = true) (hl : vs.length = fs.length) (hcl : cs.length = fs.length)
    (ho : ∀ (j : Nat) (v c : AV), vs[j]? = some v → cs[j]? = some c → VOk h v c) : callKw P (calA P (n + 2)) g ks [] kvs h = .ok (.ref h.length) (h ++ [.ins g (fs.zip cs)]) := by
  unfold callKw paramsOf
  rw [hc]
  dsimp only
  rw [hi]
  have e : List.drop 1 (mkInit fs).params = fs := rfl
  dsimp only
  rw [e, hb]
  dsimp only
  rw [if_pos (show kwOk fs ([] : List AV).length ks = true from hk)]
  exact make_run hc hi nd hz hl hcl ho
end K90
end Mini
set_option autoImplicit false
set_option maxHeartbeats 4000000
namespace Mini
open PySem L2
namespace K90
/-- an instance of g, its fields -/
def Ins (h : AH) (k g : Nat) (fs : List Str) (cs : List AV) : Prop := h[k]? = some (.ins g (fs.zip cs))
theorem inst_yes {h : AH} {k g : Nat} {fs : List (Str × AV)} (hg : isCls P g = true) (z : h[k]? = some (.ins g fs)) : isInst1 P h (.ref k) (.glo g) = some true := by
  unfold isInst1 tdOf tdC
  dsimp only
  rw [z]
  show isTD P (.c g) (.c g) = _
  unfold isTD
  dsimp only
  rw [hg]
  simp
theorem inst_no {h : AH} {k g u : Nat} {fs : List (Str × AV)} (hg : isCls P g = true) (hu : isCls P u = true) (ne : u ≠ g) (z : h[k]? = some (.ins u fs)) : isInst1 P h (.ref k) (.glo g) = some false := by
  unfold isInst1 tdOf tdC
  dsimp only
  rw [z]
  show isTD P (.c u) (.c g) = _
  unfold isTD
  dsimp only
  rw [hg, hu]
  simp [ne]
theorem fld_run {h : AH} {k g : Nat} {fs : List (Str × AV)} {f : Str} {c : AV} (hg : isCls P g = true) (z : h[k]? = some (.ins g fs)) (l : fs.lookup f = some c) : fldA P (.ref k) f h = some (c, h) := by
  unfold fldA
  dsimp only
  rw [z]
  dsimp only
  rw [l]
  dsimp only
  rw [if_pos hg]
theorem glo_cls {cal : Nat → List AV → AH → R AV} {g : Nat} {c : MCls} {σ : Sg} {h : AH} (hc : P g = some (.cls c)) : evE P cal (.glo g) σ h = .ok (.glo g) h := by
  unfold evE
  rw [hc]
theorem bind_ok {α β : Type} {a : α} {h : AH} {f : α → AH → R β} : R.bind (.ok a h) f = f a h := rfl
theorem stm_ok {α : Type} {a : α} {h : AH} {σ : Sg} {f : α → AH → RS} : R.stm (.ok a h) σ f = f a h := rfl
theorem of_some {α : Type} {a : α} {h : AH} : R.of (some (a, h)) = .ok a h := rfl
theorem of_map {α : Type} {b : Bool} {h : AH} : R.of (Option.map (fun b => (AV.bl b, h)) (some b)) = .ok (.bl b) h := rfl
theorem kSeq_nx {f : Sg → AH → RS} {σ : Sg} {h : AH} : kSeqS f (.nx σ h) = f σ h := rfl
theorem kSeq_rt {f : Sg → AH → RS} {v : AV} {h : AH} : kSeqS f (.rt v h) = .rt v h := rfl
theorem kIf_t {f g : AH → RS} {h : AH} : kIf f g (.bl true) h = f h := rfl
theorem kIf_f {f g : AH → RS} {h : AH} : kIf f g (.bl false) h = g h := rfl
theorem kAnd_t {f : AH → R AV} {h : AH} : kAnd f (.bl true) h = f h := rfl
theorem kAnd_f {f : AH → R AV} {h : AH} : kAnd f (.bl false) h = .ok (.bl false) h := rfl
theorem kOr_t {f : AH → R AV} {h : AH} : kOr f (.bl true) h = .ok (.bl true) h := rfl
theorem kOr_f {f : AH → R AV} {h : AH} : kOr f (.bl false) h = f h := rfl
theorem kNot_b {b : Bool} {h : AH} : kNot (.bl b) h = .ok (.bl (!b)) h := rfl
theorem kTup1 {a0 : AV} {h : AH} : kTup [a0] h = .ok (.tup [a0]) h := if_pos (by show 1 ≤ sizeLine; decide)
theorem kTup2 {a0 a1 : AV} {h : AH} : kTup [a0, a1] h = .ok (.tup [a0, a1]) h := if_pos (by show 2 ≤ sizeLine; decide)
theorem kTup3 {a0 a1 a2 : AV} {h : AH} : kTup [a0, a1, a2] h = .ok (.tup [a0, a1, a2]) h := if_pos (by show 3 ≤ sizeLine; decide)
theorem kTup4 {a0 a1 a2 a3 : AV} {h : AH} : kTup [a0, a1, a2, a3] h = .ok (.tup [a0, a1, a2, a3]) h := if_pos (by show 4 ≤ sizeLine; decide)
theorem kTup5 {a0 a1 a2 a3 a4 : AV} {h : AH} : kTup [a0, a1, a2, a3, a4] h = .ok (.tup [a0, a1, a2, a3, a4]) h := if_pos (by show 5 ≤ sizeLine; decide)
theorem kTup6 {a0 a1 a2 a3 a4 a5 : AV} {h : AH} : kTup [a0, a1, a2, a3, a4, a5] h = .ok (.tup [a0, a1, a2, a3, a4, a5]) h := if_pos (by show 6 ≤ sizeLine; decide)
theorem fin_of {f : Sg → AH → RS} {σ : Sg} {r : O AV} : fin (kSeqS f ((R.of r).stm σ fun v h => .rt v h)) = R.of r := by
  cases r with
  | none => rfl
  | some p => rfl
theorem fin_rt {v : AV} {h : AH} : fin (.rt v h) = .ok v h := rfl
theorem cls1 : P 1 = some (.cls ⟨2, some 3, some 4⟩) := rfl
theorem ini1 : P 2 = some (.def_ (mkInit ["line", "column", "what"])) := rfl
theorem is1 : isCls P 1 = true := rfl
theorem fl1_0 {h : AH} {i : Nat} {a0 a1 a2 : AV} (z : h[i]? = some (.ins 1 [("line", a0), ("column", a1), ("what", a2)])) : fldA P (.ref i) "line" h = some (a0, h) := fld_run is1 z rfl
theorem fl1_1 {h : AH} {i : Nat} {a0 a1 a2 : AV} (z : h[i]? = some (.ins 1 [("line", a0), ("column", a1), ("what", a2)])) : fldA P (.ref i) "column" h = some (a1, h) := fld_run is1 z rfl
theorem fl1_2 {h : AH} {i : Nat} {a0 a1 a2 : AV} (z : h[i]? = some (.ins 1 [("line", a0), ("column", a1), ("what", a2)])) : fldA P (.ref i) "what" h = some (a2, h) := fld_run is1 z rfl
theorem eq1 {n : Nat} {h : AH} {i j : Nat} {a0 a1 a2 b0 b1 b2 : AV} (hi : h[i]? = some (.ins 1 [("line", a0), ("column", a1), ("what", a2)])) (hj : h[j]? = some (.ins 1 [("line", b0), ("column", b1), ("what", b2)])) : calA P (n + 2) 3 [.ref i, .ref j] h = R.of (cmpA P (calA P (n + 1)) .eq (.tup [a0, a1, a2]) (.tup [b0, b1, b2]) h) := by
  rw [calA_def (d := d3) rfl rfl]
  simp only [d3, evSs, evS, evE, evEs, getS, List.map_cons, List.map_nil, List.nil_append, List.cons_append, List.getElem?_cons_zero, List.getElem?_cons_succ, bind_ok, stm_ok, of_some, of_map, kSeq_nx, kSeq_rt, kIf_t, kIf_f, kAnd_t, kAnd_f, kNot_b, biA, biIsinst, Option.map_some, fin_rt, List.replicate, Nat.sub_self, kTup1, kTup2, kTup3, kTup4, kTup5, kTup6, Bool.not_true, Bool.not_false, fin_of, inst_yes is1 hj, cls1, fl1_0 hi, fl1_0 hj, fl1_1 hi, fl1_1 hj, fl1_2 hi, fl1_2 hj]
theorem no1 {n u : Nat} {h : AH} {i j : Nat} {fs : List (Str × AV)} (hu : isCls P u = true) (ne : u ≠ 1) (hj : h[j]? = some (.ins u fs)) : calA P (n + 1) 3 [.ref i, .ref j] h = .ok (.bl false) h := by
  rw [calA_def (d := d3) rfl rfl]
  simp only [d3, evSs, evS, evE, evEs, getS, List.map_cons, List.map_nil, List.nil_append, List.cons_append, List.getElem?_cons_zero, List.getElem?_cons_succ, bind_ok, stm_ok, of_some, of_map, kSeq_nx, kSeq_rt, kIf_t, kIf_f, kAnd_t, kAnd_f, kNot_b, biA, biIsinst, Option.map_some, fin_rt, List.replicate, Nat.sub_self, kTup1, kTup2, kTup3, kTup4, kTup5, kTup6, Bool.not_true, Bool.not_false, fin_of, inst_no is1 hu ne hj, cls1]
theorem cls5 : P 5 = some (.cls ⟨6, some 7, some 8⟩) := rfl
theorem ini5 : P 6 = some (.def_ (mkInit ["ratio"])) := rfl
theorem is5 : isCls P 5 = true := rfl
theorem fl5_0 {h : AH} {i : Nat} {a0 : AV} (z : h[i]? = some (.ins 5 [("ratio", a0)])) : fldA P (.ref i) "ratio" h = some (a0, h) := fld_run is5 z rfl
theorem eq5 {n : Nat} {h : AH} {i j : Nat} {a0 b0 : AV} (hi : h[i]? = some (.ins 5 [("ratio", a0)])) (hj : h[j]? = some (.ins 5 [("ratio", b0)])) : calA P (n + 2) 7 [.ref i, .ref j] h = R.of (cmpA P (calA P (n + 1)) .eq a0 b0 h) := by
  rw [calA_def (d := d7) rfl rfl]
  simp only [d7, evSs, evS, evE, evEs, getS, List.map_cons, List.map_nil, List.nil_append, List.cons_append, List.getElem?_cons_zero, List.getElem?_cons_succ, bind_ok, stm_ok, of_some, of_map, kSeq_nx, kSeq_rt, kIf_t, kIf_f, kAnd_t, kAnd_f, kNot_b, biA, biIsinst, Option.map_some, fin_rt, List.replicate, Nat.sub_self, kTup1, kTup2, kTup3, kTup4, kTup5, kTup6, Bool.not_true, Bool.not_false, fin_of, inst_yes is5 hj, cls5, fl5_0 hi, fl5_0 hj]
theorem no5 {n u : Nat} {h : AH} {i j : Nat} {fs : List (Str × AV)} (hu : isCls P u = true) (ne : u ≠ 5) (hj : h[j]? = some (.ins u fs)) : calA P (n + 1) 7 [.ref i, .ref j] h = .ok (.bl false) h := by
  rw [calA_def (d := d7) rfl rfl]
  simp only [d7, evSs, evS, evE, evEs, getS, List.map_cons, List.map_nil, List.nil_append, List.cons_append, List.getElem?_cons_zero, List.getElem?_cons_succ, bind_ok, stm_ok, of_some, of_map, kSeq_nx, kSeq_rt, kIf_t, kIf_f, kAnd_t, kAnd_f, kNot_b, biA, biIsinst, Option.map_some, fin_rt, List.replicate, Nat.sub_self, kTup1, kTup2, kTup3, kTup4, kTup5, kTup6, Bool.not_true, Bool.not_false, fin_of, inst_no is5 hu ne hj, cls5]
theorem cls9 : P 9 = some (.cls ⟨10, some 11, some 12⟩) := rfl
theorem ini9 : P 10 = some (.def_ (mkInit ["sign"])) := rfl
theorem is9 : isCls P 9 = true := rfl
theorem fl9_0 {h : AH} {i : Nat} {a0 : AV} (z : h[i]? = some (.ins 9 [("sign", a0)])) : fldA P (.ref i) "sign" h = some (a0, h) := fld_run is9 z rfl
theorem eq9 {n : Nat} {h : AH} {i j : Nat} {a0 b0 : AV} (hi : h[i]? = some (.ins 9 [("sign", a0)])) (hj : h[j]? = some (.ins 9 [("sign", b0)])) : calA P (n + 2) 11 [.ref i, .ref j] h = R.of (cmpA P (calA P (n + 1)) .eq a0 b0 h) := by
  rw [calA_def (d := d11) rfl rfl]
  simp only [d11, evSs, evS, evE, evEs, getS, List.map_cons, List.map_nil, List.nil_append, List.cons_append, List.getElem?_cons_zero, List.getElem?_cons_succ, bind_ok, stm_ok, of_some, of_map, kSeq_nx, kSeq_rt, kIf_t, kIf_f, kAnd_t, kAnd_f, kNot_b, biA, biIsinst, Option.map_some, fin_rt, List.replicate, Nat.sub_self, kTup1, kTup2, kTup3, kTup4, kTup5, kTup6, Bool.not_true, Bool.not_false, fin_of, inst_yes is9 hj, cls9, fl9_0 hi, fl9_0 hj]
theorem no9 {n u : Nat} {h : AH} {i j : Nat} {fs : List (Str × AV)} (hu : isCls P u = true) (ne : u ≠ 9) (hj : h[j]? = some (.ins u fs)) : calA P (n + 1) 11 [.ref i, .ref j] h = .ok (.bl false) h := by
  rw [calA_def (d := d11) rfl rfl]
  simp only [d11, evSs, evS, evE, evEs, getS, List.map_cons, List.map_nil, List.nil_append, List.cons_append, List.getElem?_cons_zero, List.getElem?_cons_succ, bind_ok, stm_ok, of_some, of_map, kSeq_nx, kSeq_rt, kIf_t, kIf_f, kAnd_t, kAnd_f, kNot_b, biA, biIsinst, Option.map_some, fin_rt, List.replicate, Nat.sub_self, kTup1, kTup2, kTup3, kTup4, kTup5, kTup6, Bool.not_true, Bool.not_false, fin_of, inst_no is9 hu ne hj, cls9]
theorem cls13 : P 13 = some (.cls ⟨14, some 15, some 16⟩) := rfl
theorem ini13 : P 14 = some (.def_ (mkInit ["number"])) := rfl
theorem is13 : isCls P 13 = true := rfl
theorem fl13_0 {h : AH} {i : Nat} {a0 : AV} (z : h[i]? = some (.ins 13 [("number", a0)])) : fldA P (.ref i) "number" h = some (a0, h) := fld_run is13 z rfl
theorem eq13 {n : Nat} {h : AH} {i j : Nat} {a0 b0 : AV} (hi : h[i]? = some (.ins 13 [("number", a0)])) (hj : h[j]? = some (.ins 13 [("number", b0)])) : calA P (n + 2) 15 [.ref i, .ref j] h = R.of (cmpA P (calA P (n + 1)) .eq a0 b0 h) := by
  rw [calA_def (d := d15) rfl rfl]
  simp only [d15, evSs, evS, evE, evEs, getS, List.map_cons, List.map_nil, List.nil_append, List.cons_append, List.getElem?_cons_zero, List.getElem?_cons_succ, bind_ok, stm_ok, of_some, of_map, kSeq_nx, kSeq_rt, kIf_t, kIf_f, kAnd_t, kAnd_f, kNot_b, biA, biIsinst, Option.map_some, fin_rt, List.replicate, Nat.sub_self, kTup1, kTup2, kTup3, kTup4, kTup5, kTup6, Bool.not_true, Bool.not_false, fin_of, inst_yes is13 hj, cls13, fl13_0 hi, fl13_0 hj]
theorem no13 {n u : Nat} {h : AH} {i j : Nat} {fs : List (Str × AV)} (hu : isCls P u = true) (ne : u ≠ 13) (hj : h[j]? = some (.ins u fs)) : calA P (n + 1) 15 [.ref i, .ref j] h = .ok (.bl false) h := by
  rw [calA_def (d := d15) rfl rfl]
  simp only [d15, evSs, evS, evE, evEs, getS, List.map_cons, List.map_nil, List.nil_append, List.cons_append, List.getElem?_cons_zero, List.getElem?_cons_succ, bind_ok, stm_ok, of_some, of_map, kSeq_nx, kSeq_rt, kIf_t, kIf_f, kAnd_t, kAnd_f, kNot_b, biA, biIsinst, Option.map_some, fin_rt, List.replicate, Nat.sub_self, kTup1, kTup2, kTup3, kTup4, kTup5, kTup6, Bool.not_true, Bool.not_false, fin_of, inst_no is13 hu ne hj, cls13]
theorem cls17 : P 17 = some (.cls ⟨18, some 19, some 20⟩) := rfl
theorem ini17 : P 18 = some (.def_ (mkInit ["word", "ratio"])) := rfl
theorem is17 : isCls P 17 = true := rfl
theorem fl17_0 {h : AH} {i : Nat} {a0 a1 : AV} (z : h[i]? = some (.ins 17 [("word", a0), ("ratio", a1)])) : fldA P (.ref i) "word" h = some (a0, h) := fld_run is17 z rfl
theorem fl17_1 {h : AH} {i : Nat} {a0 a1 : AV} (z : h[i]? = some (.ins 17 [("word", a0), ("ratio", a1)])) : fldA P (.ref i) "ratio" h = some (a1, h) := fld_run is17 z rfl
theorem eq17 {n : Nat} {h : AH} {i j : Nat} {a0 a1 b0 b1 : AV} (hi : h[i]? = some (.ins 17 [("word", a0), ("ratio", a1)])) (hj : h[j]? = some (.ins 17 [("word", b0), ("ratio", b1)])) : calA P (n + 2) 19 [.ref i, .ref j] h = R.of (cmpA P (calA P (n + 1)) .eq (.tup [a0, a1]) (.tup [b0, b1]) h) := by
  rw [calA_def (d := d19) rfl rfl]
  simp only [d19, evSs, evS, evE, evEs, getS, List.map_cons, List.map_nil, List.nil_append, List.cons_append, List.getElem?_cons_zero, List.getElem?_cons_succ, bind_ok, stm_ok, of_some, of_map, kSeq_nx, kSeq_rt, kIf_t, kIf_f, kAnd_t, kAnd_f, kNot_b, biA, biIsinst, Option.map_some, fin_rt, List.replicate, Nat.sub_self, kTup1, kTup2, kTup3, kTup4, kTup5, kTup6, Bool.not_true, Bool.not_false, fin_of, inst_yes is17 hj, cls17, fl17_0 hi, fl17_0 hj, fl17_1 hi, fl17_1 hj]
theorem no17 {n u : Nat} {h : AH} {i j : Nat} {fs : List (Str × AV)} (hu : isCls P u = true) (ne : u ≠ 17) (hj : h[j]? = some (.ins u fs)) : calA P (n + 1) 19 [.ref i, .ref j] h = .ok (.bl false) h := by
  rw [calA_def (d := d19) rfl rfl]
  simp only [d19, evSs, evS, evE, evEs, getS, List.map_cons, List.map_nil, List.nil_append, List.cons_append, List.getElem?_cons_zero, List.getElem?_cons_succ, bind_ok, stm_ok, of_some, of_map, kSeq_nx, kSeq_rt, kIf_t, kIf_f, kAnd_t, kAnd_f, kNot_b, biA, biIsinst, Option.map_some, fin_rt, List.replicate, Nat.sub_self, kTup1, kTup2, kTup3, kTup4, kTup5, kTup6, Bool.not_true, Bool.not_false, fin_of, inst_no is17 hu ne hj, cls17]
theorem cls21 : P 21 = some (.cls ⟨22, some 23, some 24⟩) := rfl
theorem ini21 : P 22 = some (.def_ (mkInit ["row"])) := rfl
theorem is21 : isCls P 21 = true := rfl
theorem fl21_0 {h : AH} {i : Nat} {a0 : AV} (z : h[i]? = some (.ins 21 [("row", a0)])) : fldA P (.ref i) "row" h = some (a0, h) := fld_run is21 z rfl
theorem eq21 {n : Nat} {h : AH} {i j : Nat} {a0 b0 : AV} (hi : h[i]? = some (.ins 21 [("row", a0)])) (hj : h[j]? = some (.ins 21 [("row", b0)])) : calA P (n + 2) 23 [.ref i, .ref j] h = R.of (cmpA P (calA P (n + 1)) .eq a0 b0 h) := by
  rw [calA_def (d := d23) rfl rfl]
  simp only [d23, evSs, evS, evE, evEs, getS, List.map_cons, List.map_nil, List.nil_append, List.cons_append, List.getElem?_cons_zero, List.getElem?_cons_succ, bind_ok, stm_ok, of_some, of_map, kSeq_nx, kSeq_rt, kIf_t, kIf_f, kAnd_t, kAnd_f, kNot_b, biA, biIsinst, Option.map_some, fin_rt, List.replicate, Nat.sub_self, kTup1, kTup2, kTup3, kTup4, kTup5, kTup6, Bool.not_true, Bool.not_false, fin_of, inst_yes is21 hj, cls21, fl21_0 hi, fl21_0 hj]
theorem no21 {n u : Nat} {h : AH} {i j : Nat} {fs : List (Str × AV)} (hu : isCls P u = true) (ne : u ≠ 21) (hj : h[j]? = some (.ins u fs)) : calA P (n + 1) 23 [.ref i, .ref j] h = .ok (.bl false) h := by
  rw [calA_def (d := d23) rfl rfl]
  simp only [d23, evSs, evS, evE, evEs, getS, List.map_cons, List.map_nil, List.nil_append, List.cons_append, List.getElem?_cons_zero, List.getElem?_cons_succ, bind_ok, stm_ok, of_some, of_map, kSeq_nx, kSeq_rt, kIf_t, kIf_f, kAnd_t, kAnd_f, kNot_b, biA, biIsinst, Option.map_some, fin_rt, List.replicate, Nat.sub_self, kTup1, kTup2, kTup3, kTup4, kTup5, kTup6, Bool.not_true, Bool.not_false, fin_of, inst_no is21 hu ne hj, cls21]
theorem cls25 : P 25 = some (.cls ⟨26, some 27, some 28⟩) := rfl
theorem ini25 : P 26 = some (.def_ (mkInit ["kind", "log", "unit", "home"])) := rfl
theorem is25 : isCls P 25 = true := rfl
theorem fl25_0 {h : AH} {i : Nat} {a0 a1 a2 a3 : AV} (z : h[i]? = some (.ins 25 [("kind", a0), ("log", a1), ("unit", a2), ("home", a3)])) : fldA P (.ref i) "kind" h = some (a0, h) := fld_run is25 z rfl
theorem fl25_1 {h : AH} {i : Nat} {a0 a1 a2 a3 : AV} (z : h[i]? = some (.ins 25 [("kind", a0), ("log", a1), ("unit", a2), ("home", a3)])) : fldA P (.ref i) "log" h = some (a1, h) := fld_run is25 z rfl
theorem fl25_2 {h : AH} {i : Nat} {a0 a1 a2 a3 : AV} (z : h[i]? = some (.ins 25 [("kind", a0), ("log", a1), ("unit", a2), ("home", a3)])) : fldA P (.ref i) "unit" h = some (a2, h) := fld_run is25 z rfl
theorem fl25_3 {h : AH} {i : Nat} {a0 a1 a2 a3 : AV} (z : h[i]? = some (.ins 25 [("kind", a0), ("log", a1), ("unit", a2), ("home", a3)])) : fldA P (.ref i) "home" h = some (a3, h) := fld_run is25 z rfl
theorem cp33 {cal : Nat → List AV → AH → R AV} {v : AV} {h : AH} : callP P cal 33 [v] h = cal 33 [v] h := callP_def (d := d33) rfl rfl
theorem part25 {n : Nat} {h : AH} {i : Nat} {a0 a1 a2 a3 : AV} (hi : h[i]? = some (.ins 25 [("kind", a0), ("log", a1), ("unit", a2), ("home", a3)])) : calA P (n + 1) 33 [.ref i] h = .ok (.tup [a0, a1, a2, a3]) h := by
  rw [calA_def (d := d33) rfl rfl]
  simp only [d33, evSs, evS, evE, evEs, getS, List.map_cons, List.map_nil, List.nil_append, List.cons_append, List.getElem?_cons_zero, List.getElem?_cons_succ, bind_ok, stm_ok, of_some, of_map, kSeq_nx, kSeq_rt, kIf_t, kIf_f, kAnd_t, kAnd_f, kNot_b, biA, biIsinst, Option.map_some, fin_rt, List.replicate, Nat.sub_self, kTup1, kTup2, kTup3, kTup4, kTup5, kTup6, Bool.not_true, Bool.not_false, fin_of, fl25_0 hi, fl25_1 hi, fl25_2 hi, fl25_3 hi]
theorem eq25 {n : Nat} {h : AH} {i j : Nat} {a0 a1 a2 a3 b0 b1 b2 b3 : AV} (hi : h[i]? = some (.ins 25 [("kind", a0), ("log", a1), ("unit", a2), ("home", a3)])) (hj : h[j]? = some (.ins 25 [("kind", b0), ("log", b1), ("unit", b2), ("home", b3)])) : calA P (n + 2) 27 [.ref i, .ref j] h = R.of (cmpA P (calA P (n + 1)) .eq (.tup [a0, a1, a2, a3]) (.tup [b0, b1, b2, b3]) h) := by
  rw [calA_def (d := d27) rfl rfl]
  simp only [d27, evSs, evS, evE, evEs, getS, List.map_cons, List.map_nil, List.nil_append, List.cons_append, List.getElem?_cons_zero, List.getElem?_cons_succ, bind_ok, stm_ok, of_some, of_map, kSeq_nx, kSeq_rt, kIf_t, kIf_f, kAnd_t, kAnd_f, kNot_b, biA, biIsinst, Option.map_some, fin_rt, List.replicate, Nat.sub_self, kTup1, kTup2, kTup3, kTup4, kTup5, kTup6, Bool.not_true, Bool.not_false, fin_of, inst_yes is25 hj, cls25, part25 hi, part25 hj, cp33]
theorem no25 {n u : Nat} {h : AH} {i j : Nat} {fs : List (Str × AV)} (hu : isCls P u = true) (ne : u ≠ 25) (hj : h[j]? = some (.ins u fs)) : calA P (n + 1) 27 [.ref i, .ref j] h = .ok (.bl false) h := by
  rw [calA_def (d := d27) rfl rfl]
  simp only [d27, evSs, evS, evE, evEs, getS, List.map_cons, List.map_nil, List.nil_append, List.cons_append, List.getElem?_cons_zero, List.getElem?_cons_succ, bind_ok, stm_ok, of_some, of_map, kSeq_nx, kSeq_rt, kIf_t, kIf_f, kAnd_t, kAnd_f, kNot_b, biA, biIsinst, Option.map_some, fin_rt, List.replicate, Nat.sub_self, kTup1, kTup2, kTup3, kTup4, kTup5, kTup6, Bool.not_true, Bool.not_false, fin_of, inst_no is25 hu ne hj, cls25]
theorem cls29 : P 29 = some (.cls ⟨30, some 31, some 32⟩) := rfl
theorem ini29 : P 30 = some (.def_ (mkInit ["letters", "order", "x"])) := rfl
theorem is29 : isCls P 29 = true := rfl
theorem fl29_0 {h : AH} {i : Nat} {a0 a1 a2 : AV} (z : h[i]? = some (.ins 29 [("letters", a0), ("order", a1), ("x", a2)])) : fldA P (.ref i) "letters" h = some (a0, h) := fld_run is29 z rfl
theorem fl29_1 {h : AH} {i : Nat} {a0 a1 a2 : AV} (z : h[i]? = some (.ins 29 [("letters", a0), ("order", a1), ("x", a2)])) : fldA P (.ref i) "order" h = some (a1, h) := fld_run is29 z rfl
theorem fl29_2 {h : AH} {i : Nat} {a0 a1 a2 : AV} (z : h[i]? = some (.ins 29 [("letters", a0), ("order", a1), ("x", a2)])) : fldA P (.ref i) "x" h = some (a2, h) := fld_run is29 z rfl
theorem cp34 {cal : Nat → List AV → AH → R AV} {v : AV} {h : AH} : callP P cal 34 [v] h = cal 34 [v] h := callP_def (d := d34) rfl rfl
theorem part29 {n : Nat} {h : AH} {i : Nat} {a0 a1 a2 : AV} (hi : h[i]? = some (.ins 29 [("letters", a0), ("order", a1), ("x", a2)])) : calA P (n + 1) 34 [.ref i] h = .ok (.tup [a0, a1, a2]) h := by
  rw [calA_def (d := d34) rfl rfl]
  simp only [d34, evSs, evS, evE, evEs, getS, List.map_cons, List.map_nil, List.nil_append, List.cons_append, List.getElem?_cons_zero, List.getElem?_cons_succ, bind_ok, stm_ok, of_some, of_map, kSeq_nx, kSeq_rt, kIf_t, kIf_f, kAnd_t, kAnd_f, kNot_b, biA, biIsinst, Option.map_some, fin_rt, List.replicate, Nat.sub_self, kTup1, kTup2, kTup3, kTup4, kTup5, kTup6, Bool.not_true, Bool.not_false, fin_of, fl29_0 hi, fl29_1 hi, fl29_2 hi]
theorem eq29 {n : Nat} {h : AH} {i j : Nat} {a0 a1 a2 b0 b1 b2 : AV} (hi : h[i]? = some (.ins 29 [("letters", a0), ("order", a1), ("x", a2)])) (hj : h[j]? = some (.ins 29 [("letters", b0), ("order", b1), ("x", b2)])) : calA P (n + 2) 31 [.ref i, .ref j] h = R.of (cmpA P (calA P (n + 1)) .eq (.tup [a0, a1, a2]) (.tup [b0, b1, b2]) h) := by
  rw [calA_def (d := d31) rfl rfl]
  simp only [d31, evSs, evS, evE, evEs, getS, List.map_cons, List.map_nil, List.nil_append, List.cons_append, List.getElem?_cons_zero, List.getElem?_cons_succ, bind_ok, stm_ok, of_some, of_map, kSeq_nx, kSeq_rt, kIf_t, kIf_f, kAnd_t, kAnd_f, kNot_b, biA, biIsinst, Option.map_some, fin_rt, List.replicate, Nat.sub_self, kTup1, kTup2, kTup3, kTup4, kTup5, kTup6, Bool.not_true, Bool.not_false, fin_of, inst_yes is29 hj, cls29, part29 hi, part29 hj, cp34]
theorem no29 {n u : Nat} {h : AH} {i j : Nat} {fs : List (Str × AV)} (hu : isCls P u = true) (ne : u ≠ 29) (hj : h[j]? = some (.ins u fs)) : calA P (n + 1) 31 [.ref i, .ref j] h = .ok (.bl false) h := by
  rw [calA_def (d := d31) rfl rfl]
  simp only [d31, evSs, evS, evE, evEs, getS, List.map_cons, List.map_nil, List.nil_append, List.cons_append, List.getElem?_cons_zero, List.getElem?_cons_succ, bind_ok, stm_ok, of_some, of_map, kSeq_nx, kSeq_rt, kIf_t, kIf_f, kAnd_t, kAnd_f, kNot_b, biA, biIsinst, Option.map_some, fin_rt, List.replicate, Nat.sub_self, kTup1, kTup2, kTup3, kTup4, kTup5, kTup6, Bool.not_true, Bool.not_false, fin_of, inst_no is29 hu ne hj, cls29]
theorem cls35 : P 35 = some (.cls ⟨36, some 37, some 38⟩) := rfl
theorem ini35 : P 36 = some (.def_ (mkInit ["number", "powers"])) := rfl
theorem is35 : isCls P 35 = true := rfl
theorem fl35_0 {h : AH} {i : Nat} {a0 a1 : AV} (z : h[i]? = some (.ins 35 [("number", a0), ("powers", a1)])) : fldA P (.ref i) "number" h = some (a0, h) := fld_run is35 z rfl
theorem fl35_1 {h : AH} {i : Nat} {a0 a1 : AV} (z : h[i]? = some (.ins 35 [("number", a0), ("powers", a1)])) : fldA P (.ref i) "powers" h = some (a1, h) := fld_run is35 z rfl
theorem eq35 {n : Nat} {h : AH} {i j : Nat} {a0 a1 b0 b1 : AV} (hi : h[i]? = some (.ins 35 [("number", a0), ("powers", a1)])) (hj : h[j]? = some (.ins 35 [("number", b0), ("powers", b1)])) : calA P (n + 2) 37 [.ref i, .ref j] h = R.of (cmpA P (calA P (n + 1)) .eq (.tup [a0, a1]) (.tup [b0, b1]) h) := by
  rw [calA_def (d := d37) rfl rfl]
  simp only [d37, evSs, evS, evE, evEs, getS, List.map_cons, List.map_nil, List.nil_append, List.cons_append, List.getElem?_cons_zero, List.getElem?_cons_succ, bind_ok, stm_ok, of_some, of_map, kSeq_nx, kSeq_rt, kIf_t, kIf_f, kAnd_t, kAnd_f, kNot_b, biA, biIsinst, Option.map_some, fin_rt, List.replicate, Nat.sub_self, kTup1, kTup2, kTup3, kTup4, kTup5, kTup6, Bool.not_true, Bool.not_false, fin_of, inst_yes is35 hj, cls35, fl35_0 hi, fl35_0 hj, fl35_1 hi, fl35_1 hj]
theorem no35 {n u : Nat} {h : AH} {i j : Nat} {fs : List (Str × AV)} (hu : isCls P u = true) (ne : u ≠ 35) (hj : h[j]? = some (.ins u fs)) : calA P (n + 1) 37 [.ref i, .ref j] h = .ok (.bl false) h := by
  rw [calA_def (d := d37) rfl rfl]
  simp only [d37, evSs, evS, evE, evEs, getS, List.map_cons, List.map_nil, List.nil_append, List.cons_append, List.getElem?_cons_zero, List.getElem?_cons_succ, bind_ok, stm_ok, of_some, of_map, kSeq_nx, kSeq_rt, kIf_t, kIf_f, kAnd_t, kAnd_f, kNot_b, biA, biIsinst, Option.map_some, fin_rt, List.replicate, Nat.sub_self, kTup1, kTup2, kTup3, kTup4, kTup5, kTup6, Bool.not_true, Bool.not_false, fin_of, inst_no is35 hu ne hj, cls35]
theorem cls39 : P 39 = some (.cls ⟨40, some 41, some 42⟩) := rfl
theorem ini39 : P 40 = some (.def_ (mkInit ["lets", "asks", "spots"])) := rfl
theorem is39 : isCls P 39 = true := rfl
theorem fl39_0 {h : AH} {i : Nat} {a0 a1 a2 : AV} (z : h[i]? = some (.ins 39 [("lets", a0), ("asks", a1), ("spots", a2)])) : fldA P (.ref i) "lets" h = some (a0, h) := fld_run is39 z rfl
theorem fl39_1 {h : AH} {i : Nat} {a0 a1 a2 : AV} (z : h[i]? = some (.ins 39 [("lets", a0), ("asks", a1), ("spots", a2)])) : fldA P (.ref i) "asks" h = some (a1, h) := fld_run is39 z rfl
theorem fl39_2 {h : AH} {i : Nat} {a0 a1 a2 : AV} (z : h[i]? = some (.ins 39 [("lets", a0), ("asks", a1), ("spots", a2)])) : fldA P (.ref i) "spots" h = some (a2, h) := fld_run is39 z rfl
theorem eq39 {n : Nat} {h : AH} {i j : Nat} {a0 a1 a2 b0 b1 b2 : AV} (hi : h[i]? = some (.ins 39 [("lets", a0), ("asks", a1), ("spots", a2)])) (hj : h[j]? = some (.ins 39 [("lets", b0), ("asks", b1), ("spots", b2)])) : calA P (n + 2) 41 [.ref i, .ref j] h = R.of (cmpA P (calA P (n + 1)) .eq (.tup [a0, a1]) (.tup [b0, b1]) h) := by
  rw [calA_def (d := d41) rfl rfl]
  simp only [d41, evSs, evS, evE, evEs, getS, List.map_cons, List.map_nil, List.nil_append, List.cons_append, List.getElem?_cons_zero, List.getElem?_cons_succ, bind_ok, stm_ok, of_some, of_map, kSeq_nx, kSeq_rt, kIf_t, kIf_f, kAnd_t, kAnd_f, kNot_b, biA, biIsinst, Option.map_some, fin_rt, List.replicate, Nat.sub_self, kTup1, kTup2, kTup3, kTup4, kTup5, kTup6, Bool.not_true, Bool.not_false, fin_of, inst_yes is39 hj, cls39, fl39_0 hi, fl39_0 hj, fl39_1 hi, fl39_1 hj]
theorem no39 {n u : Nat} {h : AH} {i j : Nat} {fs : List (Str × AV)} (hu : isCls P u = true) (ne : u ≠ 39) (hj : h[j]? = some (.ins u fs)) : calA P (n + 1) 41 [.ref i, .ref j] h = .ok (.bl false) h := by
  rw [calA_def (d := d41) rfl rfl]
  simp only [d41, evSs, evS, evE, evEs, getS, List.map_cons, List.map_nil, List.nil_append, List.cons_append, List.getElem?_cons_zero, List.getElem?_cons_succ, bind_ok, stm_ok, of_some, of_map, kSeq_nx, kSeq_rt, kIf_t, kIf_f, kAnd_t, kAnd_f, kNot_b, biA, biIsinst, Option.map_some, fin_rt, List.replicate, Nat.sub_self, kTup1, kTup2, kTup3, kTup4, kTup5, kTup6, Bool.not_true, Bool.not_false, fin_of, inst_no is39 hu ne hj, cls39]
theorem cls43 : P 43 = some (.cls ⟨44, some 45, some 46⟩) := rfl
theorem ini43 : P 44 = some (.def_ (mkInit ["field", "rows", "steps", "depth", "places", "root"])) := rfl
theorem is43 : isCls P 43 = true := rfl
theorem fl43_0 {h : AH} {i : Nat} {a0 a1 a2 a3 a4 a5 : AV} (z : h[i]? = some (.ins 43 [("field", a0), ("rows", a1), ("steps", a2), ("depth", a3), ("places", a4), ("root", a5)])) : fldA P (.ref i) "field" h = some (a0, h) := fld_run is43 z rfl
theorem fl43_1 {h : AH} {i : Nat} {a0 a1 a2 a3 a4 a5 : AV} (z : h[i]? = some (.ins 43 [("field", a0), ("rows", a1), ("steps", a2), ("depth", a3), ("places", a4), ("root", a5)])) : fldA P (.ref i) "rows" h = some (a1, h) := fld_run is43 z rfl
theorem fl43_2 {h : AH} {i : Nat} {a0 a1 a2 a3 a4 a5 : AV} (z : h[i]? = some (.ins 43 [("field", a0), ("rows", a1), ("steps", a2), ("depth", a3), ("places", a4), ("root", a5)])) : fldA P (.ref i) "steps" h = some (a2, h) := fld_run is43 z rfl
theorem fl43_3 {h : AH} {i : Nat} {a0 a1 a2 a3 a4 a5 : AV} (z : h[i]? = some (.ins 43 [("field", a0), ("rows", a1), ("steps", a2), ("depth", a3), ("places", a4), ("root", a5)])) : fldA P (.ref i) "depth" h = some (a3, h) := fld_run is43 z rfl
theorem fl43_4 {h : AH} {i : Nat} {a0 a1 a2 a3 a4 a5 : AV} (z : h[i]? = some (.ins 43 [("field", a0), ("rows", a1), ("steps", a2), ("depth", a3), ("places", a4), ("root", a5)])) : fldA P (.ref i) "places" h = some (a4, h) := fld_run is43 z rfl
theorem fl43_5 {h : AH} {i : Nat} {a0 a1 a2 a3 a4 a5 : AV} (z : h[i]? = some (.ins 43 [("field", a0), ("rows", a1), ("steps", a2), ("depth", a3), ("places", a4), ("root", a5)])) : fldA P (.ref i) "root" h = some (a5, h) := fld_run is43 z rfl
theorem cp47 {cal : Nat → List AV → AH → R AV} {v : AV} {h : AH} : callP P cal 47 [v] h = cal 47 [v] h := callP_def (d := d47) rfl rfl
theorem part43 {n : Nat} {h : AH} {i : Nat} {a0 a1 a2 a3 a4 a5 : AV} (hi : h[i]? = some (.ins 43 [("field", a0), ("rows", a1), ("steps", a2), ("depth", a3), ("places", a4), ("root", a5)])) : calA P (n + 1) 47 [.ref i] h = .ok (.tup [a0, a1, a2, a3, a4, a5]) h := by
  rw [calA_def (d := d47) rfl rfl]
  simp only [d47, evSs, evS, evE, evEs, getS, List.map_cons, List.map_nil, List.nil_append, List.cons_append, List.getElem?_cons_zero, List.getElem?_cons_succ, bind_ok, stm_ok, of_some, of_map, kSeq_nx, kSeq_rt, kIf_t, kIf_f, kAnd_t, kAnd_f, kNot_b, biA, biIsinst, Option.map_some, fin_rt, List.replicate, Nat.sub_self, kTup1, kTup2, kTup3, kTup4, kTup5, kTup6, Bool.not_true, Bool.not_false, fin_of, fl43_0 hi, fl43_1 hi, fl43_2 hi, fl43_3 hi, fl43_4 hi, fl43_5 hi]
theorem eq43 {n : Nat} {h : AH} {i j : Nat} {a0 a1 a2 a3 a4 a5 b0 b1 b2 b3 b4 b5 : AV} (hi : h[i]? = some (.ins 43 [("field", a0), ("rows", a1), ("steps", a2), ("depth", a3), ("places", a4), ("root", a5)])) (hj : h[j]? = some (.ins 43 [("field", b0), ("rows", b1), ("steps", b2), ("depth", b3), ("places", b4), ("root", b5)])) : calA P (n + 2) 45 [.ref i, .ref j] h = R.of (cmpA P (calA P (n + 1)) .eq (.tup [a0, a1, a2, a3, a4, a5]) (.tup [b0, b1, b2, b3, b4, b5]) h) := by
  rw [calA_def (d := d45) rfl rfl]
  simp only [d45, evSs, evS, evE, evEs, getS, List.map_cons, List.map_nil, List.nil_append, List.cons_append, List.getElem?_cons_zero, List.getElem?_cons_succ, bind_ok, stm_ok, of_some, of_map, kSeq_nx, kSeq_rt, kIf_t, kIf_f, kAnd_t, kAnd_f, kNot_b, biA, biIsinst, Option.map_some, fin_rt, List.replicate, Nat.sub_self, kTup1, kTup2, kTup3, kTup4, kTup5, kTup6, Bool.not_true, Bool.not_false, fin_of, inst_yes is43 hj, cls43, part43 hi, part43 hj, cp47]
theorem no43 {n u : Nat} {h : AH} {i j : Nat} {fs : List (Str × AV)} (hu : isCls P u = true) (ne : u ≠ 43) (hj : h[j]? = some (.ins u fs)) : calA P (n + 1) 45 [.ref i, .ref j] h = .ok (.bl false) h := by
  rw [calA_def (d := d45) rfl rfl]
  simp only [d45, evSs, evS, evE, evEs, getS, List.map_cons, List.map_nil, List.nil_append, List.cons_append, List.getElem?_cons_zero, List.getElem?_cons_succ, bind_ok, stm_ok, of_some, of_map, kSeq_nx, kSeq_rt, kIf_t, kIf_f, kAnd_t, kAnd_f, kNot_b, biA, biIsinst, Option.map_some, fin_rt, List.replicate, Nat.sub_self, kTup1, kTup2, kTup3, kTup4, kTup5, kTup6, Bool.not_true, Bool.not_false, fin_of, inst_no is43 hu ne hj, cls43]
end K90
end Mini
set_option autoImplicit false
set_option maxHeartbeats 4000000
namespace Mini
open PySem L2
/-! ### data keep -/
theorem optAll_imp {α β : Type} {f g : α → Option β} : ∀ {l : List α} {ds : List β}, (∀ x d, f x = some d → g x = some d) → optAll f l = some ds → optAll g l = some ds
  | [], ds, _, e => e
  | x :: l, ds, k, e => by
    unfold optAll at e ⊢
    cases hx : f x with
    | none => rw [hx] at e; cases e
    | some d =>
      cases hl : optAll f l with
      | none => rw [hx, hl] at e; cases e
      | some r =>
        rw [hx, hl] at e
        rw [k x d hx, optAll_imp k hl]
        exact e
theorem toPyD_pre {h h' : AH} (p : Pre h h') : ∀ (n : Nat) (v : AV) (d : PyData), toPyD h n v = some d → toPyD h' n v = some d := by
  intro n
  induction n with
  | zero => intro v d e; cases v <;> first | exact e | cases e
  | succ n ih =>
    intro v d e
    cases v with
    | tup xs =>
      dsimp only [toPyD] at e ⊢
      cases q : optAll (toPyD h n) xs with
      | none => rw [q] at e; cases e
      | some ds => rw [q] at e; rw [optAll_imp ih q]; exact e
    | ref k =>
      dsimp only [toPyD] at e ⊢
      cases z : h[k]? with
      | none => rw [z] at e; cases e
      | some o =>
        rw [z] at e
        rw [p.get z]
        cases o with
        | lst xs =>
          dsimp only at e ⊢
          cases q : optAll (toPyD h n) xs with
          | none => rw [q] at e; cases e
          | some ds => rw [q] at e; rw [optAll_imp ih q]; exact e
        | rls xs =>
          dsimp only at e ⊢
          cases q : optAll (toPyD h n) xs with
          | none => rw [q] at e; cases e
          | some ds => rw [q] at e; rw [optAll_imp ih q]; exact e
        | dct kvs =>
          dsimp only at e ⊢
          cases q : optAll (fun p : Str × AV => (toPyD h n p.2).map fun d => (PyData.str p.1, d)) kvs with
          | none => rw [q] at e; cases e
          | some ds =>
            rw [q] at e
            rw [optAll_imp (g := fun p : Str × AV => (toPyD h' n p.2).map fun d => (PyData.str p.1, d)) (fun x d hx => by
              cases w : toPyD h n x.2 with
              | none => rw [w] at hx; cases hx
              | some dd => rw [w] at hx; rw [ih _ _ w]; exact hx) q]
            exact e
        | ins _ _ => cases e
    | _ => exact e
namespace K90
theorem kLst1 {a0 : AV} {h : AH} : kLst [a0] h = .ok (.ref h.length) (h ++ [.lst [a0]]) := if_pos (by show 1 ≤ sizeLine; decide)
theorem kLst2 {a0 a1 : AV} {h : AH} : kLst [a0, a1] h = .ok (.ref h.length) (h ++ [.lst [a0, a1]]) := if_pos (by show 2 ≤ sizeLine; decide)
theorem kLst3 {a0 a1 a2 : AV} {h : AH} : kLst [a0, a1, a2] h = .ok (.ref h.length) (h ++ [.lst [a0, a1, a2]]) := if_pos (by show 3 ≤ sizeLine; decide)
theorem kLst4 {a0 a1 a2 a3 : AV} {h : AH} : kLst [a0, a1, a2, a3] h = .ok (.ref h.length) (h ++ [.lst [a0, a1, a2, a3]]) := if_pos (by show 4 ≤ sizeLine; decide)
theorem kLst5 {a0 a1 a2 a3 a4 : AV} {h : AH} : kLst [a0, a1, a2, a3, a4] h = .ok (.ref h.length) (h ++ [.lst [a0, a1, a2, a3, a4]]) := if_pos (by show 5 ≤ sizeLine; decide)
theorem kLst6 {a0 a1 a2 a3 a4 a5 : AV} {h : AH} : kLst [a0, a1, a2, a3, a4, a5] h = .ok (.ref h.length) (h ++ [.lst [a0, a1, a2, a3, a4, a5]]) := if_pos (by show 6 ≤ sizeLine; decide)
theorem kLst7 {a0 a1 a2 a3 a4 a5 a6 : AV} {h : AH} : kLst [a0, a1, a2, a3, a4, a5, a6] h = .ok (.ref h.length) (h ++ [.lst [a0, a1, a2, a3, a4, a5, a6]]) := if_pos (by show 7 ≤ sizeLine; decide)
theorem fields1 {n : Nat} {h : AH} {i : Nat} {a0 a1 a2 : AV} (z : h[i]? = some (.ins 1 [("line", a0), ("column", a1), ("what", a2)])) : calA P (n + 1) 53 [.ref i] h = .ok (.ref h.length) (h ++ [.lst [.str "Stops", a0, a1, a2]]) := by
  rw [calA_def (d := d53) rfl rfl]
  simp only [d53, evSs, evS, evE, evEs, getS, List.map_cons, List.map_nil, List.nil_append, List.cons_append, List.getElem?_cons_zero, List.getElem?_cons_succ, bind_ok, stm_ok, of_some, of_map, kSeq_nx, kSeq_rt, kIf_t, kIf_f, biA, biIsinst, Option.map_some, fin_rt, List.replicate, Nat.sub_self, kLst2, kLst3, kLst4, kLst5, kLst7, inst_yes is1 z, cls1, fl1_0 z, fl1_1 z, fl1_2 z]
theorem fields5 {n : Nat} {h : AH} {i : Nat} {a0 : AV} (z : h[i]? = some (.ins 5 [("ratio", a0)])) : calA P (n + 1) 53 [.ref i] h = .ok (.ref h.length) (h ++ [.lst [.str "Limit", a0]]) := by
  rw [calA_def (d := d53) rfl rfl]
  simp only [d53, evSs, evS, evE, evEs, getS, List.map_cons, List.map_nil, List.nil_append, List.cons_append, List.getElem?_cons_zero, List.getElem?_cons_succ, bind_ok, stm_ok, of_some, of_map, kSeq_nx, kSeq_rt, kIf_t, kIf_f, biA, biIsinst, Option.map_some, fin_rt, List.replicate, Nat.sub_self, kLst2, kLst3, kLst4, kLst5, kLst7, inst_no is1 is5 (by decide : 5 ≠ 1) z, cls1, inst_yes is5 z, cls5, fl5_0 z]
theorem fields9 {n : Nat} {h : AH} {i : Nat} {a0 : AV} (z : h[i]? = some (.ins 9 [("sign", a0)])) : calA P (n + 1) 53 [.ref i] h = .ok (.ref h.length) (h ++ [.lst [.str "Infinite", a0]]) := by
  rw [calA_def (d := d53) rfl rfl]
  simp only [d53, evSs, evS, evE, evEs, getS, List.map_cons, List.map_nil, List.nil_append, List.cons_append, List.getElem?_cons_zero, List.getElem?_cons_succ, bind_ok, stm_ok, of_some, of_map, kSeq_nx, kSeq_rt, kIf_t, kIf_f, biA, biIsinst, Option.map_some, fin_rt, List.replicate, Nat.sub_self, kLst2, kLst3, kLst4, kLst5, kLst7, inst_no is1 is9 (by decide : 9 ≠ 1) z, cls1, inst_no is5 is9 (by decide : 9 ≠ 5) z, cls5, inst_yes is9 z, cls9, fl9_0 z]
theorem fields13 {n : Nat} {h : AH} {i : Nat} {a0 : AV} (z : h[i]? = some (.ins 13 [("number", a0)])) : calA P (n + 1) 53 [.ref i] h = .ok (.ref h.length) (h ++ [.lst [.str "Sign", a0]]) := by
  rw [calA_def (d := d53) rfl rfl]
  simp only [d53, evSs, evS, evE, evEs, getS, List.map_cons, List.map_nil, List.nil_append, List.cons_append, List.getElem?_cons_zero, List.getElem?_cons_succ, bind_ok, stm_ok, of_some, of_map, kSeq_nx, kSeq_rt, kIf_t, kIf_f, biA, biIsinst, Option.map_some, fin_rt, List.replicate, Nat.sub_self, kLst2, kLst3, kLst4, kLst5, kLst7, inst_no is1 is13 (by decide : 13 ≠ 1) z, cls1, inst_no is5 is13 (by decide : 13 ≠ 5) z, cls5, inst_no is9 is13 (by decide : 13 ≠ 9) z, cls9, inst_yes is13 z, cls13, fl13_0 z]
theorem fields17 {n : Nat} {h : AH} {i : Nat} {a0 a1 : AV} (z : h[i]? = some (.ins 17 [("word", a0), ("ratio", a1)])) : calA P (n + 1) 53 [.ref i] h = .ok (.ref h.length) (h ++ [.lst [.str "Order", a0, a1]]) := by
  rw [calA_def (d := d53) rfl rfl]
  simp only [d53, evSs, evS, evE, evEs, getS, List.map_cons, List.map_nil, List.nil_append, List.cons_append, List.getElem?_cons_zero, List.getElem?_cons_succ, bind_ok, stm_ok, of_some, of_map, kSeq_nx, kSeq_rt, kIf_t, kIf_f, biA, biIsinst, Option.map_some, fin_rt, List.replicate, Nat.sub_self, kLst2, kLst3, kLst4, kLst5, kLst7, inst_no is1 is17 (by decide : 17 ≠ 1) z, cls1, inst_no is5 is17 (by decide : 17 ≠ 5) z, cls5, inst_no is9 is17 (by decide : 17 ≠ 9) z, cls9, inst_no is13 is17 (by decide : 17 ≠ 13) z, cls13, inst_yes is17 z, cls17, fl17_0 z, fl17_1 z]
theorem fields21 {n : Nat} {h : AH} {i : Nat} {a0 : AV} (z : h[i]? = some (.ins 21 [("row", a0)])) : calA P (n + 1) 53 [.ref i] h = .ok (.ref h.length) (h ++ [.lst [.str "Expansion", a0]]) := by
  rw [calA_def (d := d53) rfl rfl]
  simp only [d53, evSs, evS, evE, evEs, getS, List.map_cons, List.map_nil, List.nil_append, List.cons_append, List.getElem?_cons_zero, List.getElem?_cons_succ, bind_ok, stm_ok, of_some, of_map, kSeq_nx, kSeq_rt, kIf_t, kIf_f, biA, biIsinst, Option.map_some, fin_rt, List.replicate, Nat.sub_self, kLst2, kLst3, kLst4, kLst5, kLst7, inst_no is1 is21 (by decide : 21 ≠ 1) z, cls1, inst_no is5 is21 (by decide : 21 ≠ 5) z, cls5, inst_no is9 is21 (by decide : 21 ≠ 9) z, cls9, inst_no is13 is21 (by decide : 21 ≠ 13) z, cls13, inst_no is17 is21 (by decide : 21 ≠ 17) z, cls17, inst_yes is21 z, cls21, fl21_0 z]
theorem fields25 {n : Nat} {h : AH} {i : Nat} {a0 a1 a2 a3 : AV} (z : h[i]? = some (.ins 25 [("kind", a0), ("log", a1), ("unit", a2), ("home", a3)])) : calA P (n + 1) 53 [.ref i] h = .ok (.ref h.length) (h ++ [.lst [.str "Letter", a0, a1, a2, a3]]) := by
  rw [calA_def (d := d53) rfl rfl]
  simp only [d53, evSs, evS, evE, evEs, getS, List.map_cons, List.map_nil, List.nil_append, List.cons_append, List.getElem?_cons_zero, List.getElem?_cons_succ, bind_ok, stm_ok, of_some, of_map, kSeq_nx, kSeq_rt, kIf_t, kIf_f, biA, biIsinst, Option.map_some, fin_rt, List.replicate, Nat.sub_self, kLst2, kLst3, kLst4, kLst5, kLst7, inst_no is1 is25 (by decide : 25 ≠ 1) z, cls1, inst_no is5 is25 (by decide : 25 ≠ 5) z, cls5, inst_no is9 is25 (by decide : 25 ≠ 9) z, cls9, inst_no is13 is25 (by decide : 25 ≠ 13) z, cls13, inst_no is17 is25 (by decide : 25 ≠ 17) z, cls17, inst_no is21 is25 (by decide : 25 ≠ 21) z, cls21, inst_yes is25 z, cls25, fl25_0 z, fl25_1 z, fl25_2 z, fl25_3 z]
theorem fields29 {n : Nat} {h : AH} {i : Nat} {a0 a1 a2 : AV} (z : h[i]? = some (.ins 29 [("letters", a0), ("order", a1), ("x", a2)])) : calA P (n + 1) 53 [.ref i] h = .ok (.ref h.length) (h ++ [.lst [.str "Field", a0, a1, a2]]) := by
  rw [calA_def (d := d53) rfl rfl]
  simp only [d53, evSs, evS, evE, evEs, getS, List.map_cons, List.map_nil, List.nil_append, List.cons_append, List.getElem?_cons_zero, List.getElem?_cons_succ, bind_ok, stm_ok, of_some, of_map, kSeq_nx, kSeq_rt, kIf_t, kIf_f, biA, biIsinst, Option.map_some, fin_rt, List.replicate, Nat.sub_self, kLst2, kLst3, kLst4, kLst5, kLst7, inst_no is1 is29 (by decide : 29 ≠ 1) z, cls1, inst_no is5 is29 (by decide : 29 ≠ 5) z, cls5, inst_no is9 is29 (by decide : 29 ≠ 9) z, cls9, inst_no is13 is29 (by decide : 29 ≠ 13) z, cls13, inst_no is17 is29 (by decide : 29 ≠ 17) z, cls17, inst_no is21 is29 (by decide : 29 ≠ 21) z, cls21, inst_no is25 is29 (by decide : 29 ≠ 25) z, cls25, inst_yes is29 z, cls29, fl29_0 z, fl29_1 z, fl29_2 z]
theorem fields35 {n : Nat} {h : AH} {i : Nat} {a0 a1 : AV} (z : h[i]? = some (.ins 35 [("number", a0), ("powers", a1)])) : calA P (n + 1) 53 [.ref i] h = .ok (.ref h.length) (h ++ [.lst [.str "Lead", a0, a1]]) := by
  rw [calA_def (d := d53) rfl rfl]
  simp only [d53, evSs, evS, evE, evEs, getS, List.map_cons, List.map_nil, List.nil_append, List.cons_append, List.getElem?_cons_zero, List.getElem?_cons_succ, bind_ok, stm_ok, of_some, of_map, kSeq_nx, kSeq_rt, kIf_t, kIf_f, biA, biIsinst, Option.map_some, fin_rt, List.replicate, Nat.sub_self, kLst2, kLst3, kLst4, kLst5, kLst7, inst_no is1 is35 (by decide : 35 ≠ 1) z, cls1, inst_no is5 is35 (by decide : 35 ≠ 5) z, cls5, inst_no is9 is35 (by decide : 35 ≠ 9) z, cls9, inst_no is13 is35 (by decide : 35 ≠ 13) z, cls13, inst_no is17 is35 (by decide : 35 ≠ 17) z, cls17, inst_no is21 is35 (by decide : 35 ≠ 21) z, cls21, inst_no is25 is35 (by decide : 35 ≠ 25) z, cls25, inst_no is29 is35 (by decide : 35 ≠ 29) z, cls29, inst_yes is35 z, cls35, fl35_0 z, fl35_1 z]
theorem fields39 {n : Nat} {h : AH} {i : Nat} {a0 a1 a2 : AV} (z : h[i]? = some (.ins 39 [("lets", a0), ("asks", a1), ("spots", a2)])) : calA P (n + 1) 53 [.ref i] h = .ok (.ref h.length) (h ++ [.lst [.str "Model", a0, a1, a2]]) := by
  rw [calA_def (d := d53) rfl rfl]
  simp only [d53, evSs, evS, evE, evEs, getS, List.map_cons, List.map_nil, List.nil_append, List.cons_append, List.getElem?_cons_zero, List.getElem?_cons_succ, bind_ok, stm_ok, of_some, of_map, kSeq_nx, kSeq_rt, kIf_t, kIf_f, biA, biIsinst, Option.map_some, fin_rt, List.replicate, Nat.sub_self, kLst2, kLst3, kLst4, kLst5, kLst7, inst_no is1 is39 (by decide : 39 ≠ 1) z, cls1, inst_no is5 is39 (by decide : 39 ≠ 5) z, cls5, inst_no is9 is39 (by decide : 39 ≠ 9) z, cls9, inst_no is13 is39 (by decide : 39 ≠ 13) z, cls13, inst_no is17 is39 (by decide : 39 ≠ 17) z, cls17, inst_no is21 is39 (by decide : 39 ≠ 21) z, cls21, inst_no is25 is39 (by decide : 39 ≠ 25) z, cls25, inst_no is29 is39 (by decide : 39 ≠ 29) z, cls29, inst_no is35 is39 (by decide : 39 ≠ 35) z, cls35, inst_yes is39 z, cls39, fl39_0 z, fl39_1 z, fl39_2 z]
theorem fields43 {n : Nat} {h : AH} {i : Nat} {a0 a1 a2 a3 a4 a5 : AV} (z : h[i]? = some (.ins 43 [("field", a0), ("rows", a1), ("steps", a2), ("depth", a3), ("places", a4), ("root", a5)])) : calA P (n + 1) 53 [.ref i] h = .ok (.ref h.length) (h ++ [.lst [.str "Paper", a0, a1, a2, a3, a4, a5]]) := by
  rw [calA_def (d := d53) rfl rfl]
  simp only [d53, evSs, evS, evE, evEs, getS, List.map_cons, List.map_nil, List.nil_append, List.cons_append, List.getElem?_cons_zero, List.getElem?_cons_succ, bind_ok, stm_ok, of_some, of_map, kSeq_nx, kSeq_rt, kIf_t, kIf_f, biA, biIsinst, Option.map_some, fin_rt, List.replicate, Nat.sub_self, kLst2, kLst3, kLst4, kLst5, kLst7, inst_no is1 is43 (by decide : 43 ≠ 1) z, cls1, inst_no is5 is43 (by decide : 43 ≠ 5) z, cls5, inst_no is9 is43 (by decide : 43 ≠ 9) z, cls9, inst_no is13 is43 (by decide : 43 ≠ 13) z, cls13, inst_no is17 is43 (by decide : 43 ≠ 17) z, cls17, inst_no is21 is43 (by decide : 43 ≠ 21) z, cls21, inst_no is25 is43 (by decide : 43 ≠ 25) z, cls25, inst_no is29 is43 (by decide : 43 ≠ 29) z, cls29, inst_no is35 is43 (by decide : 43 ≠ 35) z, cls35, inst_no is39 is43 (by decide : 43 ≠ 39) z, cls39, inst_yes is43 z, cls43, fl43_0 z, fl43_1 z, fl43_2 z, fl43_3 z, fl43_4 z, fl43_5 z]
end K90
end Mini
set_option autoImplicit false
set_option maxHeartbeats 4000000
namespace Mini
open PySem L2
namespace K90
/-- a class of the package: it lies at g, its __init__, __eq__, __ne__ behind it -/
structure CT (g : Nat) : Prop where
  c : P g = some (.cls ⟨g + 1, some (g + 2), some (g + 3)⟩)
  ne : P (g + 3) = some (.def_ d4)
  no : ∀ (n u : Nat) (h : AH) (i j : Nat) (fs : List (Str × AV)), isCls P u = true → u ≠ g → h[j]? = some (.ins u fs) → calA P (n + 1) (g + 2) [.ref i, .ref j] h = .ok (.bl false) h
theorem CT.is {g : Nat} (c : CT g) : isCls P g = true := by unfold isCls clsAt; rw [c.c]; rfl
theorem ct1 : CT 1 := ⟨rfl, rfl, fun n u h i j fs => no1⟩
theorem ct5 : CT 5 := ⟨rfl, rfl, fun n u h i j fs => no5⟩
theorem ct9 : CT 9 := ⟨rfl, rfl, fun n u h i j fs => no9⟩
theorem ct13 : CT 13 := ⟨rfl, rfl, fun n u h i j fs => no13⟩
theorem ct17 : CT 17 := ⟨rfl, rfl, fun n u h i j fs => no17⟩
theorem ct21 : CT 21 := ⟨rfl, rfl, fun n u h i j fs => no21⟩
theorem ct25 : CT 25 := ⟨rfl, rfl, fun n u h i j fs => no25⟩
theorem ct29 : CT 29 := ⟨rfl, rfl, fun n u h i j fs => no29⟩
theorem ct35 : CT 35 := ⟨rfl, rfl, fun n u h i j fs => no35⟩
theorem ct39 : CT 39 := ⟨rfl, rfl, fun n u h i j fs => no39⟩
theorem ct43 : CT 43 := ⟨rfl, rfl, fun n u h i j fs => no43⟩
theorem own_eq {cal : Nat → List AV → AH → R AV} {h : AH} {i j g u : Nat} {fs fs' : List (Str × AV)} (c : CT g) (hu : isCls P u = true) (hi : h[i]? = some (.ins g fs)) (hj : h[j]? = some (.ins u fs')) :
    cmpA P cal .eq (.ref i) (.ref j) h = (cal (g + 2) [.ref i, .ref j] h).val := by
  have e1 : ownA P cal (·.eq) (.ref i) (.ref j) h = some ((cal (g + 2) [.ref i, .ref j] h).val) := by
    unfold ownA insOf clsAt tdOf
    simp only [hi, hj, Option.map_some, c.c, Option.bind_some, isTD, hu, Bool.and_self, if_true, Option.isSome_some]
  unfold cmpA
  dsimp only
  rw [e1]
theorem own_ne {cal : Nat → List AV → AH → R AV} {h : AH} {i j g u : Nat} {fs fs' : List (Str × AV)} (c : CT g) (hu : isCls P u = true) (hi : h[i]? = some (.ins g fs)) (hj : h[j]? = some (.ins u fs')) :
    cmpA P cal .ne (.ref i) (.ref j) h = (cal (g + 3) [.ref i, .ref j] h).val := by
  have e1 : ownA P cal (·.ne) (.ref i) (.ref j) h = some ((cal (g + 3) [.ref i, .ref j] h).val) := by
    unfold ownA insOf clsAt tdOf
    simp only [hi, hj, Option.map_some, c.c, Option.bind_some, isTD, hu, Bool.and_self, if_true, Option.isSome_some]
  unfold cmpA
  dsimp only
  rw [e1]
theorem ne_run {n e : Nat} {h : AH} {i j : Nat} {b : Bool} (hd : P e = some (.def_ d4)) (q : cmpA P (calA P n) .eq (.ref i) (.ref j) h = some (.bl b, h)) : calA P (n + 1) e [.ref i, .ref j] h = .ok (.bl (!b)) h := by
  rw [calA_def hd rfl]
  simp only [d4, evSs, evS, evE, evEs, getS, List.map_cons, List.map_nil, List.nil_append, List.cons_append, List.getElem?_cons_zero, List.getElem?_cons_succ, bind_ok, stm_ok, of_some, kSeq_rt, fin_rt, List.replicate, Nat.sub_self, q, kNot_b]
/-- both ways -/
theorem both {n : Nat} {h : AH} {i j g u : Nat} {fs fs' : List (Str × AV)} {b : Bool} (c : CT g) (hu : isCls P u = true) (hi : h[i]? = some (.ins g fs)) (hj : h[j]? = some (.ins u fs')) (q : ∀ m, calA P (m + 2) (g + 2) [.ref i, .ref j] h = .ok (.bl b) h) :
    cmpA P (calA P (n + 3)) .eq (.ref i) (.ref j) h = some (.bl b, h) ∧ cmpA P (calA P (n + 3)) .ne (.ref i) (.ref j) h = some (.bl (!b), h) := by
  have e1 : ∀ m, cmpA P (calA P (m + 2)) .eq (.ref i) (.ref j) h = some (.bl b, h) := fun m => by rw [own_eq c hu hi hj, q m]; rfl
  refine ⟨e1 (n + 1), ?_⟩
  rw [own_ne c hu hi hj, ne_run c.ne (e1 n)]
  rfl
theorem repr_run {h : AH} {v : AV} {d : PyData} (e : toPyD h 60 v = some d) (s : showOk d = true) : biRepr [v] h = some (.str d.shown, h) := by
  unfold biRepr
  dsimp only
  rw [e]
  dsimp only
  rw [if_pos s]
theorem ne_str {cal : Nat → List AV → AH → R AV} {h : AH} {s : Str} : cmpA P cal .ne (.str s) (.str s) h = some (.bl false, h) := by
  simp [cmpA, ownA, insOf, neTop, eqStr]
theorem eq_str {cal : Nat → List AV → AH → R AV} {h : AH} {s : Str} : cmpA P cal .eq (.str s) (.str s) h = some (.bl true, h) := by
  simp [cmpA, ownA, insOf, eqTop, eqStr]
/-- a row of _law_rows: two instances of g of the same fields, what they have -/
structure RowG (h : AH) (r : AV) (g : Nat) : Prop where
  ct : CT g
  ex : ∃ (i j l : Nat) (nm : Str) (cs : List AV) (ds : List PyData) (fs fs' : List (Str × AV)), r = .tup [.ref i, .ref j, .ref l] ∧ h[i]? = some (.ins g fs) ∧ h[j]? = some (.ins g fs') ∧ h[l]? = some (.lst (.str nm :: cs)) ∧
    (∀ n h', Pre h h' → calA P (n + 1) 53 [.ref i] h' = .ok (.ref h'.length) (h' ++ [.lst (.str nm :: cs)])) ∧ (∀ n h', Pre h h' → calA P (n + 1) 53 [.ref j] h' = .ok (.ref h'.length) (h' ++ [.lst (.str nm :: cs)])) ∧
    optAll (toPyD h 59) cs = some ds ∧ showOk (.list (.str nm :: ds)) = true ∧ (∀ n h', Pre h h' → calA P (n + 2) (g + 2) [.ref i, .ref j] h' = .ok (.bl true) h')
theorem RowG.pre {h h' : AH} {r : AV} {g : Nat} (p : Pre h h') (x : RowG h r g) : RowG h' r g := by
  obtain ⟨c, i, j, l, nm, cs, ds, fs, fs', e1, e2, e3, e4, e5, e6, e7, e8, e9⟩ := x
  exact ⟨c, i, j, l, nm, cs, ds, fs, fs', e1, p.get e2, p.get e3, p.get e4, fun n k q => e5 n k (p.trans q), fun n k q => e6 n k (p.trans q), optAll_imp (toPyD_pre p 59) e7, e8, fun n k q => e9 n k (p.trans q)⟩
theorem repr_lst {h : AH} {k : Nat} {nm : Str} {cs : List AV} {ds : List PyData} (z : h[k]? = some (.lst (.str nm :: cs))) (e : optAll (toPyD h 59) cs = some ds) (s : showOk (.list (.str nm :: ds)) = true) : biRepr [.ref k] h = some (.str (PyData.list (.str nm :: ds)).shown, h) := by
  refine repr_run ?_ s
  dsimp only [toPyD]
  rw [z]
  dsimp only
  unfold optAll
  rw [e]
  rfl
def body1 : MSs := (.cons (.if_ (.or_ (.cmp .ne (.bi .repr (.cons (.call 53 (.cons (.var 8) .nil)) .nil)) (.bi .repr (.cons (.var 10) .nil))) (.or_ (.cmp .ne (.bi .repr (.cons (.call 53 (.cons (.var 9) .nil)) .nil)) (.bi .repr (.cons (.var 10) .nil))) (.or_ (.cmp .ne (.var 8) (.var 9)) (.not_ (.cmp .eq (.var 8) (.var 9)))))) (.cons (.ret (.bl false))
    .nil) .nil)
    .nil)
theorem cp53 {cal : Nat → List AV → AH → R AV} {v : AV} {h : AH} : callP P cal 53 [v] h = cal 53 [v] h := callP_def (d := d53) rfl rfl
theorem row1 {n : Nat} {h : AH} {r : AV} {g : Nat} {s0 s1 s2 s3 s4 s5 s6 s7 s8 s9 s10 s11 s12 s13 s14 : Option AV} (x : RowG h r g) : ∃ u v w h', Pre h h' ∧ kTurn (.tup [8, 9, 10]) (evSs P (calA P (n + 3)) body1) r [s0, s1, s2, s3, s4, s5, s6, s7, s8, s9, s10, s11, s12, s13, s14] h = .nx [s0, s1, s2, s3, s4, s5, s6, s7, u, v, w, s11, s12, s13, s14] h' := by
  obtain ⟨c, i, j, l, nm, cs, ds, fs, fs', rfl, e2, e3, e4, e5, e6, e7, e8, e9⟩ := x
  have p1 : Pre h (h ++ [.lst (.str nm :: cs)]) := Pre.app _ _
  have p2 : Pre (h ++ [.lst (.str nm :: cs)]) (h ++ [.lst (.str nm :: cs)] ++ [.lst (.str nm :: cs)]) := Pre.app _ _
  have p3 := p1.trans p2
  have a1 := repr_lst (get_new h (.lst (.str nm :: cs))) (optAll_imp (toPyD_pre p1 59) e7) e8
  have a2 := repr_lst (p1.get e4) (optAll_imp (toPyD_pre p1 59) e7) e8
  have a3 := repr_lst (get_new (h ++ [.lst (.str nm :: cs)]) (.lst (.str nm :: cs))) (optAll_imp (toPyD_pre p3 59) e7) e8
  have a4 := repr_lst (p3.get e4) (optAll_imp (toPyD_pre p3 59) e7) e8
  obtain ⟨b1, b2⟩ := both (n := n) c c.is (p3.get e2) (p3.get e3) fun m => e9 m _ p3
  refine ⟨some (.ref i), some (.ref j), some (.ref l), _, p3, ?_⟩
  simp only [kTurn, putT, setMany, List.set_cons_zero, List.set_cons_succ, body1, evSs, evS, evE, evEs, getS, List.getElem?_cons_zero, List.getElem?_cons_succ, bind_ok, stm_ok, of_some, cp53, e5 (n + 2) h (Pre.refl h), biA, a1, a2, ne_str, kOr_f, e6 (n + 2) _ p1, a3, a4, b1, b2, Bool.not_true, kNot_b, kIf_f, kSeq_nx]
end K90
end Mini
set_option autoImplicit false
set_option maxHeartbeats 4000000
namespace Mini
open PySem L2
namespace K90
/-- a good field: it is == itself, and shown -/
structure Fld (h : AH) (c : AV) (d : PyData) : Prop where
  self : ∀ h', Pre h h' → ∀ cal, cmpA P cal .eq c c h' = some (.bl true, h')
  same : sameA 20 c c = true
  data : toPyD h 59 c = some d
theorem Fld.pre {h h' : AH} {c : AV} {d : PyData} (p : Pre h h') (x : Fld h c d) : Fld h' c d := ⟨fun k q => x.self k (p.trans q), x.same, toPyD_pre p _ _ _ x.data⟩
theorem eq_tup {cal : Nat → List AV → AH → R AV} {h : AH} {xs : List AV} (e : all2 (sameA 20) xs xs = true) : cmpA P cal .eq (.tup xs) (.tup xs) h = some (.bl true, h) := by
  simp [cmpA, ownA, insOf, eqTop, eqStr, topSame, e]
/-- three expressions that make a row -/
theorem tup3 {cal : Nat → List AV → AH → R AV} {e1 e2 e3 : ME} {σ : Sg} {h h1 h2 h3 : AH} {x y z : AV} (a : evE P cal e1 σ h = .ok x h1) (b : evE P cal e2 σ h1 = .ok y h2) (c : evE P cal e3 σ h2 = .ok z h3) :
    evE P cal (.tup (.cons e1 (.cons e2 (.cons e3 .nil)))) σ h = .ok (.tup [x, y, z]) h3 := by
  simp only [evE, evEs, a, b, c, bind_ok, kTup3]
/-- a row as it lies in the store -/
def RowRaw (h : AH) (r : AV) (g : Nat) (nm : Str) (fs : List Str) (cs : List AV) : Prop := ∃ i j l, r = .tup [.ref i, .ref j, .ref l] ∧ h[i]? = some (.ins g (fs.zip cs)) ∧ h[j]? = some (.ins g (fs.zip cs)) ∧ h[l]? = some (.lst (.str nm :: cs))
theorem RowRaw.pre {h h' : AH} {r : AV} {g : Nat} {nm : Str} {fs : List Str} {cs : List AV} (p : Pre h h') (x : RowRaw h r g nm fs cs) : RowRaw h' r g nm fs cs := by
  obtain ⟨i, j, l, e, e1, e2, e3⟩ := x
  exact ⟨i, j, l, e, p.get e1, p.get e2, p.get e3⟩
theorem RowRaw.set {h : AH} {r : AV} {g : Nat} {nm : Str} {fs : List Str} {cs : List AV} {k : Nat} {ys ws xs : List AV} (x : RowRaw h r g nm fs cs) (z : h[k]? = some (.lst (.tup ys :: ws))) : RowRaw (h.set k (.lst xs)) r g nm fs cs := by
  obtain ⟨i, j, l, e, e1, e2, e3⟩ := x
  have n1 : k ≠ i := fun q => by subst q; rw [z] at e1; cases e1
  have n2 : k ≠ j := fun q => by subst q; rw [z] at e2; cases e2
  have n3 : k ≠ l := fun q => by subst q; rw [z] at e3; cases e3
  exact ⟨i, j, l, e, by rw [List.getElem?_set_ne n1]; exact e1, by rw [List.getElem?_set_ne n2]; exact e2, by rw [List.getElem?_set_ne n3]; exact e3⟩
/-- what it tells -/
theorem mkG {g : Nat} {nm : Str} {fs : List Str} {cs : List AV} {ds : List PyData} {h : AH} {r : AV} (c : CT g) (hf : ∀ (n : Nat) (h : AH) (i : Nat), h[i]? = some (.ins g (fs.zip cs)) → calA P (n + 1) 53 [.ref i] h = .ok (.ref h.length) (h ++ [.lst (.str nm :: cs)]))
    (he : ∀ (n : Nat) (h' : AH) (i j : Nat), Pre h h' → h'[i]? = some (.ins g (fs.zip cs)) → h'[j]? = some (.ins g (fs.zip cs)) → calA P (n + 2) (g + 2) [.ref i, .ref j] h' = .ok (.bl true) h')
    (hd : optAll (toPyD h 59) cs = some ds) (hs : showOk (.list (.str nm :: ds)) = true) (x : RowRaw h r g nm fs cs) : RowG h r g := by
  obtain ⟨i, j, l, e, e1, e2, e3⟩ := x
  exact ⟨c, i, j, l, nm, cs, ds, _, _, e, e1, e2, e3, fun m k q => hf m k _ (q.get e1), fun m k q => hf m k _ (q.get e2), hd, hs, fun m k q => he m k _ _ q (q.get e1) (q.get e2)⟩
/-- a row, from its class -/
theorem mkRow {g : Nat} {nm : Str} {fs : List Str} {vs cs : List AV} {h : AH} (c : CT g) (hi : P (g + 1) = some (.def_ (mkInit fs))) (nd : nodupB fs = true) (hz : fs.length < 900)
    (hl : vs.length = fs.length) (hcl : cs.length = fs.length) (hlen : cs.length + 1 ≤ sizeLine) (ho : ∀ (j : Nat) (v c : AV), vs[j]? = some v → cs[j]? = some c → VOk h v c)
    {n : Nat} {σ : Sg} {ks : List Str} {e1 e2 : MEs} {e3 : MEs} {kvs : List AV} (x1 : ∀ h, evEs P (calA P (n + 2)) e1 σ h = .ok vs h) (x2 : ∀ h, evEs P (calA P (n + 2)) e2 σ h = .ok kvs h) (hb : bindK fs [] ks kvs = some vs) (hk : kwOk fs 0 ks = true)
    (x3 : ∀ h, evEs P (calA P (n + 2)) e3 σ h = .ok (.str nm :: cs) h) :
    ∃ r h', evE P (calA P (n + 2)) (.tup (.cons (.call g e1) (.cons (.callk g .nil ks e2) (.cons (.lst e3) .nil)))) σ h = .ok r h' ∧ Pre h h' ∧ RowRaw h' r g nm fs cs := by
  have p1 : Pre h (h ++ [AO.ins g (fs.zip cs)]) := Pre.app _ _
  have p2 : Pre (h ++ [AO.ins g (fs.zip cs)]) (h ++ [AO.ins g (fs.zip cs)] ++ [AO.ins g (fs.zip cs)]) := Pre.app _ _
  have p3 : Pre (h ++ [AO.ins g (fs.zip cs)] ++ [AO.ins g (fs.zip cs)]) (h ++ [AO.ins g (fs.zip cs)] ++ [AO.ins g (fs.zip cs)] ++ [AO.lst (.str nm :: cs)]) := Pre.app _ _
  have a : evE P (calA P (n + 2)) (.call g e1) σ h = .ok (.ref h.length) (h ++ [AO.ins g (fs.zip cs)]) := by
    simp only [evE, x1 h, bind_ok]
    exact make_P c.c hi nd hz hl hcl ho
  have b : evE P (calA P (n + 2)) (.callk g .nil ks e2) σ (h ++ [AO.ins g (fs.zip cs)]) = .ok (.ref (h ++ [AO.ins g (fs.zip cs)]).length) (h ++ [AO.ins g (fs.zip cs)] ++ [AO.ins g (fs.zip cs)]) := by
    simp only [evE, evEs, bind_ok, x2 (h ++ [AO.ins g (fs.zip cs)])]
    exact make_K c.c hi nd hz hb hk hl hcl fun j v u q w => (ho j v u q w).pre p1
  have e : evE P (calA P (n + 2)) (.lst e3) σ (h ++ [AO.ins g (fs.zip cs)] ++ [AO.ins g (fs.zip cs)]) = .ok (.ref (h ++ [AO.ins g (fs.zip cs)] ++ [AO.ins g (fs.zip cs)]).length) (h ++ [AO.ins g (fs.zip cs)] ++ [AO.ins g (fs.zip cs)] ++ [AO.lst (.str nm :: cs)]) := by
    simp only [evE, x3 (h ++ [AO.ins g (fs.zip cs)] ++ [AO.ins g (fs.zip cs)]), bind_ok]
    exact if_pos (by simpa using hlen)
  have g1 := (p2.trans p3).get (get_new h (AO.ins g (fs.zip cs)))
  have g2 := p3.get (get_new (h ++ [AO.ins g (fs.zip cs)]) (AO.ins g (fs.zip cs)))
  have g3 := get_new (h ++ [AO.ins g (fs.zip cs)] ++ [AO.ins g (fs.zip cs)]) (.lst (.str nm :: cs))
  have pp := (p1.trans p2).trans p3
  exact ⟨_, _, tup3 a b e, pp, _, _, _, rfl, g1, g2, g3⟩
/-! ### what is shown -/
theorem text_len : ∀ (ts : List Str) (k : Nat) (acc : Str), (textFrom k acc ts).length ≤ acc.length + (ts.map fun t => t.length + 2).sum
  | [], k, acc => by unfold textFrom; simp
  | t :: ts, k, acc => by
    unfold textFrom
    refine Nat.le_trans (text_len ts (k + 1) _) ?_
    rw [strLen_append, strLen_append, List.map_cons, List.sum_cons]
    have : (if k > 0 then (", " : Str) else ("" : Str)).length ≤ 2 := by
      split
      · exact Nat.le_refl _
      · exact Nat.zero_le _
    have e : ((if k > 0 then ", " else "" : String) : Str) = if k > 0 then (", " : Str) else ("" : Str) := by split <;> rfl
    rw [e]
    omega
/-- data that may be shown within a row -/
def Sh (d : PyData) : Prop := d.showable = true ∧ d.shown.length ≤ 1000 ∧ d.depth ≤ 10
theorem sh_sum : ∀ {l : List PyData}, (∀ z ∈ l, Sh z) → ((PyData.shownAll l).map fun t => t.length + 2).sum ≤ 1002 * l.length ∧ PyData.showableAll l = true ∧ PyData.depthAll l ≤ 10
  | [], _ => ⟨by simp [PyData.shownAll], rfl, Nat.zero_le _⟩
  | d :: l, h => by
    obtain ⟨h1, h2, h3⟩ := h d List.mem_cons_self
    obtain ⟨i1, i2, i3⟩ := sh_sum fun z hz => h z (List.mem_cons_of_mem _ hz)
    refine ⟨?_, ?_, ?_⟩
    · rw [PyData.shownAll, List.map_cons, List.sum_cons, List.length_cons]
      omega
    · rw [PyData.showableAll, h1, i2]; rfl
    · rw [PyData.depthAll]; omega
theorem show_list (nm : Str) {ds : List PyData} (hn : Sh (.str nm)) (hl : ds.length ≤ 6) (h : ∀ z ∈ ds, Sh z) : showOk (.list (.str nm :: ds)) = true := by
  obtain ⟨i1, i2, i3⟩ := sh_sum (l := .str nm :: ds) fun z hz => by
    rcases List.mem_cons.mp hz with rfl | hz
    · exact hn
    · exact h z hz
  unfold showOk
  have e1 : PyData.showable (.list (.str nm :: ds)) = true := by rw [PyData.showable]; exact i2
  have e2 : (PyData.list (.str nm :: ds)).shown.length ≤ sizeLine := by
    rw [PyData.shown]
    unfold listText
    rw [strLen_append]
    have := text_len (PyData.shownAll (.str nm :: ds)) 0 "["
    have a1 : ("[" : Str).length = 1 := rfl
    have a2 : ("]" : Str).length = 1 := rfl
    have a3 : (PyData.str nm :: ds).length ≤ 7 := by simpa using hl
    have a4 : (10000 : Nat) ≤ sizeLine := by decide
    omega
  have e3 : (PyData.list (.str nm :: ds)).depth ≤ 64 := by rw [PyData.depth]; omega
  rw [e1, decide_eq_true e2, decide_eq_true e3]
  rfl
/-- the four values of the law, their copies -/
structure Four (h : AH) (a b c d e f g k : AV) : Prop where
  va : VOk h a e
  vb : VOk h b f
  vc : VOk h c g
  vd : VOk h d k
  sh : ∃ d1 d2 d3 d4, (Fld h e d1 ∧ Sh d1) ∧ (Fld h f d2 ∧ Sh d2) ∧ (Fld h g d3 ∧ Sh d3) ∧ (Fld h k d4 ∧ Sh d4)
theorem Four.a {h : AH} {a b c d e f g k : AV} (x : Four h a b c d e f g k) : ∃ d1, Fld h e d1 := let ⟨d1, _, _, _, q, _⟩ := x.sh; ⟨d1, q.1⟩
theorem Four.pre {h h' : AH} {a b c d e f g k : AV} (p : Pre h h') (x : Four h a b c d e f g k) : Four h' a b c d e f g k := by
  obtain ⟨v1, v2, v3, v4, d1, d2, d3, d4, q1, q2, q3, q4⟩ := x
  exact ⟨v1.pre p, v2.pre p, v3.pre p, v4.pre p, d1, d2, d3, d4, ⟨q1.1.pre p, q1.2⟩, ⟨q2.1.pre p, q2.2⟩, ⟨q3.1.pre p, q3.2⟩, ⟨q4.1.pre p, q4.2⟩⟩
theorem Four.ok {h : AH} {a b c d e f g k : AV} (x : Four h a b c d e f g k) : ∀ (l : List Nat) (j : Nat) (v u : AV), (l.map fun i => [a, b, c, d].getD i a)[j]? = some v → (l.map fun i => [e, f, g, k].getD i e)[j]? = some u → VOk h v u := fun l j v u hv hu => by
  rw [List.getElem?_map] at hv hu
  cases z : l[j]? with
  | none => rw [z] at hv; cases hv
  | some i =>
    rw [z] at hv hu
    simp only [Option.map_some, Option.some.injEq] at hv hu
    subst hv hu
    match i with
    | 0 => exact x.va
    | 1 => exact x.vb
    | 2 => exact x.vc
    | 3 => exact x.vd
    | _ + 4 => exact x.va
def rowE1 : ME := (.tup (.cons (.call 1 (.cons (.var 0) (.cons (.var 1) (.cons (.var 2) .nil)))) (.cons (.callk 1 .nil ["what", "column", "line"] (.cons (.var 2) (.cons (.var 1) (.cons (.var 0) .nil)))) (.cons (.lst (.cons (.str "Stops") (.cons (.var 4) (.cons (.var 5) (.cons (.var 6) .nil))))) .nil))))
theorem mk1 {n : Nat} {h : AH} {a b c d e f g k : AV} {s8 : Option AV} (x : Four h a b c d e f g k) : ∃ r h', evE P (calA P (n + 2)) rowE1 [some a, some b, some c, some d, some e, some f, some g, some k, s8] h = .ok r h' ∧ Pre h h' ∧ RowRaw h' r 1 "Stops" ["line", "column", "what"] [e, f, g] :=
  mkRow (vs := [a, b, c]) ct1 rfl (by decide +kernel) (by decide) rfl rfl (by show 4 ≤ sizeLine; decide) (fun j v u hv hu => x.ok [0, 1, 2] j v u (by simpa using hv) (by simpa using hu)) (kvs := [c, b, a]) (fun h => by simp only [evE, evEs, getS, List.getElem?_cons_zero, List.getElem?_cons_succ, bind_ok]) (fun h => by simp only [evE, evEs, getS, List.getElem?_cons_zero, List.getElem?_cons_succ, bind_ok]) rfl (by decide +kernel) (fun h => by simp only [evE, evEs, getS, List.getElem?_cons_zero, List.getElem?_cons_succ, bind_ok])
theorem up1 {h : AH} {a b c d e f g k r : AV} (x : Four h a b c d e f g k) (w : RowRaw h r 1 "Stops" ["line", "column", "what"] [e, f, g]) : RowG h r 1 := by
  obtain ⟨d1, d2, d3, d4, q1, q2, q3, q4⟩ := x.sh
  refine mkG (nm := "Stops") (fs := ["line", "column", "what"]) (cs := [e, f, g]) (ds := [d1, d2, d3]) ct1 (fun n h i z => fields1 z) (fun n h' i j p zi zj => by rw [eq1 zi zj, eq_tup (by simp only [all2, q1.1.same, q2.1.same, q3.1.same, Bool.and_self])]; rfl) (by simp only [optAll, q1.1.data, q2.1.data, q3.1.data, q4.1.data]) (show_list _ ⟨by decide +kernel, by decide +kernel, by decide +kernel⟩ (by simp) fun z hz => ?_) w
  simp only [List.mem_cons, List.not_mem_nil, or_false] at hz
  rcases hz with rfl | rfl | rfl <;> first | exact q1.2 | exact q2.2 | exact q3.2 | exact q4.2
def rowE5 : ME := (.tup (.cons (.call 5 (.cons (.var 0) .nil)) (.cons (.callk 5 .nil ["ratio"] (.cons (.var 0) .nil)) (.cons (.lst (.cons (.str "Limit") (.cons (.var 4) .nil))) .nil))))
theorem mk5 {n : Nat} {h : AH} {a b c d e f g k : AV} {s8 : Option AV} (x : Four h a b c d e f g k) : ∃ r h', evE P (calA P (n + 2)) rowE5 [some a, some b, some c, some d, some e, some f, some g, some k, s8] h = .ok r h' ∧ Pre h h' ∧ RowRaw h' r 5 "Limit" ["ratio"] [e] :=
  mkRow (vs := [a]) ct5 rfl (by decide +kernel) (by decide) rfl rfl (by show 2 ≤ sizeLine; decide) (fun j v u hv hu => x.ok [0] j v u (by simpa using hv) (by simpa using hu)) (kvs := [a]) (fun h => by simp only [evE, evEs, getS, List.getElem?_cons_zero, List.getElem?_cons_succ, bind_ok]) (fun h => by simp only [evE, evEs, getS, List.getElem?_cons_zero, List.getElem?_cons_succ, bind_ok]) rfl (by decide +kernel) (fun h => by simp only [evE, evEs, getS, List.getElem?_cons_zero, List.getElem?_cons_succ, bind_ok])
theorem up5 {h : AH} {a b c d e f g k r : AV} (x : Four h a b c d e f g k) (w : RowRaw h r 5 "Limit" ["ratio"] [e]) : RowG h r 5 := by
  obtain ⟨d1, d2, d3, d4, q1, q2, q3, q4⟩ := x.sh
  refine mkG (nm := "Limit") (fs := ["ratio"]) (cs := [e]) (ds := [d1]) ct5 (fun n h i z => fields5 z) (fun n h' i j p zi zj => by rw [eq5 zi zj, q1.1.self h' p]; rfl) (by simp only [optAll, q1.1.data, q2.1.data, q3.1.data, q4.1.data]) (show_list _ ⟨by decide +kernel, by decide +kernel, by decide +kernel⟩ (by simp) fun z hz => ?_) w
  simp only [List.mem_cons, List.not_mem_nil, or_false] at hz
  rcases hz with rfl <;> first | exact q1.2 | exact q2.2 | exact q3.2 | exact q4.2
def rowE9 : ME := (.tup (.cons (.call 9 (.cons (.var 1) .nil)) (.cons (.callk 9 .nil ["sign"] (.cons (.var 1) .nil)) (.cons (.lst (.cons (.str "Infinite") (.cons (.var 5) .nil))) .nil))))
theorem mk9 {n : Nat} {h : AH} {a b c d e f g k : AV} {s8 : Option AV} (x : Four h a b c d e f g k) : ∃ r h', evE P (calA P (n + 2)) rowE9 [some a, some b, some c, some d, some e, some f, some g, some k, s8] h = .ok r h' ∧ Pre h h' ∧ RowRaw h' r 9 "Infinite" ["sign"] [f] :=
  mkRow (vs := [b]) ct9 rfl (by decide +kernel) (by decide) rfl rfl (by show 2 ≤ sizeLine; decide) (fun j v u hv hu => x.ok [1] j v u (by simpa using hv) (by simpa using hu)) (kvs := [b]) (fun h => by simp only [evE, evEs, getS, List.getElem?_cons_zero, List.getElem?_cons_succ, bind_ok]) (fun h => by simp only [evE, evEs, getS, List.getElem?_cons_zero, List.getElem?_cons_succ, bind_ok]) rfl (by decide +kernel) (fun h => by simp only [evE, evEs, getS, List.getElem?_cons_zero, List.getElem?_cons_succ, bind_ok])
theorem up9 {h : AH} {a b c d e f g k r : AV} (x : Four h a b c d e f g k) (w : RowRaw h r 9 "Infinite" ["sign"] [f]) : RowG h r 9 := by
  obtain ⟨d1, d2, d3, d4, q1, q2, q3, q4⟩ := x.sh
  refine mkG (nm := "Infinite") (fs := ["sign"]) (cs := [f]) (ds := [d2]) ct9 (fun n h i z => fields9 z) (fun n h' i j p zi zj => by rw [eq9 zi zj, q2.1.self h' p]; rfl) (by simp only [optAll, q1.1.data, q2.1.data, q3.1.data, q4.1.data]) (show_list _ ⟨by decide +kernel, by decide +kernel, by decide +kernel⟩ (by simp) fun z hz => ?_) w
  simp only [List.mem_cons, List.not_mem_nil, or_false] at hz
  rcases hz with rfl <;> first | exact q1.2 | exact q2.2 | exact q3.2 | exact q4.2
def rowE13 : ME := (.tup (.cons (.call 13 (.cons (.var 2) .nil)) (.cons (.callk 13 .nil ["number"] (.cons (.var 2) .nil)) (.cons (.lst (.cons (.str "Sign") (.cons (.var 6) .nil))) .nil))))
theorem mk13 {n : Nat} {h : AH} {a b c d e f g k : AV} {s8 : Option AV} (x : Four h a b c d e f g k) : ∃ r h', evE P (calA P (n + 2)) rowE13 [some a, some b, some c, some d, some e, some f, some g, some k, s8] h = .ok r h' ∧ Pre h h' ∧ RowRaw h' r 13 "Sign" ["number"] [g] :=
  mkRow (vs := [c]) ct13 rfl (by decide +kernel) (by decide) rfl rfl (by show 2 ≤ sizeLine; decide) (fun j v u hv hu => x.ok [2] j v u (by simpa using hv) (by simpa using hu)) (kvs := [c]) (fun h => by simp only [evE, evEs, getS, List.getElem?_cons_zero, List.getElem?_cons_succ, bind_ok]) (fun h => by simp only [evE, evEs, getS, List.getElem?_cons_zero, List.getElem?_cons_succ, bind_ok]) rfl (by decide +kernel) (fun h => by simp only [evE, evEs, getS, List.getElem?_cons_zero, List.getElem?_cons_succ, bind_ok])
theorem up13 {h : AH} {a b c d e f g k r : AV} (x : Four h a b c d e f g k) (w : RowRaw h r 13 "Sign" ["number"] [g]) : RowG h r 13 := by
  obtain ⟨d1, d2, d3, d4, q1, q2, q3, q4⟩ := x.sh
  refine mkG (nm := "Sign") (fs := ["number"]) (cs := [g]) (ds := [d3]) ct13 (fun n h i z => fields13 z) (fun n h' i j p zi zj => by rw [eq13 zi zj, q3.1.self h' p]; rfl) (by simp only [optAll, q1.1.data, q2.1.data, q3.1.data, q4.1.data]) (show_list _ ⟨by decide +kernel, by decide +kernel, by decide +kernel⟩ (by simp) fun z hz => ?_) w
  simp only [List.mem_cons, List.not_mem_nil, or_false] at hz
  rcases hz with rfl <;> first | exact q1.2 | exact q2.2 | exact q3.2 | exact q4.2
def rowE17 : ME := (.tup (.cons (.call 17 (.cons (.var 0) (.cons (.var 3) .nil))) (.cons (.callk 17 .nil ["ratio", "word"] (.cons (.var 3) (.cons (.var 0) .nil))) (.cons (.lst (.cons (.str "Order") (.cons (.var 4) (.cons (.var 7) .nil)))) .nil))))
theorem mk17 {n : Nat} {h : AH} {a b c d e f g k : AV} {s8 : Option AV} (x : Four h a b c d e f g k) : ∃ r h', evE P (calA P (n + 2)) rowE17 [some a, some b, some c, some d, some e, some f, some g, some k, s8] h = .ok r h' ∧ Pre h h' ∧ RowRaw h' r 17 "Order" ["word", "ratio"] [e, k] :=
  mkRow (vs := [a, d]) ct17 rfl (by decide +kernel) (by decide) rfl rfl (by show 3 ≤ sizeLine; decide) (fun j v u hv hu => x.ok [0, 3] j v u (by simpa using hv) (by simpa using hu)) (kvs := [d, a]) (fun h => by simp only [evE, evEs, getS, List.getElem?_cons_zero, List.getElem?_cons_succ, bind_ok]) (fun h => by simp only [evE, evEs, getS, List.getElem?_cons_zero, List.getElem?_cons_succ, bind_ok]) rfl (by decide +kernel) (fun h => by simp only [evE, evEs, getS, List.getElem?_cons_zero, List.getElem?_cons_succ, bind_ok])
theorem up17 {h : AH} {a b c d e f g k r : AV} (x : Four h a b c d e f g k) (w : RowRaw h r 17 "Order" ["word", "ratio"] [e, k]) : RowG h r 17 := by
  obtain ⟨d1, d2, d3, d4, q1, q2, q3, q4⟩ := x.sh
  refine mkG (nm := "Order") (fs := ["word", "ratio"]) (cs := [e, k]) (ds := [d1, d4]) ct17 (fun n h i z => fields17 z) (fun n h' i j p zi zj => by rw [eq17 zi zj, eq_tup (by simp only [all2, q1.1.same, q4.1.same, Bool.and_self])]; rfl) (by simp only [optAll, q1.1.data, q2.1.data, q3.1.data, q4.1.data]) (show_list _ ⟨by decide +kernel, by decide +kernel, by decide +kernel⟩ (by simp) fun z hz => ?_) w
  simp only [List.mem_cons, List.not_mem_nil, or_false] at hz
  rcases hz with rfl | rfl <;> first | exact q1.2 | exact q2.2 | exact q3.2 | exact q4.2
def rowE21 : ME := (.tup (.cons (.call 21 (.cons (.var 1) .nil)) (.cons (.callk 21 .nil ["row"] (.cons (.var 1) .nil)) (.cons (.lst (.cons (.str "Expansion") (.cons (.var 5) .nil))) .nil))))
theorem mk21 {n : Nat} {h : AH} {a b c d e f g k : AV} {s8 : Option AV} (x : Four h a b c d e f g k) : ∃ r h', evE P (calA P (n + 2)) rowE21 [some a, some b, some c, some d, some e, some f, some g, some k, s8] h = .ok r h' ∧ Pre h h' ∧ RowRaw h' r 21 "Expansion" ["row"] [f] :=
  mkRow (vs := [b]) ct21 rfl (by decide +kernel) (by decide) rfl rfl (by show 2 ≤ sizeLine; decide) (fun j v u hv hu => x.ok [1] j v u (by simpa using hv) (by simpa using hu)) (kvs := [b]) (fun h => by simp only [evE, evEs, getS, List.getElem?_cons_zero, List.getElem?_cons_succ, bind_ok]) (fun h => by simp only [evE, evEs, getS, List.getElem?_cons_zero, List.getElem?_cons_succ, bind_ok]) rfl (by decide +kernel) (fun h => by simp only [evE, evEs, getS, List.getElem?_cons_zero, List.getElem?_cons_succ, bind_ok])
theorem up21 {h : AH} {a b c d e f g k r : AV} (x : Four h a b c d e f g k) (w : RowRaw h r 21 "Expansion" ["row"] [f]) : RowG h r 21 := by
  obtain ⟨d1, d2, d3, d4, q1, q2, q3, q4⟩ := x.sh
  refine mkG (nm := "Expansion") (fs := ["row"]) (cs := [f]) (ds := [d2]) ct21 (fun n h i z => fields21 z) (fun n h' i j p zi zj => by rw [eq21 zi zj, q2.1.self h' p]; rfl) (by simp only [optAll, q1.1.data, q2.1.data, q3.1.data, q4.1.data]) (show_list _ ⟨by decide +kernel, by decide +kernel, by decide +kernel⟩ (by simp) fun z hz => ?_) w
  simp only [List.mem_cons, List.not_mem_nil, or_false] at hz
  rcases hz with rfl <;> first | exact q1.2 | exact q2.2 | exact q3.2 | exact q4.2
def rowE25 : ME := (.tup (.cons (.call 25 (.cons (.var 0) (.cons (.var 1) (.cons (.var 2) (.cons (.var 3) .nil))))) (.cons (.callk 25 .nil ["home", "unit", "log", "kind"] (.cons (.var 3) (.cons (.var 2) (.cons (.var 1) (.cons (.var 0) .nil))))) (.cons (.lst (.cons (.str "Letter") (.cons (.var 4) (.cons (.var 5) (.cons (.var 6) (.cons (.var 7) .nil)))))) .nil))))
theorem mk25 {n : Nat} {h : AH} {a b c d e f g k : AV} {s8 : Option AV} (x : Four h a b c d e f g k) : ∃ r h', evE P (calA P (n + 2)) rowE25 [some a, some b, some c, some d, some e, some f, some g, some k, s8] h = .ok r h' ∧ Pre h h' ∧ RowRaw h' r 25 "Letter" ["kind", "log", "unit", "home"] [e, f, g, k] :=
  mkRow (vs := [a, b, c, d]) ct25 rfl (by decide +kernel) (by decide) rfl rfl (by show 5 ≤ sizeLine; decide) (fun j v u hv hu => x.ok [0, 1, 2, 3] j v u (by simpa using hv) (by simpa using hu)) (kvs := [d, c, b, a]) (fun h => by simp only [evE, evEs, getS, List.getElem?_cons_zero, List.getElem?_cons_succ, bind_ok]) (fun h => by simp only [evE, evEs, getS, List.getElem?_cons_zero, List.getElem?_cons_succ, bind_ok]) rfl (by decide +kernel) (fun h => by simp only [evE, evEs, getS, List.getElem?_cons_zero, List.getElem?_cons_succ, bind_ok])
theorem up25 {h : AH} {a b c d e f g k r : AV} (x : Four h a b c d e f g k) (w : RowRaw h r 25 "Letter" ["kind", "log", "unit", "home"] [e, f, g, k]) : RowG h r 25 := by
  obtain ⟨d1, d2, d3, d4, q1, q2, q3, q4⟩ := x.sh
  refine mkG (nm := "Letter") (fs := ["kind", "log", "unit", "home"]) (cs := [e, f, g, k]) (ds := [d1, d2, d3, d4]) ct25 (fun n h i z => fields25 z) (fun n h' i j p zi zj => by rw [eq25 zi zj, eq_tup (by simp only [all2, q1.1.same, q2.1.same, q3.1.same, q4.1.same, Bool.and_self])]; rfl) (by simp only [optAll, q1.1.data, q2.1.data, q3.1.data, q4.1.data]) (show_list _ ⟨by decide +kernel, by decide +kernel, by decide +kernel⟩ (by simp) fun z hz => ?_) w
  simp only [List.mem_cons, List.not_mem_nil, or_false] at hz
  rcases hz with rfl | rfl | rfl | rfl <;> first | exact q1.2 | exact q2.2 | exact q3.2 | exact q4.2
def rowE29 : ME := (.tup (.cons (.call 29 (.cons (.var 0) (.cons (.var 1) (.cons (.var 2) .nil)))) (.cons (.callk 29 .nil ["x", "order", "letters"] (.cons (.var 2) (.cons (.var 1) (.cons (.var 0) .nil)))) (.cons (.lst (.cons (.str "Field") (.cons (.var 4) (.cons (.var 5) (.cons (.var 6) .nil))))) .nil))))
theorem mk29 {n : Nat} {h : AH} {a b c d e f g k : AV} {s8 : Option AV} (x : Four h a b c d e f g k) : ∃ r h', evE P (calA P (n + 2)) rowE29 [some a, some b, some c, some d, some e, some f, some g, some k, s8] h = .ok r h' ∧ Pre h h' ∧ RowRaw h' r 29 "Field" ["letters", "order", "x"] [e, f, g] :=
  mkRow (vs := [a, b, c]) ct29 rfl (by decide +kernel) (by decide) rfl rfl (by show 4 ≤ sizeLine; decide) (fun j v u hv hu => x.ok [0, 1, 2] j v u (by simpa using hv) (by simpa using hu)) (kvs := [c, b, a]) (fun h => by simp only [evE, evEs, getS, List.getElem?_cons_zero, List.getElem?_cons_succ, bind_ok]) (fun h => by simp only [evE, evEs, getS, List.getElem?_cons_zero, List.getElem?_cons_succ, bind_ok]) rfl (by decide +kernel) (fun h => by simp only [evE, evEs, getS, List.getElem?_cons_zero, List.getElem?_cons_succ, bind_ok])
theorem up29 {h : AH} {a b c d e f g k r : AV} (x : Four h a b c d e f g k) (w : RowRaw h r 29 "Field" ["letters", "order", "x"] [e, f, g]) : RowG h r 29 := by
  obtain ⟨d1, d2, d3, d4, q1, q2, q3, q4⟩ := x.sh
  refine mkG (nm := "Field") (fs := ["letters", "order", "x"]) (cs := [e, f, g]) (ds := [d1, d2, d3]) ct29 (fun n h i z => fields29 z) (fun n h' i j p zi zj => by rw [eq29 zi zj, eq_tup (by simp only [all2, q1.1.same, q2.1.same, q3.1.same, Bool.and_self])]; rfl) (by simp only [optAll, q1.1.data, q2.1.data, q3.1.data, q4.1.data]) (show_list _ ⟨by decide +kernel, by decide +kernel, by decide +kernel⟩ (by simp) fun z hz => ?_) w
  simp only [List.mem_cons, List.not_mem_nil, or_false] at hz
  rcases hz with rfl | rfl | rfl <;> first | exact q1.2 | exact q2.2 | exact q3.2 | exact q4.2
def rowE35 : ME := (.tup (.cons (.call 35 (.cons (.var 2) (.cons (.var 3) .nil))) (.cons (.callk 35 .nil ["powers", "number"] (.cons (.var 3) (.cons (.var 2) .nil))) (.cons (.lst (.cons (.str "Lead") (.cons (.var 6) (.cons (.var 7) .nil)))) .nil))))
theorem mk35 {n : Nat} {h : AH} {a b c d e f g k : AV} {s8 : Option AV} (x : Four h a b c d e f g k) : ∃ r h', evE P (calA P (n + 2)) rowE35 [some a, some b, some c, some d, some e, some f, some g, some k, s8] h = .ok r h' ∧ Pre h h' ∧ RowRaw h' r 35 "Lead" ["number", "powers"] [g, k] :=
  mkRow (vs := [c, d]) ct35 rfl (by decide +kernel) (by decide) rfl rfl (by show 3 ≤ sizeLine; decide) (fun j v u hv hu => x.ok [2, 3] j v u (by simpa using hv) (by simpa using hu)) (kvs := [d, c]) (fun h => by simp only [evE, evEs, getS, List.getElem?_cons_zero, List.getElem?_cons_succ, bind_ok]) (fun h => by simp only [evE, evEs, getS, List.getElem?_cons_zero, List.getElem?_cons_succ, bind_ok]) rfl (by decide +kernel) (fun h => by simp only [evE, evEs, getS, List.getElem?_cons_zero, List.getElem?_cons_succ, bind_ok])
theorem up35 {h : AH} {a b c d e f g k r : AV} (x : Four h a b c d e f g k) (w : RowRaw h r 35 "Lead" ["number", "powers"] [g, k]) : RowG h r 35 := by
  obtain ⟨d1, d2, d3, d4, q1, q2, q3, q4⟩ := x.sh
  refine mkG (nm := "Lead") (fs := ["number", "powers"]) (cs := [g, k]) (ds := [d3, d4]) ct35 (fun n h i z => fields35 z) (fun n h' i j p zi zj => by rw [eq35 zi zj, eq_tup (by simp only [all2, q3.1.same, q4.1.same, Bool.and_self])]; rfl) (by simp only [optAll, q1.1.data, q2.1.data, q3.1.data, q4.1.data]) (show_list _ ⟨by decide +kernel, by decide +kernel, by decide +kernel⟩ (by simp) fun z hz => ?_) w
  simp only [List.mem_cons, List.not_mem_nil, or_false] at hz
  rcases hz with rfl | rfl <;> first | exact q1.2 | exact q2.2 | exact q3.2 | exact q4.2
def rowE39 : ME := (.tup (.cons (.call 39 (.cons (.var 0) (.cons (.var 1) (.cons (.var 2) .nil)))) (.cons (.callk 39 .nil ["spots", "asks", "lets"] (.cons (.var 2) (.cons (.var 1) (.cons (.var 0) .nil)))) (.cons (.lst (.cons (.str "Model") (.cons (.var 4) (.cons (.var 5) (.cons (.var 6) .nil))))) .nil))))
theorem mk39 {n : Nat} {h : AH} {a b c d e f g k : AV} {s8 : Option AV} (x : Four h a b c d e f g k) : ∃ r h', evE P (calA P (n + 2)) rowE39 [some a, some b, some c, some d, some e, some f, some g, some k, s8] h = .ok r h' ∧ Pre h h' ∧ RowRaw h' r 39 "Model" ["lets", "asks", "spots"] [e, f, g] :=
  mkRow (vs := [a, b, c]) ct39 rfl (by decide +kernel) (by decide) rfl rfl (by show 4 ≤ sizeLine; decide) (fun j v u hv hu => x.ok [0, 1, 2] j v u (by simpa using hv) (by simpa using hu)) (kvs := [c, b, a]) (fun h => by simp only [evE, evEs, getS, List.getElem?_cons_zero, List.getElem?_cons_succ, bind_ok]) (fun h => by simp only [evE, evEs, getS, List.getElem?_cons_zero, List.getElem?_cons_succ, bind_ok]) rfl (by decide +kernel) (fun h => by simp only [evE, evEs, getS, List.getElem?_cons_zero, List.getElem?_cons_succ, bind_ok])
theorem up39 {h : AH} {a b c d e f g k r : AV} (x : Four h a b c d e f g k) (w : RowRaw h r 39 "Model" ["lets", "asks", "spots"] [e, f, g]) : RowG h r 39 := by
  obtain ⟨d1, d2, d3, d4, q1, q2, q3, q4⟩ := x.sh
  refine mkG (nm := "Model") (fs := ["lets", "asks", "spots"]) (cs := [e, f, g]) (ds := [d1, d2, d3]) ct39 (fun n h i z => fields39 z) (fun n h' i j p zi zj => by rw [eq39 zi zj, eq_tup (by simp only [all2, q1.1.same, q2.1.same, Bool.and_self])]; rfl) (by simp only [optAll, q1.1.data, q2.1.data, q3.1.data, q4.1.data]) (show_list _ ⟨by decide +kernel, by decide +kernel, by decide +kernel⟩ (by simp) fun z hz => ?_) w
  simp only [List.mem_cons, List.not_mem_nil, or_false] at hz
  rcases hz with rfl | rfl | rfl <;> first | exact q1.2 | exact q2.2 | exact q3.2 | exact q4.2
def rowE43 : ME := (.tup (.cons (.call 43 (.cons (.var 0) (.cons (.var 1) (.cons (.var 2) (.cons (.var 3) (.cons (.var 0) (.cons (.var 1) .nil))))))) (.cons (.callk 43 .nil ["root", "places", "depth", "steps", "rows", "field"] (.cons (.var 1) (.cons (.var 0) (.cons (.var 3) (.cons (.var 2) (.cons (.var 1) (.cons (.var 0) .nil))))))) (.cons (.lst (.cons (.str "Paper") (.cons (.var 4) (.cons (.var 5) (.cons (.var 6) (.cons (.var 7) (.cons (.var 4) (.cons (.var 5) .nil)))))))) .nil))))
theorem mk43 {n : Nat} {h : AH} {a b c d e f g k : AV} {s8 : Option AV} (x : Four h a b c d e f g k) : ∃ r h', evE P (calA P (n + 2)) rowE43 [some a, some b, some c, some d, some e, some f, some g, some k, s8] h = .ok r h' ∧ Pre h h' ∧ RowRaw h' r 43 "Paper" ["field", "rows", "steps", "depth", "places", "root"] [e, f, g, k, e, f] :=
  mkRow (vs := [a, b, c, d, a, b]) ct43 rfl (by decide +kernel) (by decide) rfl rfl (by show 7 ≤ sizeLine; decide) (fun j v u hv hu => x.ok [0, 1, 2, 3, 0, 1] j v u (by simpa using hv) (by simpa using hu)) (kvs := [b, a, d, c, b, a]) (fun h => by simp only [evE, evEs, getS, List.getElem?_cons_zero, List.getElem?_cons_succ, bind_ok]) (fun h => by simp only [evE, evEs, getS, List.getElem?_cons_zero, List.getElem?_cons_succ, bind_ok]) rfl (by decide +kernel) (fun h => by simp only [evE, evEs, getS, List.getElem?_cons_zero, List.getElem?_cons_succ, bind_ok])
theorem up43 {h : AH} {a b c d e f g k r : AV} (x : Four h a b c d e f g k) (w : RowRaw h r 43 "Paper" ["field", "rows", "steps", "depth", "places", "root"] [e, f, g, k, e, f]) : RowG h r 43 := by
  obtain ⟨d1, d2, d3, d4, q1, q2, q3, q4⟩ := x.sh
  refine mkG (nm := "Paper") (fs := ["field", "rows", "steps", "depth", "places", "root"]) (cs := [e, f, g, k, e, f]) (ds := [d1, d2, d3, d4, d1, d2]) ct43 (fun n h i z => fields43 z) (fun n h' i j p zi zj => by rw [eq43 zi zj, eq_tup (by simp only [all2, q1.1.same, q2.1.same, q3.1.same, q4.1.same, Bool.and_self])]; rfl) (by simp only [optAll, q1.1.data, q2.1.data, q3.1.data, q4.1.data]) (show_list _ ⟨by decide +kernel, by decide +kernel, by decide +kernel⟩ (by simp) fun z hz => ?_) w
  simp only [List.mem_cons, List.not_mem_nil, or_false] at hz
  rcases hz with rfl | rfl | rfl | rfl | rfl | rfl <;> first | exact q1.2 | exact q2.2 | exact q3.2 | exact q4.2
end K90
end Mini
set_option autoImplicit false
set_option maxHeartbeats 4000000
namespace Mini
open PySem L2
theorem ss_nx {P : Prog} {cal : Nat → List AV → AH → R AV} {s : MS} {r : MSs} {σ σ' : Sg} {h h' : AH} (e : evS P cal s σ h = .nx σ' h') : evSs P cal (.cons s r) σ h = evSs P cal r σ' h' := by
  rw [evSs, e]; rfl
theorem ss_rt {P : Prog} {cal : Nat → List AV → AH → R AV} {s : MS} {r : MSs} {σ : Sg} {v : AV} {h h' : AH} (e : evS P cal s σ h = .rt v h') : evSs P cal (.cons s r) σ h = .rt v h' := by
  rw [evSs, e]; rfl
namespace K90
theorem cp52 {cal : Nat → List AV → AH → R AV} {v : AV} {h : AH} : callP P cal 52 [v] h = cal 52 [v] h := callP_def (d := d52) rfl rfl
theorem copy_run {n : Nat} {h : AH} {v c : AV} (e : VOk h v c) : calA P (n + 1) 52 [v] h = .ok c h := by
  rw [calA_def (d := d52) rfl rfl]
  show fin (evSs P (calA P n) d0.body [some v] h) = _
  rw [copy_body e]; rfl
theorem lst2 {cal : Nat → List AV → AH → R AV} {e1 e2 : ME} {σ : Sg} {h h1 h2 : AH} {x y : AV} (a : evE P cal e1 σ h = .ok x h1) (b : evE P cal e2 σ h1 = .ok y h2) : evE P cal (.lst (.cons e1 (.cons e2 .nil))) σ h = .ok (.ref h2.length) (h2 ++ [.lst [x, y]]) := by
  simp only [evE, evEs, a, b, bind_ok, kLst2]
theorem add_run {cal : Nat → List AV → AH → R AV} {e2 : ME} {σ : Sg} {h h1 : AH} {i k m : Nat} {xs ys : List AV} (v : getS σ i = some (.ref k)) (b : evE P cal e2 σ h = .ok (.ref m) h1) (zk : h1[k]? = some (.lst xs)) (zm : h1[m]? = some (.lst ys)) (hl : xs.length + ys.length ≤ sizeLine) :
    evE P cal (.bop .add (.var i) e2) σ h = .ok (.ref h1.length) (h1 ++ [.lst (xs ++ ys)]) := by
  simp only [evE, v, b, bind_ok, bopA, zk, zm]
  rw [if_pos hl]
  rfl
theorem app_run {cal : Nat → List AV → AH → R AV} {e2 : ME} {σ : Sg} {h h1 : AH} {i k : Nat} {x : AV} {xs : List AV} (v : getS σ i = some (.ref k)) (z0 : h[k]? = some (.lst xs)) (b : evE P cal e2 σ h = .ok x h1) (zk : h1[k]? = some (.lst xs)) (hl : xs.length < sizeLine) :
    evS P cal (.ex (.met .append (.var i) (.cons e2 .nil))) σ h = .nx σ (h1.set k (.lst (xs ++ [x]))) := by
  simp only [evS, evE, v, bind_ok, kMet, metTy, seq_lst z0, Option.isSome_some, if_true, evEs, b, metA, metAppend, zk]
  rw [if_pos hl]
  rfl
theorem Pre.set {h h' : AH} {k : Nat} {o : AO} (p : Pre h h') (hk : h.length ≤ k) : Pre h (h'.set k o) := by
  obtain ⟨l, rfl⟩ := p
  exact ⟨l.set (k - h.length) o, by rw [List.set_append_right _ _ hk]⟩
/-- the rows of the law: r's class -/
def gAt (i : Nat) : Nat := [1, 5, 9, 13, 17, 21, 25, 29, 35, 39, 43].getD i 0
theorem small {n : Nat} (h : n ≤ 1000) : n ≤ sizeLine := Nat.le_trans h (by decide)
theorem app_step {n : Nat} {h Hc : AH} {a b c d e f g k : AV} {K : Nat} {ys : List AV} {ws : List AV} {σ : Sg} {e2 : ME} {u : Nat} {nm : Str} {fs : List Str} {cs : List AV} (x : Four h a b c d e f g k) (p0 : Pre h Hc) (hK : h.length ≤ K) (z : Hc[K]? = some (.lst (.tup ys :: ws))) (hl : ws.length + 1 < 1000)
    (v : getS σ 8 = some (.ref K)) (mk : Four Hc a b c d e f g k → ∃ r h', evE P (calA P (n + 2)) e2 σ Hc = .ok r h' ∧ Pre Hc h' ∧ RowRaw h' r u nm fs cs) :
    ∃ r Hn, evS P (calA P (n + 2)) (.ex (.met .append (.var 8) (.cons e2 .nil))) σ Hc = .nx σ Hn ∧ Pre h Hn ∧ Hn[K]? = some (.lst (.tup ys :: (ws ++ [r]))) ∧ RowRaw Hn r u nm fs cs ∧ (∀ r' g' nm' fs' cs', RowRaw Hc r' g' nm' fs' cs' → RowRaw Hn r' g' nm' fs' cs') := by
  obtain ⟨r, h1, m, p, w⟩ := mk (x.pre p0)
  have zk := p.get z
  refine ⟨r, _, app_run v z m zk (Nat.lt_of_lt_of_le (by simpa using hl) (small (Nat.le_refl _))), Pre.set (p0.trans p) hK, ?_, w.set zk, fun r' g' nm' fs' cs' q => (q.pre p).set zk⟩
  rw [List.getElem?_set_self (lt_of zk)]
  rfl
theorem raw_tup {h : AH} {r : AV} {g : Nat} {nm : Str} {fs : List Str} {cs : List AV} (w : RowRaw h r g nm fs cs) : ∃ ys, r = .tup ys := let ⟨_, _, _, e, _⟩ := w; ⟨_, e⟩
def rowsB : MSs := .cons (.set 8 (.lst (.cons rowE1 (.cons rowE5 .nil)))) (.cons (.set 8 (.bop .add (.var 8) (.lst (.cons rowE9 (.cons rowE13 .nil))))) (.cons (.set 8 (.bop .add (.var 8) (.lst (.cons rowE17 (.cons rowE21 .nil)))))
  (.cons (.ex (.met .append (.var 8) (.cons rowE25 .nil))) (.cons (.ex (.met .append (.var 8) (.cons rowE29 .nil))) (.cons (.ex (.met .append (.var 8) (.cons rowE35 .nil))) (.cons (.ex (.met .append (.var 8) (.cons rowE39 .nil))) (.cons (.ex (.met .append (.var 8) (.cons rowE43 .nil))) (.cons (.ret (.var 8)) .nil))))))))
theorem set_run {cal : Nat → List AV → AH → R AV} {i : Nat} {e : ME} {σ : Sg} {h h' : AH} {v : AV} (a : evE P cal e σ h = .ok v h') : evS P cal (.set i e) σ h = .nx (σ.set i (some v)) h' := by
  simp only [evS, a, stm_ok]
theorem rows_run {n : Nat} {h : AH} {a b c d e f g k : AV} (x : Four h a b c d e f g k) : ∃ h' kr rs, calA P (n + 3) 54 [a, b, c, d] h = .ok (.ref kr) h' ∧ Pre h h' ∧ h'[kr]? = some (.lst rs) ∧ rs.length = 11 ∧ (∀ (i : Nat) (r : AV), rs[i]? = some r → RowG h' r (gAt i)) ∧
    (∃ r2, rs[1]? = some r2 ∧ RowRaw h' r2 5 "Limit" ["ratio"] [e]) ∧ h.length ≤ kr := by
  obtain ⟨r1, h1, m1, p1, w1⟩ := mk1 (n := n) (s8 := none) x
  have x1 := x.pre p1
  obtain ⟨r2, h2, m2, p2, w2⟩ := mk5 (n := n) (s8 := none) x1
  have x2 := x1.pre p2
  have s1 := lst2 m1 m2
  have q1 : Pre h2 (h2 ++ [AO.lst [r1, r2]]) := Pre.app _ _
  have z1 : (h2 ++ [AO.lst [r1, r2]])[h2.length]? = some (.lst [r1, r2]) := get_new _ _
  obtain ⟨r3, h3, m3, p3, w3⟩ := mk9 (n := n) (s8 := some (.ref h2.length)) (x2.pre q1)
  obtain ⟨r4, h4, m4, p4, w4⟩ := mk13 (n := n) (s8 := some (.ref h2.length)) ((x2.pre q1).pre p3)
  have s2 := lst2 m3 m4
  have q2 : Pre h4 (h4 ++ [AO.lst [r3, r4]]) := Pre.app _ _
  have s3 := add_run (i := 8) (k := h2.length) rfl s2 (((p3.trans p4).trans q2).get z1) (get_new _ _) (small (by simp))
  generalize hH5 : h4 ++ [AO.lst [r3, r4]] = H5 at s2 q2 s3
  have q3 : Pre H5 (H5 ++ [AO.lst ([r1, r2] ++ [r3, r4])]) := Pre.app _ _
  have z3 : (H5 ++ [AO.lst ([r1, r2] ++ [r3, r4])])[H5.length]? = some (.lst [r1, r2, r3, r4]) := get_new _ _
  have p05 : Pre h H5 := ((p1.trans p2).trans q1).trans ((p3.trans p4).trans q2)
  have x5 := (x.pre p05).pre q3
  obtain ⟨r5, h6, m5, p5, w5⟩ := mk17 (n := n) (s8 := some (.ref H5.length)) x5
  obtain ⟨r6, h7, m6, p6, w6⟩ := mk21 (n := n) (s8 := some (.ref H5.length)) (x5.pre p5)
  have s4 := lst2 m5 m6
  have q4 : Pre h7 (h7 ++ [AO.lst [r5, r6]]) := Pre.app _ _
  have s5 := add_run (i := 8) (k := H5.length) rfl s4 (((p5.trans p6).trans q4).get z3) (get_new _ _) (small (by simp))
  generalize hH8 : h7 ++ [AO.lst [r5, r6]] = H8 at s4 q4 s5
  have q5 : Pre H8 (H8 ++ [AO.lst ([r1, r2, r3, r4] ++ [r5, r6])]) := Pre.app _ _
  have z5 : (H8 ++ [AO.lst ([r1, r2, r3, r4] ++ [r5, r6])])[H8.length]? = some (.lst [r1, r2, r3, r4, r5, r6]) := get_new _ _
  have p58 : Pre H5 H8 := q3.trans ((p5.trans p6).trans q4)
  have p08 : Pre h H8 := p05.trans p58
  have p09 := p08.trans q5
  generalize hH9 : H8 ++ [AO.lst ([r1, r2, r3, r4] ++ [r5, r6])] = H9 at s5 q5 z5 p09
  have w1 := (((((w1.pre p2).pre q1).pre ((p3.trans p4).trans q2))).pre p58).pre q5
  have w2 := ((((w2.pre q1).pre ((p3.trans p4).trans q2))).pre p58).pre q5
  have w3 := ((w3.pre (p4.trans q2)).pre p58).pre q5
  have w4 := ((w4.pre q2).pre p58).pre q5
  have w5 := ((w5.pre p6).pre q4).pre q5
  have w6 := (w6.pre q4).pre q5
  obtain ⟨ys, rfl⟩ := raw_tup w1
  obtain ⟨r7, H10, t7, p010, z7, w7, k7⟩ := app_step (n := n) (σ := [some a, some b, some c, some d, some e, some f, some g, some k, some (.ref H8.length)]) x p09 p08.len z5 (by simp) rfl mk25
  obtain ⟨r8, H11, t8, p011, z8, w8, k8⟩ := app_step (n := n) (σ := [some a, some b, some c, some d, some e, some f, some g, some k, some (.ref H8.length)]) x p010 p08.len z7 (by simp) rfl mk29
  obtain ⟨r9, H12, t9, p012, z9, w9, k9⟩ := app_step (n := n) (σ := [some a, some b, some c, some d, some e, some f, some g, some k, some (.ref H8.length)]) x p011 p08.len z8 (by simp) rfl mk35
  obtain ⟨r10, H13, t10, p013, z10, w10, k10⟩ := app_step (n := n) (σ := [some a, some b, some c, some d, some e, some f, some g, some k, some (.ref H8.length)]) x p012 p08.len z9 (by simp) rfl mk39
  obtain ⟨r11, H14, t11, p014, z11, w11, k11⟩ := app_step (n := n) (σ := [some a, some b, some c, some d, some e, some f, some g, some k, some (.ref H8.length)]) x p013 p08.len z10 (by simp) rfl mk43
  have kk : ∀ {r' : AV} {g' : Nat} {nm' : Str} {fs' : List Str} {cs' : List AV}, RowRaw H9 r' g' nm' fs' cs' → RowRaw H14 r' g' nm' fs' cs' := fun q => k11 _ _ _ _ _ (k10 _ _ _ _ _ (k9 _ _ _ _ _ (k8 _ _ _ _ _ (k7 _ _ _ _ _ q))))
  have y := x.pre p014
  refine ⟨H14, H8.length, _, ?_, p014, z11, by simp, fun i r hr => ?_, ⟨r2, rfl, kk w2⟩, p08.len⟩
  · rw [calA_def (d := d54) rfl rfl]
    have e0 : evS P (calA P (n + 2)) (.unp [4, 5, 6, 7] (.tup (.cons (.call 52 (.cons (.var 0) .nil)) (.cons (.call 52 (.cons (.var 1) .nil)) (.cons (.call 52 (.cons (.var 2) .nil)) (.cons (.call 52 (.cons (.var 3) .nil)) .nil)))))) [some a, some b, some c, some d, none, none, none, none, none] h = .nx [some a, some b, some c, some d, some e, some f, some g, some k, none] h := by
      simp only [evS, evE, evEs, getS, List.getElem?_cons_zero, List.getElem?_cons_succ, bind_ok, stm_ok, cp52, copy_run x.va, copy_run x.vb, copy_run x.vc, copy_run x.vd, kTup4, kUnp, seqOf, setMany, List.set_cons_zero, List.set_cons_succ]
    show fin (evSs P (calA P (n + 2)) (.cons _ rowsB) [some a, some b, some c, some d, none, none, none, none, none] h) = _
    rw [ss_nx e0]
    unfold rowsB
    rw [ss_nx (set_run s1)]
    simp only [List.set_cons_zero, List.set_cons_succ]
    rw [ss_nx (set_run s3)]
    simp only [List.set_cons_zero, List.set_cons_succ]
    rw [ss_nx (set_run s5)]
    simp only [List.set_cons_zero, List.set_cons_succ]
    rw [ss_nx t7, ss_nx t8, ss_nx t9, ss_nx t10, ss_nx t11]
    simp only [evSs, evS, evE, getS, List.getElem?_cons_zero, List.getElem?_cons_succ, stm_ok, kSeq_rt, fin_rt]
  · match i, hr with
    | 0, hr => cases hr; exact up1 y (kk w1)
    | 1, hr => cases hr; exact up5 y (kk w2)
    | 2, hr => cases hr; exact up9 y (kk w3)
    | 3, hr => cases hr; exact up13 y (kk w4)
    | 4, hr => cases hr; exact up17 y (kk w5)
    | 5, hr => cases hr; exact up21 y (kk w6)
    | 6, hr => cases hr; exact up25 y (k11 _ _ _ _ _ (k10 _ _ _ _ _ (k9 _ _ _ _ _ (k8 _ _ _ _ _ w7))))
    | 7, hr => cases hr; exact up29 y (k11 _ _ _ _ _ (k10 _ _ _ _ _ (k9 _ _ _ _ _ w8)))
    | 8, hr => cases hr; exact up35 y (k11 _ _ _ _ _ (k10 _ _ _ _ _ w9))
    | 9, hr => cases hr; exact up39 y (k11 _ _ _ _ _ w10)
    | 10, hr => cases hr; exact up43 y w11
end K90
end Mini
set_option autoImplicit false
set_option maxHeartbeats 4000000
namespace Mini
open PySem L2
namespace K90
/-! ### the pen -/
def penL (kc : Nat) (t dg ct fo : Int) : List (Str × AV) := [("cells", .ref kc), ("at", .int t), ("digits", .int dg), ("count", .int ct), ("fold", .int fo)]
theorem lk1 {kc : Nat} {t dg ct fo : Int} : (penL kc t dg ct fo).lookup ("cells" : Str) = some (AV.ref kc) := rfl
theorem lk2 {kc : Nat} {t dg ct fo : Int} : (penL kc t dg ct fo).lookup ("at" : Str) = some (AV.int t) := rfl
theorem lk3 {kc : Nat} {t dg ct fo : Int} : (penL kc t dg ct fo).lookup ("digits" : Str) = some (AV.int dg) := rfl
theorem lk4 {kc : Nat} {t dg ct fo : Int} : (penL kc t dg ct fo).lookup ("count" : Str) = some (AV.int ct) := rfl
theorem lk5 {kc : Nat} {t dg ct fo : Int} : (penL kc t dg ct fo).lookup ("fold" : Str) = some (AV.int fo) := rfl
theorem pu2 {kc : Nat} {t dg ct fo v : Int} : putA (penL kc t dg ct fo) "at" (.int v) = penL kc v dg ct fo := rfl
theorem pu3 {kc : Nat} {t dg ct fo v : Int} : putA (penL kc t dg ct fo) "digits" (.int v) = penL kc t v ct fo := rfl
theorem pu4 {kc : Nat} {t dg ct fo v : Int} : putA (penL kc t dg ct fo) "count" (.int v) = penL kc t dg v fo := rfl
theorem pu5 {kc : Nat} {t dg ct fo v : Int} : putA (penL kc t dg ct fo) "fold" (.int v) = penL kc t dg ct v := rfl
theorem pln {kc : Nat} {t dg ct fo : Int} : (penL kc t dg ct fo).length = 5 := rfl
structure PenOk (m : Nat) (h : AH) (kp kc : Nat) (t dg ct fo : Int) (xs : List Int) : Prop where
  pen : h[kp]? = some (.dct (penL kc t dg ct fo))
  cells : h[kc]? = some (.lst (xs.map .int))
  t0 : 0 ≤ t
  c0 : 0 ≤ ct
  c1 : ct ≤ m
  f0 : 0 ≤ fo
  f1 : fo < 2147483059
theorem pen_ne {h : AH} {kp kc : Nat} {a : List (Str × AV)} {b : List AV} (x : h[kp]? = some (.dct a)) (y : h[kc]? = some (.lst b)) : kp ≠ kc := fun q => by subst q; rw [x] at y; cases y
theorem mul_ok {i j : Int} (hi : i.natAbs < 2 ^ 64) (hj : j.natAbs < 2 ^ 64) : mulOk i j = true := by
  unfold mulOk
  refine decide_eq_true ?_
  have a : i.natAbs.log2 < 64 := by
    by_cases z : i.natAbs = 0
    · rw [z]; decide
    · exact (Nat.log2_lt z).mpr hi
  have b : j.natAbs.log2 < 64 := by
    by_cases z : j.natAbs = 0
    · rw [z]; decide
    · exact (Nat.log2_lt z).mpr hj
  omega
theorem getE {cal : Nat → List AV → AH → R AV} {σ : Sg} {h : AH} {kp kc : Nat} {t dg ct fo : Int} {z : Str} {v : AV} (v0 : getS σ 0 = some (.ref kp)) (p : h[kp]? = some (.dct (penL kc t dg ct fo))) (l : (penL kc t dg ct fo).lookup z = some v) :
    evE P cal (.idx (.var 0) (.str z)) σ h = .ok v h := by
  simp only [evE, v0, bind_ok, idxA, idxD, p, l, Option.map_some, of_some]
theorem putE {cal : Nat → List AV → AH → R AV} {σ : Sg} {h : AH} {kp kc : Nat} {t dg ct fo : Int} {z : Str} {e : ME} {v : AV} (v0 : getS σ 0 = some (.ref kp)) (p : h[kp]? = some (.dct (penL kc t dg ct fo))) (a : evE P cal e σ h = .ok v h) :
    evS P cal (.setI (.var 0) (.str z) e) σ h = .nx σ (h.set kp (.dct (putA (penL kc t dg ct fo) z v))) := by
  simp only [evS, evE, a, v0, stm_ok, setIA, p, pln]
  rfl
theorem opE {cal : Nat → List AV → AH → R AV} {σ : Sg} {h : AH} {a b : ME} {i j k : Int} {o : Bop} (x : evE P cal a σ h = .ok (.int i) h) (y : evE P cal b σ h = .ok (.int j) h) (z : bopI o i j = some k) : evE P cal (.bop o a b) σ h = .ok (.int k) h := by
  simp only [evE, x, y, bind_ok, bopA, z, Option.map_some, of_some]
theorem cmE {cal : Nat → List AV → AH → R AV} {σ : Sg} {h : AH} {a b : ME} {i j : Int} {k : Bool} {o : Cop} (x : evE P cal a σ h = .ok (.int i) h) (y : evE P cal b σ h = .ok (.int j) h) (z : cmpI o i j = some k) : evE P cal (.cmp o a b) σ h = .ok (.bl k) h := by
  simp only [evE, x, y, bind_ok, cmpA, z, Option.map_some, of_some]
theorem inE {cal : Nat → List AV → AH → R AV} {σ : Sg} {h : AH} {i : Int} : evE P cal (.int i) σ h = .ok (.int i) h := by simp only [evE]
theorem vaE {cal : Nat → List AV → AH → R AV} {σ : Sg} {h : AH} {i : Nat} {v : AV} (e : getS σ i = some v) : evE P cal (.var i) σ h = .ok v h := by simp only [evE, e]
theorem iiE {cal : Nat → List AV → AH → R AV} {σ : Sg} {h : AH} {a : ME} {i : Int} (x : evE P cal a σ h = .ok (.int i) h) : evE P cal (.bi .int (.cons a .nil)) σ h = .ok (.int i) h := by
  simp only [evE, evEs, x, bind_ok, biA, biInt, of_some]
theorem if_t {cal : Nat → List AV → AH → R AV} {σ : Sg} {h h' : AH} {c : ME} {a b : MSs} (e : evE P cal c σ h = .ok (.bl true) h') : evS P cal (.if_ c a b) σ h = evSs P cal a σ h' := by
  rw [evS, e]; rfl
theorem if_f {cal : Nat → List AV → AH → R AV} {σ : Sg} {h h' : AH} {c : ME} {a : MSs} (e : evE P cal c σ h = .ok (.bl false) h') : evS P cal (.if_ c a .nil) σ h = .nx σ h' := by
  rw [evS, e]
  show evSs P cal .nil σ h' = _
  rw [evSs]
theorem if_e {cal : Nat → List AV → AH → R AV} {σ : Sg} {h h' : AH} {c : ME} {a b : MSs} (e : evE P cal c σ h = .ok (.bl false) h') : evS P cal (.if_ c a b) σ h = evSs P cal b σ h' := by
  rw [evS, e]; rfl
theorem ret_run {cal : Nat → List AV → AH → R AV} {σ : Sg} {h h' : AH} {e : ME} {v : AV} (a : evE P cal e σ h = .ok v h') : evS P cal (.ret e) σ h = .rt v h' := by
  rw [evS, a]; rfl
/-- a draw's last part: the pen's count told, no cell is waiting or one was taken -/
def drawC : MSs := (.cons (.if_ (.cmp .gt (.idx (.var 0) (.str "digits")) (.int 0)) (.cons (.set 3 (.bop .mod (.bi .int (.cons (.idx (.var 0) (.str "digits")) .nil)) (.var 1)))
    (.cons (.setI (.var 0) (.str "digits") (.bop .fdiv (.idx (.var 0) (.str "digits")) (.var 1)))
    (.cons (.ret (.var 3))
    .nil))) .nil)
    (.cons (.set 4 (.bop .add (.bop .add (.idx (.var 0) (.str "fold")) (.bop .mul (.idx (.var 0) (.str "count")) (.int 4903))) (.int 167)))
    (.cons (.ret (.bop .mod (.bop .fdiv (.bi .int (.cons (.bop .mod (.bop .pow (.var 4) (.int 59)) (.int 2305843009213693951)) .nil)) (.int 128)) (.var 1)))
    .nil)))
theorem fmod_in {i j : Int} (h : 0 < j) : 0 ≤ i.fmod j ∧ i.fmod j < j := ⟨Int.fmod_nonneg_of_pos _ h, Int.fmod_lt_of_pos _ h⟩
theorem drawC_run {cal : Nat → List AV → AH → R AV} {m : Nat} {h : AH} {kp kc : Nat} {t dg ct fo many : Int} {xs : List Int} {s2 s3 s4 : Option AV} (x : PenOk m h kp kc t dg ct fo xs) (hm : m ≤ 1000) (h0 : 0 < many) (h1 : many ≤ 1000) :
    ∃ r dg', fin (evSs P cal drawC [some (.ref kp), some (.int many), s2, s3, s4] h) = .ok (.int r) (h.set kp (.dct (penL kc t dg' ct fo))) ∧ 0 ≤ r ∧ r < many := by
  have hp := x.pen
  have hmn : decide (many ≠ 0) = true := decide_eq_true (by omega)
  have many_log : decide (many.natAbs.log2 < 9000) = true := decide_eq_true (by
    have : many.natAbs < 2 ^ 64 := by omega
    by_cases z : many.natAbs = 0
    · rw [z]; decide
    · have := (Nat.log2_lt z).mpr this; omega)
  unfold drawC
  by_cases hd : 0 < dg
  · refine ⟨dg.fmod many, dg.fdiv many, ?_, (fmod_in h0).1, (fmod_in h0).2⟩
    have e1 : evE P cal (.cmp .gt (.idx (.var 0) (.str "digits")) (.int 0)) [some (.ref kp), some (.int many), s2, s3, s4] h = .ok (.bl true) h := cmE (getE rfl hp lk3) inE (by simp [cmpI, hd])
    have e2 : evE P cal (.bop .mod (.bi .int (.cons (.idx (.var 0) (.str "digits")) .nil)) (.var 1)) [some (.ref kp), some (.int many), s2, s3, s4] h = .ok (.int (dg.fmod many)) h := opE (iiE (getE rfl hp lk3)) (vaE rfl) (by simp only [bopI, hmn, if_true])
    have e3 : evE P cal (.bop .fdiv (.idx (.var 0) (.str "digits")) (.var 1)) [some (.ref kp), some (.int many), s2, some (.int (dg.fmod many)), s4] h = .ok (.int (dg.fdiv many)) h := opE (getE rfl hp lk3) (vaE rfl) (by simp only [bopI, hmn, many_log, Bool.and_self, if_true])
    have e4 := putE (cal := cal) (z := "digits") (σ := [some (.ref kp), some (.int many), s2, some (.int (dg.fmod many)), s4]) rfl hp e3
    have e5 : evS P cal (.if_ (.cmp .gt (.idx (.var 0) (.str "digits")) (.int 0)) (.cons (.set 3 (.bop .mod (.bi .int (.cons (.idx (.var 0) (.str "digits")) .nil)) (.var 1))) (.cons (.setI (.var 0) (.str "digits") (.bop .fdiv (.idx (.var 0) (.str "digits")) (.var 1))) (.cons (.ret (.var 3)) .nil))) .nil)
        [some (.ref kp), some (.int many), s2, s3, s4] h = .rt (.int (dg.fmod many)) (h.set kp (.dct (penL kc t (dg.fdiv many) ct fo))) := by
      rw [if_t e1, ss_nx (set_run e2)]
      simp only [List.set_cons_zero, List.set_cons_succ]
      rw [ss_nx e4, pu3]
      exact ss_rt (ret_run (vaE rfl))
    rw [ss_rt e5]
    rfl
  · refine ⟨((((fo + ct * 4903 + 167) ^ 59).fmod 2305843009213693951).fdiv 128).fmod many, dg, ?_, (fmod_in h0).1, (fmod_in h0).2⟩
    have e1 : evE P cal (.cmp .gt (.idx (.var 0) (.str "digits")) (.int 0)) [some (.ref kp), some (.int many), s2, s3, s4] h = .ok (.bl false) h := cmE (getE rfl hp lk3) inE (by simp [cmpI]; omega)
    have c0 := x.c0
    have c1 := x.c1
    have f0 := x.f0
    have f1 := x.f1
    have e2 : evE P cal (.bop .add (.bop .add (.idx (.var 0) (.str "fold")) (.bop .mul (.idx (.var 0) (.str "count")) (.int 4903))) (.int 167)) [some (.ref kp), some (.int many), s2, s3, s4] h = .ok (.int (fo + ct * 4903 + 167)) h :=
      opE (opE (getE rfl hp lk5) (opE (getE rfl hp lk4) inE (by simp only [bopI, mul_ok (i := ct) (j := 4903) (by omega) (by decide), if_true])) rfl) inE rfl
    have e3 : evE P cal (.bop .mod (.bop .fdiv (.bi .int (.cons (.bop .mod (.bop .pow (.var 4) (.int 59)) (.int 2305843009213693951)) .nil)) (.int 128)) (.var 1)) [some (.ref kp), some (.int many), s2, s3, some (.int (fo + ct * 4903 + 167))] h = .ok (.int (((((fo + ct * 4903 + 167) ^ 59).fmod 2305843009213693951).fdiv 128).fmod many)) h := by
      have hB : decide ((fo + ct * 4903 + 167).natAbs < 2 ^ 64) = true := decide_eq_true (by omega)
      generalize fo + ct * 4903 + 167 = B at hB
      have f1 : evE P cal (.bop .pow (.var 4) (.int 59)) [some (.ref kp), some (.int many), s2, s3, some (.int B)] h = .ok (.int (B ^ 59)) h := opE (i := B) (j := 59) (vaE rfl) inE (by
        unfold bopI
        dsimp only
        rw [if_pos (by rw [hB]; rfl)]
        rfl)
      have f2 : evE P cal (.bop .mod (.bop .pow (.var 4) (.int 59)) (.int 2305843009213693951)) [some (.ref kp), some (.int many), s2, s3, some (.int B)] h = .ok (.int ((B ^ 59).fmod 2305843009213693951)) h := opE f1 inE rfl
      have f3 : evE P cal (.bop .fdiv (.bi .int (.cons (.bop .mod (.bop .pow (.var 4) (.int 59)) (.int 2305843009213693951)) .nil)) (.int 128)) [some (.ref kp), some (.int many), s2, s3, some (.int B)] h = .ok (.int (((B ^ 59).fmod 2305843009213693951).fdiv 128)) h := opE (iiE f2) inE (by
        unfold bopI
        dsimp only
        rw [if_pos (by decide)])
      exact opE f3 (vaE rfl) (by simp only [bopI, hmn, if_true])
    rw [ss_nx (if_f e1), ss_nx (set_run e2)]
    simp only [List.set_cons_zero, List.set_cons_succ]
    rw [ss_rt (ret_run e3), set_same hp]
    rfl
theorem PenOk.mk2 {m : Nat} {h : AH} {kp kc : Nat} {t dg ct fo t' dg' ct' fo' : Int} {xs : List Int} (x : PenOk m h kp kc t dg ct fo xs) {m' : Nat} (a : 0 ≤ t') (b : 0 ≤ ct') (c : ct' ≤ m') (d : 0 ≤ fo') (e : fo' < 2147483059) : PenOk m' (h.set kp (.dct (penL kc t' dg' ct' fo'))) kp kc t' dg' ct' fo' xs :=
  ⟨List.getElem?_set_self (lt_of x.pen), by rw [List.getElem?_set_ne (pen_ne x.pen x.cells)]; exact x.cells, a, b, c, d, e⟩
def drawB : MSs := (.cons (.set 2 (.idx (.idx (.var 0) (.str "cells")) (.idx (.var 0) (.str "at"))))
    (.cons (.setI (.var 0) (.str "at") (.bop .add (.idx (.var 0) (.str "at")) (.int 1)))
    (.cons (.if_ (.cmp .ge (.var 2) (.bop .pow (.int 10) (.int 18))) (.cons (.setI (.var 0) (.str "digits") (.bop .sub (.var 2) (.bop .pow (.int 10) (.int 18))))
    .nil) (.cons (.setI (.var 0) (.str "fold") (.bop .mod (.bi .int (.cons (.bop .add (.bop .mul (.idx (.var 0) (.str "fold")) (.int 23003)) (.var 2)) .nil)) (.int 2147483059)))
    .nil))
    .nil)))
theorem powE {cal : Nat → List AV → AH → R AV} {σ : Sg} {h : AH} : evE P cal (.bop .pow (.int 10) (.int 18)) σ h = .ok (.int 1000000000000000000) h := opE inE inE (by decide)
theorem drawB_run {cal : Nat → List AV → AH → R AV} {m : Nat} {h : AH} {kp kc : Nat} {t dg ct fo : Int} {xs : List Int} {many : Int} (x : PenOk m h kp kc t dg ct fo xs) (ht : t < xs.length) :
    ∃ s2 t' dg' fo', evSs P cal drawB [some (.ref kp), some (.int many), none, none, none] h = .nx [some (.ref kp), some (.int many), s2, none, none] (h.set kp (.dct (penL kc t' dg' ct fo'))) ∧ 0 ≤ t' ∧ 0 ≤ fo' ∧ fo' < 2147483059 := by
  have hp := x.pen
  have t0 := x.t0
  have htn : t.toNat < xs.length := by omega
  have eat : atI (xs.map AV.int) t = some (.int xs[t.toNat]) := by
    have e : ixN (xs.map AV.int).length t = some t.toNat := by
      unfold ixN
      rw [List.length_map]
      rw [if_pos t0, if_pos ht]
    unfold atI
    rw [e]
    simp [List.getElem?_eq_getElem htn]
  generalize xs[t.toNat] = cell at eat
  have e1 : evE P cal (.idx (.idx (.var 0) (.str "cells")) (.idx (.var 0) (.str "at"))) [some (.ref kp), some (.int many), none, none, none] h = .ok (.int cell) h := by
    have g1 := getE (cal := cal) (σ := [some (.ref kp), some (.int many), none, none, none]) rfl hp lk1
    have g2 := getE (cal := cal) (σ := [some (.ref kp), some (.int many), none, none, none]) rfl hp lk2
    rw [evE, g1]
    show ((evE P cal (.idx (.var 0) (.str "at")) _ h).bind fun y h2 => R.of (idxA (.ref kc) y h2)) = _
    rw [g2]
    show R.of (idxS (.ref kc) t h) = _
    unfold idxS
    rw [seq_lst x.cells]
    dsimp only
    rw [eat]; rfl
  have e2 : evE P cal (.bop .add (.idx (.var 0) (.str "at")) (.int 1)) [some (.ref kp), some (.int many), some (.int cell), none, none] h = .ok (.int (t + 1)) h := opE (getE rfl hp lk2) inE rfl
  have p2 := putE (cal := cal) (z := "at") (σ := [some (.ref kp), some (.int many), some (.int cell), none, none]) rfl hp e2
  rw [pu2] at p2
  have x2 := x.mk2 (m' := m) (t' := t + 1) (dg' := dg) (ct' := ct) (fo' := fo) (by omega) x.c0 x.c1 x.f0 x.f1
  unfold drawB
  rw [ss_nx (set_run e1)]
  simp only [List.set_cons_zero, List.set_cons_succ]
  rw [ss_nx p2]
  generalize hH : h.set kp (.dct (penL kc (t + 1) dg ct fo)) = H at x2
  have fin2 : ∀ o : AO, H.set kp o = h.set kp o := fun o => by rw [← hH, List.set_set]
  by_cases hc : cell ≥ 1000000000000000000
  · refine ⟨some (.int cell), t + 1, cell - 1000000000000000000, fo, ?_, by omega, x.f0, x.f1⟩
    have e3 : evE P cal (.cmp .ge (.var 2) (.bop .pow (.int 10) (.int 18))) [some (.ref kp), some (.int many), some (.int cell), none, none] H = .ok (.bl true) H := cmE (vaE rfl) powE (by simp [cmpI, hc])
    have e4 : evE P cal (.bop .sub (.var 2) (.bop .pow (.int 10) (.int 18))) [some (.ref kp), some (.int many), some (.int cell), none, none] H = .ok (.int (cell - 1000000000000000000)) H := opE (vaE rfl) powE rfl
    have p3 := putE (cal := cal) (z := "digits") (σ := [some (.ref kp), some (.int many), some (.int cell), none, none]) rfl x2.pen e4
    rw [pu3, fin2] at p3
    rw [ss_nx (h' := h.set kp (.dct (penL kc (t + 1) (cell - 1000000000000000000) ct fo))) (σ' := [some (.ref kp), some (.int many), some (.int cell), none, none]) (by rw [if_t e3, ss_nx p3, evSs])]
    rw [evSs]
  · refine ⟨some (.int cell), t + 1, dg, (fo * 23003 + cell).fmod 2147483059, ?_, by omega, (fmod_in (by decide)).1, (fmod_in (by decide)).2⟩
    have e3 : evE P cal (.cmp .ge (.var 2) (.bop .pow (.int 10) (.int 18))) [some (.ref kp), some (.int many), some (.int cell), none, none] H = .ok (.bl false) H := cmE (vaE rfl) powE (by simp [cmpI]; omega)
    have f0 := x.f0
    have f1 := x.f1
    have e4 : evE P cal (.bop .mod (.bi .int (.cons (.bop .add (.bop .mul (.idx (.var 0) (.str "fold")) (.int 23003)) (.var 2)) .nil)) (.int 2147483059)) [some (.ref kp), some (.int many), some (.int cell), none, none] H = .ok (.int ((fo * 23003 + cell).fmod 2147483059)) H :=
      opE (iiE (opE (opE (getE rfl x2.pen lk5) inE (by simp only [bopI, mul_ok (i := fo) (j := 23003) (by omega) (by decide), if_true])) (vaE rfl) rfl)) inE rfl
    have p3 := putE (cal := cal) (z := "fold") (σ := [some (.ref kp), some (.int many), some (.int cell), none, none]) rfl x2.pen e4
    rw [pu5, fin2] at p3
    rw [ss_nx (h' := h.set kp (.dct (penL kc (t + 1) dg ct ((fo * 23003 + cell).fmod 2147483059)))) (σ' := [some (.ref kp), some (.int many), some (.int cell), none, none]) (by rw [if_e e3, ss_nx p3, evSs])]
    rw [evSs]
/-- a draw -/
theorem draw_run {n m : Nat} {h : AH} {kp kc : Nat} {t dg ct fo many : Int} {xs : List Int} (x : PenOk m h kp kc t dg ct fo xs) (hm : m < 1000) (h0 : 0 < many) (h1 : many ≤ 1000) :
    ∃ r t' dg' ct' fo', calA P (n + 1) 49 [.ref kp, .int many] h = .ok (.int r) (h.set kp (.dct (penL kc t' dg' ct' fo'))) ∧ 0 ≤ r ∧ r < many ∧ PenOk (m + 1) (h.set kp (.dct (penL kc t' dg' ct' fo'))) kp kc t' dg' ct' fo' xs := by
  have hp := x.pen
  have e1 : evE P (calA P n) (.bop .add (.idx (.var 0) (.str "count")) (.int 1)) [some (.ref kp), some (.int many), none, none, none] h = .ok (.int (ct + 1)) h := opE (getE rfl hp lk4) inE rfl
  have p1 := putE (cal := calA P n) (z := "count") (σ := [some (.ref kp), some (.int many), none, none, none]) rfl hp e1
  rw [pu4] at p1
  have x1 := x.mk2 (m' := m + 1) (t' := t) (dg' := dg) (ct' := ct + 1) (fo' := fo) x.t0 (by have := x.c0; omega) (by have := x.c1; push_cast; omega) x.f0 x.f1
  generalize hH : h.set kp (.dct (penL kc t dg (ct + 1) fo)) = H at p1 x1
  have hset : ∀ o : AO, H.set kp o = h.set kp o := fun o => by rw [← hH, List.set_set]
  have eb : calA P (n + 1) 49 [.ref kp, .int many] h = fin (evSs P (calA P n) (.cons (.if_ (.and_ (.cmp .eq (.idx (.var 0) (.str "digits")) (.int 0)) (.cmp .lt (.idx (.var 0) (.str "at")) (.bi .len (.cons (.idx (.var 0) (.str "cells")) .nil)))) drawB .nil) drawC) [some (.ref kp), some (.int many), none, none, none] H) := by
    rw [calA_def (d := d49) rfl rfl]
    show fin (evSs P (calA P n) (.cons _ _) [some (.ref kp), some (.int many), none, none, none] h) = _
    rw [ss_nx p1]
    rfl
  rw [eb]
  have g3 := getE (cal := calA P n) (σ := [some (.ref kp), some (.int many), none, none, none]) rfl x1.pen lk3
  have c1 : evE P (calA P n) (.cmp .eq (.idx (.var 0) (.str "digits")) (.int 0)) [some (.ref kp), some (.int many), none, none, none] H = .ok (.bl (decide (dg = 0))) H := cmE g3 inE rfl
  have c2 : evE P (calA P n) (.cmp .lt (.idx (.var 0) (.str "at")) (.bi .len (.cons (.idx (.var 0) (.str "cells")) .nil))) [some (.ref kp), some (.int many), none, none, none] H = .ok (.bl (decide (t < xs.length))) H := by
    refine cmE (getE rfl x1.pen lk2) (j := xs.length) ?_ rfl
    have g1 := getE (cal := calA P n) (σ := [some (.ref kp), some (.int many), none, none, none]) rfl x1.pen lk1
    rw [evE, evEs, g1]
    simp only [bind_ok, evEs, biA, biLen, seq_lst x1.cells, Option.map_some, of_some, List.length_map]
  have c3 : evE P (calA P n) (.and_ (.cmp .eq (.idx (.var 0) (.str "digits")) (.int 0)) (.cmp .lt (.idx (.var 0) (.str "at")) (.bi .len (.cons (.idx (.var 0) (.str "cells")) .nil)))) [some (.ref kp), some (.int many), none, none, none] H = .ok (.bl (decide (dg = 0) && decide (t < xs.length))) H := by
    rw [evE, c1]
    show kAnd _ (.bl (decide (dg = 0))) H = _
    cases decide (dg = 0) with
    | false => rfl
    | true => rw [kAnd_t, c2]; rfl
  by_cases hb : (decide (dg = 0) && decide (t < xs.length)) = true
  · rw [hb] at c3
    simp only [Bool.and_eq_true, decide_eq_true_eq] at hb
    obtain ⟨s2, t', dg', fo', d1, d2, d3, d4⟩ := drawB_run (cal := calA P n) (many := many) x1 hb.2
    have x2 := x1.mk2 (m' := m + 1) (t' := t') (dg' := dg') (ct' := ct + 1) (fo' := fo') d2 x1.c0 x1.c1 d3 d4
    obtain ⟨r, dg2, q1, q2, q3⟩ := drawC_run (cal := calA P n) (s2 := s2) (s3 := none) (s4 := none) x2 (by omega) h0 h1
    refine ⟨r, t', dg2, ct + 1, fo', ?_, q2, q3, ?_⟩
    · rw [ss_nx (h' := H.set kp (.dct (penL kc t' dg' (ct + 1) fo'))) (σ' := [some (.ref kp), some (.int many), s2, none, none]) (by rw [if_t c3]; exact d1), q1, List.set_set, hset]
    · exact x.mk2 d2 x1.c0 x1.c1 d3 d4
  · have hb : (decide (dg = 0) && decide (t < xs.length)) = false := by simpa using hb
    rw [hb] at c3
    obtain ⟨r, dg2, q1, q2, q3⟩ := drawC_run (cal := calA P n) (s2 := none) (s3 := none) (s4 := none) x1 (by omega) h0 h1
    refine ⟨r, t, dg2, ct + 1, fo, ?_, q2, q3, ?_⟩
    · rw [ss_nx (if_f c3), q1, hset]
    · exact x.mk2 x.t0 x1.c0 x1.c1 x.f0 x.f1
end K90
end Mini
set_option autoImplicit false
set_option maxHeartbeats 4000000
namespace Mini
open PySem L2
namespace K90
/-- from lo on, all stays -/
def From (lo : Nat) (h h' : AH) : Prop := ∀ j o, lo ≤ j → h[j]? = some o → h'[j]? = some o
theorem From.refl (lo : Nat) (h : AH) : From lo h h := fun _ _ _ e => e
theorem From.trans {lo : Nat} {a b c : AH} (x : From lo a b) (y : From lo b c) : From lo a c := fun j o l e => y j o l (x j o l e)
theorem From.of {lo : Nat} {h h' : AH} (p : Pre h h') : From lo h h' := fun _ _ _ e => p.get e
theorem From.set {lo k : Nat} {h : AH} {o : AO} (hk : k < lo) : From lo h (h.set k o) := fun j u l e => by
  rw [List.getElem?_set_ne (by omega)]; exact e
theorem From.le {a b : Nat} {h h' : AH} (x : From a h h') (l : a ≤ b) : From b h h' := fun j o q e => x j o (Nat.le_trans l q) e
/-- a value of _law_value, its copy, its data -/
structure VF (h : AH) (v c : AV) (d : PyData) : Prop where
  ok : VOk h v c
  self : ∀ cal, cmpA P cal .eq c c h = some (.bl true, h)
  same : sameA 20 c c = true
  data : toPyD h 59 c = some d
  sh : Sh d
theorem sh_of {d : PyData} (a : d.showable = true) (b : d.shown.length ≤ 1000) (c : d.depth ≤ 10) : Sh d := ⟨a, b, c⟩
theorem dig {i : Int} (h0 : 0 ≤ i) (h1 : i < 9) : (toString i : Str).length = 1 ∧ PyData.showable (.int i) = true := by
  have : i = 0 ∨ i = 1 ∨ i = 2 ∨ i = 3 ∨ i = 4 ∨ i = 5 ∨ i = 6 ∨ i = 7 ∨ i = 8 := by omega
  rcases this with rfl | rfl | rfl | rfl | rfl | rfl | rfl | rfl | rfl <;> exact ⟨by decide +kernel, by decide +kernel⟩
/-- the objects of the display -/
def objs9 (N : Nat) : List AO := [.lst [.int 2], .lst [.int 1, .ref N], .lst [], .lst [.int 0], .lst [.int 1], .lst [.ref (N + 3), .ref (N + 4)], .dct [("a", .int 1)], .lst [.non],
  .lst [.tup [.int 1, .int 2], .ref (N + 1), .ref (N + 2), .tup [], .str "web", .int 5, .non, .bl true, .tup [.tup [.int 0, .int 1]], .ref (N + 5), .ref (N + 6), .int (-3), .str "", .ref (N + 7)]]
def items15 (N : Nat) : List AV := [.tup [.int 1, .int 2], .ref (N + 1), .ref (N + 2), .tup [], .str "web", .int 5, .non, .bl true, .tup [.tup [.int 0, .int 1]], .ref (N + 5), .ref (N + 6), .int (-3), .str "", .ref (N + 7), .ref (N + 9)]
theorem vf_tup {H : AH} {k : Nat} {xs : List AV} {d : PyData} (z : H[k]? = some (.lst xs)) (s : all2 (sameA 19) xs xs = true) (e : toPyD H 59 (.tup xs) = some d) (sh : Sh d) (s20 : all2 (sameA 20) xs xs = true) : VF H (.ref k) (.tup xs) d :=
  ⟨.lst z, fun cal => eq_tup s20, s, e, sh⟩
theorem fF {N : Nat} {H : AH} (f : ∀ (m : Nat) (o : AO), (objs9 N)[m]? = some o → H[N + m]? = some o) : H[N]? = some (.lst [.int 2]) ∧ H[N + 1]? = some (.lst [.int 1, .ref N]) ∧ H[N + 2]? = some (.lst []) ∧ H[N + 3]? = some (.lst [.int 0]) ∧ H[N + 4]? = some (.lst [.int 1]) ∧ H[N + 5]? = some (.lst [.ref (N + 3), .ref (N + 4)]) ∧ H[N + 6]? = some (.dct [("a", .int 1)]) ∧ H[N + 7]? = some (.lst [.non]) :=
  ⟨f 0 _ rfl, f 1 _ rfl, f 2 _ rfl, f 3 _ rfl, f 4 _ rfl, f 5 _ rfl, f 6 _ rfl, f 7 _ rfl⟩
theorem vf_all {N : Nat} {i j k : Int} (hi : 0 ≤ i ∧ i < 9) (hj : 0 ≤ j ∧ j < 9) (hk : 0 ≤ k ∧ k < 9) {r : Int} (h0 : 0 ≤ r) (h1 : r < 15) :
    ∃ v c d, atI (items15 N) r = some v ∧ ∀ H : AH, (∀ (m : Nat) (o : AO), (objs9 N)[m]? = some o → H[N + m]? = some o) → H[N + 9]? = some (.lst [.int i, .int j, .int k]) → VF H v c d := by
  have : r = 0 ∨ r = 1 ∨ r = 2 ∨ r = 3 ∨ r = 4 ∨ r = 5 ∨ r = 6 ∨ r = 7 ∨ r = 8 ∨ r = 9 ∨ r = 10 ∨ r = 11 ∨ r = 12 ∨ r = 13 ∨ r = 14 := by omega
  rcases this with rfl | rfl | rfl | rfl | rfl | rfl | rfl | rfl | rfl | rfl | rfl | rfl | rfl | rfl | rfl
  · exact ⟨_, _, .tuple [.int 1, .int 2], rfl, fun H f g => ⟨.val (t := "tuple") rfl (by decide) (by decide), fun cal => eq_tup rfl, rfl, rfl, by decide +kernel, by decide +kernel, by decide +kernel⟩⟩
  · exact ⟨_, _, .tuple [.int 1, .list [.int 2]], rfl, fun H f g => by
      obtain ⟨f0, f1, f2, f3, f4, f5, f6, f7⟩ := fF f
      exact vf_tup f1 (by simp [all2, sameA]) (by simp [toPyD, optAll, f0]) ⟨by decide +kernel, by decide +kernel, by decide +kernel⟩ (by simp [all2, sameA])⟩
  · exact ⟨_, _, .tuple [], rfl, fun H f g => by
      obtain ⟨f0, f1, f2, f3, f4, f5, f6, f7⟩ := fF f
      exact vf_tup f2 rfl rfl ⟨by decide +kernel, by decide +kernel, by decide +kernel⟩ rfl⟩
  · exact ⟨_, _, .tuple [], rfl, fun H f g => ⟨.val (t := "tuple") rfl (by decide) (by decide), fun cal => eq_tup rfl, rfl, rfl, by decide +kernel, by decide +kernel, by decide +kernel⟩⟩
  · exact ⟨_, _, .str "web", rfl, fun H f g => ⟨.val (t := "str") rfl (by decide) (by decide), fun cal => eq_str, by decide +kernel, rfl, by decide +kernel, by decide +kernel, by decide +kernel⟩⟩
  · exact ⟨_, _, .int 5, rfl, fun H f g => ⟨.val (t := "int") rfl (by decide) (by decide), fun cal => rfl, rfl, rfl, by decide +kernel, by decide +kernel, by decide +kernel⟩⟩
  · exact ⟨_, _, .none, rfl, fun H f g => ⟨.val (t := "NoneType") rfl (by decide) (by decide), fun cal => rfl, rfl, rfl, by decide +kernel, by decide +kernel, by decide +kernel⟩⟩
  · exact ⟨_, _, .bool true, rfl, fun H f g => ⟨.val (t := "bool") rfl (by decide) (by decide), fun cal => rfl, rfl, rfl, by decide +kernel, by decide +kernel, by decide +kernel⟩⟩
  · exact ⟨_, _, .tuple [.tuple [.int 0, .int 1]], rfl, fun H f g => ⟨.val (t := "tuple") rfl (by decide) (by decide), fun cal => eq_tup rfl, rfl, rfl, by decide +kernel, by decide +kernel, by decide +kernel⟩⟩
  · exact ⟨_, _, .tuple [.list [.int 0], .list [.int 1]], rfl, fun H f g => by
      obtain ⟨f0, f1, f2, f3, f4, f5, f6, f7⟩ := fF f
      exact vf_tup f5 (by simp [all2, sameA]) (by simp [toPyD, optAll, f3, f4]) ⟨by decide +kernel, by decide +kernel, by decide +kernel⟩ (by simp [all2, sameA])⟩
  · refine ⟨_, .ref (N + 6), .dict [(.str "a", .int 1)], rfl, fun H f g => ?_⟩
    obtain ⟨f0, f1, f2, f3, f4, f5, f6, f7⟩ := fF f
    refine ⟨.val (t := "dict") (by simp [tdOf, f6]) (by decide) (by decide), fun cal => ?_, by simp [sameA], by simp [toPyD, optAll, f6], by decide +kernel, by decide +kernel, by decide +kernel⟩
    simp [cmpA, ownA, insOf, f6, eqTop, eqStr, topSame, nodupB, noTy]
  · exact ⟨_, _, .int (-3), rfl, fun H f g => ⟨.val (t := "int") rfl (by decide) (by decide), fun cal => rfl, rfl, rfl, by decide +kernel, by decide +kernel, by decide +kernel⟩⟩
  · exact ⟨_, _, .str "", rfl, fun H f g => ⟨.val (t := "str") rfl (by decide) (by decide), fun cal => eq_str, by decide +kernel, rfl, by decide +kernel, by decide +kernel, by decide +kernel⟩⟩
  · exact ⟨_, _, .tuple [.none], rfl, fun H f g => by
      obtain ⟨f0, f1, f2, f3, f4, f5, f6, f7⟩ := fF f
      exact vf_tup f7 rfl rfl ⟨by decide +kernel, by decide +kernel, by decide +kernel⟩ rfl⟩
  · refine ⟨_, .tup [.int i, .int j, .int k], .tuple [.int i, .int j, .int k], rfl, fun H f g => ?_⟩
    refine vf_tup g (by simp [all2, sameA]) (by simp [toPyD, optAll]) ⟨?_, ?_, by simp [PyData.depth, PyData.depthAll]⟩ (by simp [all2, sameA])
    · simp only [PyData.showable, PyData.showableAll] at *
      have a1 := (dig hi.1 hi.2).2
      have a2 := (dig hj.1 hj.2).2
      have a3 := (dig hk.1 hk.2).2
      simp only [PyData.showable] at a1 a2 a3
      rw [a1, a2, a3]; rfl
    · have a1 := (dig hi.1 hi.2).1
      have a2 := (dig hj.1 hj.2).1
      have a3 := (dig hk.1 hk.2).1
      have e : (PyData.tuple [.int i, .int j, .int k]).shown = ("(" : Str) ++ Str.join ", " [(toString i : Str), (toString j : Str), (toString k : Str)] ++ ")" := rfl
      rw [e, strLen_append, strLen_append]
      have q := join_length_add [(toString i : Str), (toString j : Str), (toString k : Str)] (by simp)
      have p3 : piled [(toString i : Str), (toString j : Str), (toString k : Str)] = (toString i : Str).length + 2 + ((toString j : Str).length + 2 + ((toString k : Str).length + 2)) := by simp [piled]; try omega
      rw [p3, a1, a2, a3] at q
      have b1 : ("(" : Str).length = 1 := rfl
      have b2 : (")" : Str).length = 1 := rfl
      omega

/-! ### _law_value -/
theorem kLst0 {h : AH} : kLst [] h = .ok (.ref h.length) (h ++ [.lst []]) := if_pos (by show 0 ≤ sizeLine; decide)
theorem kTup0 {h : AH} : kTup [] h = .ok (.tup []) h := if_pos (by show 0 ≤ sizeLine; decide)
theorem kLst14 {a0 a1 a2 a3 a4 a5 a6 a7 a8 a9 a10 a11 a12 a13 : AV} {h : AH} : kLst [a0, a1, a2, a3, a4, a5, a6, a7, a8, a9, a10, a11, a12, a13] h = .ok (.ref h.length) (h ++ [.lst [a0, a1, a2, a3, a4, a5, a6, a7, a8, a9, a10, a11, a12, a13]]) := if_pos (by show 14 ≤ sizeLine; decide)
theorem dct_run {cal : Nat → List AV → AH → R AV} {σ : Sg} {h : AH} : evE P cal (.dct ["a"] (.cons (.int 1) .nil)) σ h = .ok (.ref h.length) (h ++ [.dct [("a", .int 1)]]) := by
  simp only [evE, evEs, bind_ok, kDct, get_new, dctOf, Option.map_some]
  rw [if_pos ⟨by decide, rfl⟩, set_new]
def someE : ME := (.lst (.cons (.tup (.cons (.int 1) (.cons (.int 2) .nil))) (.cons (.lst (.cons (.int 1) (.cons (.lst (.cons (.int 2) .nil)) .nil))) (.cons (.lst .nil) (.cons (.tup .nil) (.cons (.str "web") (.cons (.int 5) (.cons .non (.cons (.bl true) (.cons (.tup (.cons (.tup (.cons (.int 0) (.cons (.int 1) .nil))) .nil)) (.cons (.lst (.cons (.lst (.cons (.int 0) .nil)) (.cons (.lst (.cons (.int 1) .nil)) .nil))) (.cons (.dct ["a"] (.cons (.int 1) .nil)) (.cons (.neg (.int 3)) (.cons (.str "") (.cons (.lst (.cons .non .nil)) .nil)))))))))))))))
theorem some_run {cal : Nat → List AV → AH → R AV} {σ : Sg} {h : AH} : evE P cal someE σ h = .ok (.ref (h.length + 8)) (h ++ objs9 h.length) := by
  have D : ∀ h : AH, kDct h.length ["a"] [.int 1] (h ++ [.dct []]) = .ok (.ref h.length) (h ++ [.dct [("a", .int 1)]]) := fun h => by
    simp only [kDct, get_new, dctOf, Option.map_some]
    rw [if_pos ⟨by decide, rfl⟩, set_new]
  simp only [someE, evE, evEs, bind_ok, kTup2, kTup1, kTup0, kLst1, kLst2, kLst0, kNeg, D, kLst14]
  simp only [List.append_assoc, List.cons_append, List.nil_append, List.length_append, List.length_cons, List.length_nil, objs9, Nat.add_assoc, Nat.zero_add, Nat.reduceAdd]
/-- one turn of a comprehension -/
theorem ct_run {cal : Nat → List AV → AH → R AV} {D : Nat} {own : List Nat} {t : MT} {e : ME} {x y : AV} {σ σ1 : Sg} {h h1 : AH} {acc : List AV} (p : putT (wipeS σ own) h t x = some σ1) (a : evE P cal e σ1 h = .ok y h1) (z : h1[D]? = some (.lst acc)) (l : acc.length < sizeLine) :
    compTurn D own t (evE P cal e) x σ h = .nx σ (h1.set D (.lst (acc ++ [y]))) := by
  unfold compTurn
  rw [p]
  dsimp only
  rw [a]
  dsimp only
  rw [z]
  dsimp only
  rw [if_pos l]
theorem cp49 {cal : Nat → List AV → AH → R AV} {v w : AV} {h : AH} : callP P cal 49 [v, w] h = cal 49 [v, w] h := callP_def (d := d49) rfl rfl
theorem cp50 {cal : Nat → List AV → AH → R AV} {v w : AV} {h : AH} : callP P cal 50 [v, w] h = cal 50 [v, w] h := callP_def (d := d50) rfl rfl
theorem cp51 {cal : Nat → List AV → AH → R AV} {v : AV} {h : AH} : callP P cal 51 [v] h = cal 51 [v] h := callP_def (d := d51) rfl rfl
/-- the pen, whatever it shows -/
def Pen (m : Nat) (h : AH) (kp : Nat) : Prop := ∃ kc t dg ct fo xs, PenOk m h kp kc t dg ct fo xs ∧ kc ≤ kp + 1
theorem Pen.lt {m : Nat} {h : AH} {kp : Nat} (x : Pen m h kp) : kp < h.length := by
  obtain ⟨kc, t, dg, ct, fo, xs, p, _⟩ := x
  exact lt_of p.pen
/-- what lies up to the pen stays -/
theorem Pen.up {m : Nat} {h h' : AH} {kp : Nat} (x : Pen m h kp) (k : ∀ j o, j ≤ kp + 1 → h[j]? = some o → h'[j]? = some o) : Pen m h' kp := by
  obtain ⟨kc, t, dg, ct, fo, xs, p, l⟩ := x
  exact ⟨kc, t, dg, ct, fo, xs, ⟨k _ _ (Nat.le_succ _) p.pen, k _ _ l p.cells, p.t0, p.c0, p.c1, p.f0, p.f1⟩, l⟩
theorem Pen.pre {m : Nat} {h h' : AH} {kp : Nat} (x : Pen m h kp) (p : Pre h h') : Pen m h' kp := x.up fun _ _ _ e => p.get e
theorem Pen.set {m : Nat} {h : AH} {kp k : Nat} {o : AO} (x : Pen m h kp) (l : kp + 1 < k) : Pen m (h.set k o) kp := x.up fun j u q e => by rw [List.getElem?_set_ne (by omega)]; exact e
theorem draw {n m : Nat} {h : AH} {kp : Nat} {many : Int} (x : Pen m h kp) (hm : m < 1000) (h0 : 0 < many) (h1 : many ≤ 1000) : ∃ r h', calA P (n + 1) 49 [.ref kp, .int many] h = .ok (.int r) h' ∧ 0 ≤ r ∧ r < many ∧ Pen (m + 1) h' kp ∧ h'.length = h.length ∧ ∀ j, j ≠ kp → h'[j]? = h[j]? := by
  obtain ⟨kc, t, dg, ct, fo, xs, p, l⟩ := x
  obtain ⟨r, t', dg', ct', fo', e, a, b, c⟩ := draw_run (n := n) p hm h0 h1
  exact ⟨r, _, e, a, b, ⟨kc, t', dg', ct', fo', xs, c, l⟩, List.length_set .., fun j hj => List.getElem?_set_ne (Ne.symm hj)⟩
/-- the objects of the display lie in h' from N on -/
def Disp (N : Nat) (H : AH) : Prop := ∀ (m : Nat) (o : AO), (objs9 N)[m]? = some o → H[N + m]? = some o
theorem value_run {n m : Nat} {h : AH} {kp : Nat} (x : Pen m h kp) (hm : m + 4 < 1000) : ∃ v h' c d, calA P (n + 3) 51 [.ref kp] h = .ok v h' ∧ Pen (m + 4) h' kp ∧ h.length ≤ h'.length ∧ (∀ j, j < h.length → j ≠ kp → h'[j]? = h[j]?) ∧ ∀ h'', From h.length h' h'' → VF h'' v c d := by
  have hk := x.lt
  generalize hN : h.length = N at hk
  have l9 : (objs9 N).length = 9 := rfl
  -- the display
  have e0 : evE P (calA P (n + 2)) someE [some (.ref kp), none, none] h = .ok (.ref (N + 8)) (h ++ objs9 N) := by rw [← hN]; exact some_run
  have disp0 : Disp N (h ++ objs9 N) := fun i o e => by
    rw [← hN, List.getElem?_append_right (by omega), Nat.add_sub_cancel_left]; rw [← hN] at e; exact e
  -- the list of draws
  have x1 := (x.pre (Pre.app h (objs9 N))).pre (Pre.app _ [AO.lst []])
  generalize hH1 : h ++ objs9 N ++ [AO.lst []] = H1 at x1
  have len1 : H1.length = N + 10 := by rw [← hH1]; simp [l9, hN]
  have d1 : H1[N + 9]? = some (.lst []) := by rw [← hH1, List.getElem?_append_right (by simp [l9, hN])]; simp [l9, hN]
  have keep1 : ∀ j o, (h ++ objs9 N)[j]? = some o → H1[j]? = some o := fun j o e => by rw [← hH1]; exact (Pre.app _ _).get e
  have turn : ∀ (q : Nat) (H : AH) (acc : List AV) (i : Int), q < 999 → acc.length < 10 → Pen q H kp → H[N + 9]? = some (.lst acc) → ∃ r H', compTurn (N + 9) [2] (.name 2) (evE P (calA P (n + 2)) (.call 49 (.cons (.var 0) (.cons (.int 9) .nil)))) (.int i) [some (.ref kp), some (.ref (N + 8)), none] H = .nx [some (.ref kp), some (.ref (N + 8)), none] H' ∧
      0 ≤ r ∧ r < 9 ∧ H'[N + 9]? = some (.lst (acc ++ [.int r])) ∧ Pen (q + 1) H' kp ∧ H'.length = H.length ∧ ∀ j, j ≠ kp → j ≠ N + 9 → H'[j]? = H[j]? := fun q H acc i hq ha px z => by
    obtain ⟨r, H2, e, a1, a2, a3, a4, a5⟩ := draw (n := n + 1) (many := 9) px (by omega) (by decide) (by decide)
    have z2 : H2[N + 9]? = some (.lst acc) := by rw [a5 _ (by omega)]; exact z
    refine ⟨r, _, ct_run (σ1 := [some (.ref kp), some (.ref (N + 8)), some (.int i)]) rfl ?_ z2 (Nat.lt_of_lt_of_le ha (small (by decide))), a1, a2, List.getElem?_set_self (lt_of z2), a3.set (by omega), by rw [List.length_set, a4], fun j j1 j2 => by rw [List.getElem?_set_ne (Ne.symm j2)]; exact a5 j j1⟩
    simp only [evE, evEs, getS, List.getElem?_cons_zero, bind_ok, cp49]
    exact e
  obtain ⟨r1, H2, t1, b1, c1, z1, y1, ln1, k1⟩ := turn m H1 [] 0 (by omega) (by decide) x1 d1
  obtain ⟨r2, H3, t2, b2, c2, z2, y2, ln2, k2⟩ := turn (m + 1) H2 _ 1 (by omega) (by simp) y1 z1
  obtain ⟨r3, H4, t3, b3, c3, z3, y3, ln3, k3⟩ := turn (m + 2) H3 _ 2 (by omega) (by simp) y2 z2
  have z3 : H4[N + 9]? = some (.lst [.int r1, .int r2, .int r3]) := z3
  have len4 : H4.length = N + 10 := by rw [ln3, ln2, ln1, len1]
  have k14 : ∀ j, j ≠ kp → j ≠ N + 9 → H4[j]? = H1[j]? := fun j a b => by rw [k3 j a b, k2 j a b, k1 j a b]
  have ecomp : evE P (calA P (n + 2)) (.comp (.name 2) (.range (.int 3)) (.call 49 (.cons (.var 0) (.cons (.int 9) .nil))) [2]) [some (.ref kp), some (.ref (N + 8)), none] (h ++ objs9 N) = .ok (.ref (N + 9)) H4 := by
    have hl : (h ++ objs9 N).length = N + 9 := by simp [l9, hN]
    have ei : evI P (calA P (n + 2)) (.range (.int 3)) [some (.ref kp), some (.ref (N + 8)), none] (h ++ objs9 N) = .ok (.rng 3) (h ++ objs9 N) := by
      rw [evI, inE]
      show kRange (.int 3) _ = _
      unfold kRange
      dsimp only
      rw [if_pos (by decide)]
      rfl
    rw [evE, ei]
    show kComp (h ++ objs9 N).length (walkI (compTurn (h ++ objs9 N).length [2] (.name 2) (evE P (calA P (n + 2)) (.call 49 (.cons (.var 0) (.cons (.int 9) .nil))))) (.rng 3) [some (.ref kp), some (.ref (N + 8)), none] (h ++ objs9 N ++ [AO.lst []])) = _
    rw [hl, hH1]
    have w : walkI (compTurn (N + 9) [2] (.name 2) (evE P (calA P (n + 2)) (.call 49 (.cons (.var 0) (.cons (.int 9) .nil))))) (.rng 3) [some (.ref kp), some (.ref (N + 8)), none] H1 = .nx [some (.ref kp), some (.ref (N + 8)), none] H4 := by
      unfold walkI
      dsimp only
      unfold walkR
      rw [t1]
      dsimp only
      unfold walkR
      rw [show (0 : Int) + 1 = 1 from rfl, t2]
      dsimp only
      unfold walkR
      rw [show (1 : Int) + 1 = 2 from rfl, t3]
      dsimp only
      unfold walkR
      rfl
    rw [w]
    rfl
  -- the sum
  have disp4 : Disp N H4 := fun i o e => by
    have il : i < 9 := (List.getElem?_eq_some_iff.mp e).1
    rw [k14 _ (by omega) (by omega)]
    exact keep1 _ _ (disp0 i o e)
  have e2 : evE P (calA P (n + 2)) (.lst (.cons (.comp (.name 2) (.range (.int 3)) (.call 49 (.cons (.var 0) (.cons (.int 9) .nil))) [2]) .nil)) [some (.ref kp), some (.ref (N + 8)), none] (h ++ objs9 N) = .ok (.ref (N + 10)) (H4 ++ [.lst [.ref (N + 9)]]) := by
    rw [evE, evEs, ecomp]
    simp only [bind_ok, evEs, kLst1, len4]
  generalize hH5 : H4 ++ [AO.lst [AV.ref (N + 9)]] = H5 at e2
  have p45 : Pre H4 H5 := ⟨_, hH5.symm⟩
  have len5 : H5.length = N + 11 := by rw [← hH5]; simp [len4]
  have e3 := add_run (i := 1) (k := N + 8) (xs := (items15 N).take 14) (ys := [.ref (N + 9)]) rfl e2 (p45.get (disp4 8 _ rfl)) (by rw [← hH5, ← len4]; exact get_new _ _) (small (show 15 ≤ 1000 by decide))
  rw [len5] at e3
  have p56 : Pre H5 (H5 ++ [AO.lst ((items15 N).take 14 ++ [.ref (N + 9)])]) := Pre.app _ _
  have z6 : (H5 ++ [AO.lst ((items15 N).take 14 ++ [.ref (N + 9)])])[N + 11]? = some (.lst (items15 N)) := by rw [← len5]; exact get_new _ _
  generalize hH6 : H5 ++ [AO.lst ((items15 N).take 14 ++ [.ref (N + 9)])] = H6 at e3 p56 z6
  have p46 := p45.trans p56
  -- the pick
  obtain ⟨r, H7, e4, b4, c4, y4, ln4, k4⟩ := draw (n := n) (many := 15) (y3.pre p46) (by omega) (by decide) (by decide)
  have z7 : H7[N + 11]? = some (.lst (items15 N)) := by rw [k4 _ (by omega)]; exact z6
  obtain ⟨v, c, d, ev, hv⟩ := vf_all (N := N) ⟨b1, c1⟩ ⟨b2, c2⟩ ⟨b3, c3⟩ b4 c4
  have e5 : calA P (n + 2) 50 [.ref kp, .ref (N + 11)] H6 = .ok v H7 := by
    rw [calA_def (d := d50) rfl rfl]
    show fin (evSs P (calA P (n + 1)) d50.body [some (.ref kp), some (.ref (N + 11))] H6) = _
    have q : evE P (calA P (n + 1)) (.idx (.var 1) (.call 49 (.cons (.var 0) (.cons (.bi .len (.cons (.var 1) .nil)) .nil)))) [some (.ref kp), some (.ref (N + 11))] H6 = .ok v H7 := by
      have il : (items15 N).length = 15 := rfl
      simp only [evE, evEs, getS, List.getElem?_cons_zero, List.getElem?_cons_succ, bind_ok, biA, biLen, seq_lst z6, Option.map_some, of_some, cp49, il]
      have e4' : calA P (n + 1) 49 [.ref kp, .int ((15 : Nat) : Int)] H6 = .ok (.int r) H7 := e4
      rw [e4']
      simp only [bind_ok, idxA, idxS, seq_lst z7, ev, Option.map_some, of_some]
    show fin (evSs P (calA P (n + 1)) (.cons (.ret _) .nil) _ H6) = _
    rw [ss_rt (ret_run q)]; rfl
  refine ⟨v, H7, c, d, ?_, y4, by rw [ln4, ← hH6]; simp [len5]; omega, fun j j1 j2 => ?_, fun h'' fr => hv h'' (fun i o e => ?_) ?_⟩
  · rw [calA_def (d := d51) rfl rfl]
    show fin (evSs P (calA P (n + 2)) (.cons (.set 1 someE) (.cons (.ret (.call 50 (.cons (.var 0) (.cons (.bop .add (.var 1) (.lst (.cons (.comp (.name 2) (.range (.int 3)) (.call 49 (.cons (.var 0) (.cons (.int 9) .nil))) [2]) .nil))) .nil)))) .nil)) [some (.ref kp), none, none] h) = _
    rw [ss_nx (set_run e0)]
    simp only [List.set_cons_zero, List.set_cons_succ]
    have q : evE P (calA P (n + 2)) (.call 50 (.cons (.var 0) (.cons (.bop .add (.var 1) (.lst (.cons (.comp (.name 2) (.range (.int 3)) (.call 49 (.cons (.var 0) (.cons (.int 9) .nil))) [2]) .nil))) .nil))) [some (.ref kp), some (.ref (N + 8)), none] (h ++ objs9 N) = .ok v H7 := by
      rw [evE, evEs, vaE (v := .ref kp) rfl]
      simp only [bind_ok]
      rw [evEs, e3]
      simp only [bind_ok, evEs, cp50]
      exact e5
    rw [ss_rt (ret_run q)]; rfl
  · rw [k4 j j2, ← hH6, List.getElem?_append_left (by omega), ← hH5, List.getElem?_append_left (by omega), k14 j j2 (by omega), ← hH1, List.getElem?_append_left (by simp; omega), List.getElem?_append_left (by omega)]
  · have il : i < 9 := (List.getElem?_eq_some_iff.mp e).1
    refine fr _ _ (by omega) ?_
    rw [k4 _ (by omega)]
    exact p46.get (disp4 i o e)
  · refine fr _ _ (by omega) ?_
    rw [k4 _ (by omega)]
    exact p46.get z3
end K90
end Mini
set_option autoImplicit false
set_option maxHeartbeats 4000000
namespace Mini
open PySem L2
namespace K90
/-! ### the pen is made -/
def penB : MSs := (.cons (.set 1 (.bop .mod (.bi .int (.cons (.bop .add (.bop .mul (.var 1) (.int 179)) (.var 2)) .nil)) (.int 999999223))) .nil)
theorem pen_loop {cal : Nat → List AV → AH → R AV} {h : AH} {ns : List Int} (z : h[0]? = some (.rls (ns.map .int))) : ∀ (m i : Nat) (fo : Int) (s2 : Option AV), i + m = ns.length → 0 ≤ fo → fo < 999999223 →
    ∃ fo' s2', walkL (kTurn (.name 2) (evSs P cal penB)) 0 m i [some (.ref 0), some (.int fo), s2] h = .nx [some (.ref 0), some (.int fo'), s2'] h ∧ 0 ≤ fo' ∧ fo' < 999999223
  | 0, i, fo, s2, hm, h0, h1 => by
    refine ⟨fo, s2, ?_, h0, h1⟩
    unfold walkL seqOf
    dsimp only
    rw [z]
    dsimp only
    rw [if_pos (by simp; omega)]
  | m + 1, i, fo, s2, hm, h0, h1 => by
    have hi : i < ns.length := by omega
    have e1 : evE P cal (.bop .mod (.bi .int (.cons (.bop .add (.bop .mul (.var 1) (.int 179)) (.var 2)) .nil)) (.int 999999223)) [some (.ref 0), some (.int fo), some (.int ns[i])] h = .ok (.int ((fo * 179 + ns[i]).fmod 999999223)) h :=
      opE (iiE (opE (opE (vaE rfl) inE (by simp only [bopI, mul_ok (i := fo) (j := 179) (by omega) (by decide), if_true])) (vaE rfl) rfl)) inE rfl
    obtain ⟨f1, f2⟩ := fmod_in (i := fo * 179 + ns[i]) (j := 999999223) (by decide)
    obtain ⟨fo', s2', q, a, b⟩ := pen_loop z m (i + 1) ((fo * 179 + ns[i]).fmod 999999223) (some (.int ns[i])) (by omega) f1 f2
    refine ⟨fo', s2', ?_, a, b⟩
    unfold walkL seqOf
    dsimp only
    rw [z]
    dsimp only
    rw [List.getElem?_map, List.getElem?_eq_getElem hi]
    simp only [Option.map_some]
    have e2 : kTurn (.name 2) (evSs P cal penB) (.int ns[i]) [some (.ref 0), some (.int fo), s2] h = .nx [some (.ref 0), some (.int ((fo * 179 + ns[i]).fmod 999999223)), some (.int ns[i])] h := by
      unfold kTurn putT penB
      simp only [List.set_cons_zero, List.set_cons_succ]
      rw [ss_nx (set_run e1)]
      rw [evSs]
      rfl
    rw [e2]
    exact q
theorem pen_run {n : Nat} {ns : List Int} : ∃ h', calA P (n + 1) 48 [.ref 0] [.rls (ns.map .int)] = .ok (.ref 1) h' ∧ Pen 0 h' 1 ∧ h'.length = 3 := by
  obtain ⟨fo, s2, q, a, b⟩ := pen_loop (cal := calA P n) (h := [.rls (ns.map .int)]) (ns := ns) rfl ns.length 0 0 none (by simp) (by decide) (by decide)
  refine ⟨[.rls (ns.map .int), .dct (penL 2 0 0 0 fo), .lst (ns.map .int)], ?_, ⟨2, 0, 0, 0, fo, ns, ⟨rfl, rfl, by decide, by decide, by decide, a, by omega⟩, by decide⟩, rfl⟩
  rw [calA_def (d := d48) rfl rfl]
  show fin (evSs P (calA P n) (.cons (.set 1 (.int 0)) (.cons (.for_ (.name 2) (.seq (.var 0)) penB) (.cons (.ret (.dct ["cells", "at", "digits", "count", "fold"] (.cons (.bi .list (.cons (.var 0) .nil)) (.cons (.int 0) (.cons (.int 0) (.cons (.int 0) (.cons (.var 1) .nil))))))) .nil))) [some (.ref 0), none, none] [.rls (ns.map .int)]) = _
  rw [ss_nx (set_run inE)]
  simp only [List.set_cons_zero, List.set_cons_succ]
  have ef : evS P (calA P n) (.for_ (.name 2) (.seq (.var 0)) penB) [some (.ref 0), some (.int 0), none] [.rls (ns.map .int)] = .nx [some (.ref 0), some (.int fo), s2] [.rls (ns.map .int)] := by
    have el : (List.map AV.int ns).length = ns.length := List.length_map ..
    rw [evS, evI, vaE (v := .ref 0) rfl]
    show walkI (kTurn (.name 2) (evSs P (calA P n) penB)) (.lst 0) [some (.ref 0), some (.int 0), none] [.rls (ns.map .int)] = _
    unfold walkI
    show walkL (kTurn (.name 2) (evSs P (calA P n) penB)) 0 (List.map AV.int ns).length 0 [some (.ref 0), some (.int 0), none] [.rls (ns.map .int)] = _
    rw [el]
    exact q
  rw [ss_nx ef]
  have ed : evE P (calA P n) (.dct ["cells", "at", "digits", "count", "fold"] (.cons (.bi .list (.cons (.var 0) .nil)) (.cons (.int 0) (.cons (.int 0) (.cons (.int 0) (.cons (.var 1) .nil)))))) [some (.ref 0), some (.int fo), s2] [.rls (ns.map .int)] = .ok (.ref 1) [.rls (ns.map .int), .dct (penL 2 0 0 0 fo), .lst (ns.map .int)] := by
    simp only [evE, evEs, getS, List.getElem?_cons_zero, List.getElem?_cons_succ, bind_ok, biA, biList, seqOf, List.cons_append, List.nil_append, Option.map_some, of_some, List.length_cons, List.length_nil]
    rfl
  rw [ss_rt (ret_run ed)]
  rfl
/-! ### the four values -/
theorem values_run {n : Nat} {h : AH} (x : Pen 0 h 1) (hl : h.length = 3) {σ : Sg} (hσ : σ = [some (.ref 0), some (.ref 1)] ++ List.replicate 13 none) :
    ∃ v1 v2 v3 v4 c1 c2 c3 c4 d1 d2 d3 d4 H, evE P (calA P (n + 3)) (.comp (.name 11) (.range (.int 4)) (.call 51 (.cons (.var 1) .nil)) [11]) σ h = .ok (.ref 3) H ∧ H[3]? = some (.lst [v1, v2, v3, v4]) ∧ Pen 16 H 1 ∧ 4 ≤ H.length ∧
      ∀ h'', From 4 H h'' → VF h'' v1 c1 d1 ∧ VF h'' v2 c2 d2 ∧ VF h'' v3 c3 d3 ∧ VF h'' v4 c4 d4 := by
  subst hσ
  generalize hσ : [some (AV.ref 0), some (AV.ref 1)] ++ List.replicate 13 none = σ
  have turn : ∀ (q : Nat) (H : AH) (acc : List AV) (i : Int), q + 4 < 1000 → acc.length < 10 → Pen q H 1 → H[3]? = some (.lst acc) → ∃ v c d H', compTurn 3 [11] (.name 11) (evE P (calA P (n + 3)) (.call 51 (.cons (.var 1) .nil))) (.int i) σ H = .nx σ H' ∧
      H'[3]? = some (.lst (acc ++ [v])) ∧ Pen (q + 4) H' 1 ∧ H.length ≤ H'.length ∧ (∀ j, j < H.length → j ≠ 1 → j ≠ 3 → H'[j]? = H[j]?) ∧ ∀ h'', From H.length H' h'' → VF h'' v c d := fun q H acc i hq ha px z => by
    have h3 := lt_of z
    obtain ⟨v, H2, c, d, e, a1, a2, a3, a4⟩ := value_run (n := n) px hq
    have z2 : H2[3]? = some (.lst acc) := by rw [a3 3 h3 (by decide)]; exact z
    refine ⟨v, c, d, _, ct_run (σ1 := σ.set 11 (some (.int i))) (by subst hσ; rfl) ?_ z2 (Nat.lt_of_lt_of_le ha (small (by decide))), List.getElem?_set_self (lt_of z2), a1.set (by decide), by rw [List.length_set]; exact a2, fun j j1 j2 j3 => by rw [List.getElem?_set_ne (Ne.symm j3)]; exact a3 j j1 j2, fun h'' fr => a4 h'' ((From.set h3).trans fr)⟩
    subst hσ
    rw [evE, evEs, vaE (v := .ref 1) rfl]
    simp only [bind_ok, evEs, cp51]
    exact e
  have x0 := x.pre (Pre.app h [AO.lst []])
  have z0 : (h ++ [AO.lst []])[3]? = some (.lst []) := by rw [← hl]; exact get_new _ _
  have l0 : (h ++ [AO.lst []]).length = 4 := by simp [hl]
  generalize hH0 : h ++ [AO.lst []] = H0 at x0 z0 l0
  obtain ⟨v1, c1, d1, H1, t1, z1, y1, ln1, k1, f1⟩ := turn 0 H0 [] 0 (by decide) (by decide) x0 z0
  obtain ⟨v2, c2, d2, H2, t2, z2, y2, ln2, k2, f2⟩ := turn 4 H1 _ 1 (by decide) (by simp) y1 z1
  obtain ⟨v3, c3, d3, H3, t3, z3, y3, ln3, k3, f3⟩ := turn 8 H2 _ 2 (by decide) (by simp) y2 z2
  obtain ⟨v4, c4, d4, H4, t4, z4, y4, ln4, k4, f4⟩ := turn 12 H3 _ 3 (by decide) (by simp) y3 z3
  have g34 : From 4 H3 H4 := fun j o l e => by rw [k4 j (lt_of e) (by omega) (by omega)]; exact e
  have g23 : From 4 H2 H3 := fun j o l e => by rw [k3 j (lt_of e) (by omega) (by omega)]; exact e
  have g12 : From 4 H1 H2 := fun j o l e => by rw [k2 j (lt_of e) (by omega) (by omega)]; exact e
  refine ⟨v1, v2, v3, v4, c1, c2, c3, c4, d1, d2, d3, d4, H4, ?_, z4, y4, by omega, fun h'' fr => ⟨f1 h'' ?_, f2 h'' ?_, f3 h'' ?_, f4 h'' ?_⟩⟩
  · have ei : evI P (calA P (n + 3)) (.range (.int 4)) σ h = .ok (.rng 4) h := by
      rw [evI, inE]
      show kRange (.int 4) _ = _
      unfold kRange
      dsimp only
      rw [if_pos (by decide)]
      rfl
    rw [evE, ei]
    show kComp h.length (walkI (compTurn h.length [11] (.name 11) (evE P (calA P (n + 3)) (.call 51 (.cons (.var 1) .nil)))) (.rng 4) σ (h ++ [AO.lst []])) = _
    rw [hl, hH0]
    have w : walkI (compTurn 3 [11] (.name 11) (evE P (calA P (n + 3)) (.call 51 (.cons (.var 1) .nil)))) (.rng 4) σ H0 = .nx σ H4 := by
      unfold walkI
      dsimp only
      unfold walkR
      rw [t1]
      dsimp only
      unfold walkR
      rw [show (0 : Int) + 1 = 1 from rfl, t2]
      dsimp only
      unfold walkR
      rw [show (1 : Int) + 1 = 2 from rfl, t3]
      dsimp only
      unfold walkR
      rw [show (2 : Int) + 1 = 3 from rfl, t4]
      dsimp only
      unfold walkR
      rfl
    rw [w]
    rfl
  · exact (((g12.trans g23).trans g34).trans fr).le (by omega)
  · exact ((g23.trans g34).trans fr).le (by omega)
  · exact (g34.trans fr).le (by omega)
  · exact fr.le (by omega)
end K90
end Mini
set_option autoImplicit false
set_option maxHeartbeats 4000000
namespace Mini
open PySem L2
namespace K90
/-- what lies in h but for D stays -/
def But (D : Nat) (h h' : AH) : Prop := ∀ j o, j ≠ D → h[j]? = some o → h'[j]? = some o
theorem But.trans {D : Nat} {a b c : AH} (x : But D a b) (y : But D b c) : But D a c := fun j o q e => y j o q (x j o q e)
def copyE : ME := (.ite (.bi .isinst (.cons (.var 14) (.cons (.ty "list") .nil))) (.bi .list (.cons (.var 14) .nil)) (.var 14))
/-- one value, copied in the comprehension: a; what stays true of it -/
theorem copy_turn {cal : Nat → List AV → AH → R AV} {D : Nat} {σ : Sg} {H : AH} {acc : List AV} {v c : AV} (hσ : σ.length = 15) (z : H[D]? = some (.lst acc)) (ha : acc.length < 10) (k : VOk H v c) :
    ∃ a H', compTurn D [14] (.name 14) (evE P cal copyE) v σ H = .nx σ H' ∧ H'[D]? = some (.lst (acc ++ [a])) ∧ But D H H' ∧ (∀ h'', But D H' h'' → VOk h'' v c → VOk h'' a c) ∧ (∀ k xs, a = .ref k → H'[k]? = some (.lst xs) → D < k) ∧ H.length ≤ H'.length := by
  have w0 : getS ((wipeS σ [14]).set 14 (some v)) 14 = some v := by
    unfold getS wipeS
    rw [List.getElem?_set_self (by simp [wipeS, hσ])]
  have hd := lt_of z
  cases k with
  | @lst j xs q =>
    have z2 : (H ++ [AO.lst xs])[D]? = some (.lst acc) := (Pre.app H _).get z
    refine ⟨.ref H.length, (H ++ [AO.lst xs]).set D (.lst (acc ++ [.ref H.length])), ct_run (σ1 := (wipeS σ [14]).set 14 (some (.ref j))) rfl ?_ z2 (Nat.lt_of_lt_of_le ha (small (by decide))), List.getElem?_set_self (lt_of z2), fun i o hi e => ?_, fun h'' b _ => .lst (b _ _ (by omega) ?_), fun k ys e _ => by cases e; exact hd, by simp⟩
    · simp only [copyE, evE, evEs, w0, bind_ok, biA, biIsinst, isList q, Option.map_some, of_some, kIte, biList, seq_lst q]
    · rw [List.getElem?_set_ne (Ne.symm hi)]; exact (Pre.app H _).get e
    · rw [List.getElem?_set_ne (by omega)]; exact get_new _ _
  | @val _ t a b d =>
    refine ⟨v, H.set D (.lst (acc ++ [v])), ct_run (σ1 := (wipeS σ [14]).set 14 (some v)) rfl ?_ z (Nat.lt_of_lt_of_le ha (small (by decide))), List.getElem?_set_self hd, fun i o hi e => by rw [List.getElem?_set_ne (Ne.symm hi)]; exact e, fun h'' _ q => q, fun k ys e q => ?_, by simp⟩
    · simp only [copyE, evE, evEs, w0, bind_ok, biA, biIsinst, notList a b d, Option.map_some, of_some, kIte]
    · subst e
      by_cases hk : D = k
      · subst hk
        unfold tdOf at a
        dsimp only at a
        rw [z] at a
        cases a
        exact absurd rfl b
      · rw [List.getElem?_set_ne hk] at q
        unfold tdOf at a
        dsimp only at a
        rw [q] at a
        cases a
        exact absurd rfl b
theorem seqI {h : AH} {k : Nat} {xs : List AV} (z : h[k]? = some (.lst xs)) : kSeq (.ref k) h = .ok (.lst k) h := by
  unfold kSeq itOf
  dsimp only
  rw [seq_lst z]
  rfl
theorem From.but {lo D : Nat} {h h' : AH} (b : But D h h') (hD : ∀ o, h[D]? ≠ some o) : From lo h h' := fun j o _ e => b j o (fun q => by subst q; exact hD o e) e
theorem four_run {n : Nat} {Hv : AH} {v1 v2 v3 v4 c1 c2 c3 c4 : AV} {d1 d2 d3 d4 : PyData} {σ : Sg} (hσ : σ.length = 15) (s2 : getS σ 2 = some (.ref 3)) (zv : Hv[3]? = some (.lst [v1, v2, v3, v4])) (x : Pen 16 Hv 1) (l4 : 4 ≤ Hv.length)
    (f : ∀ h'', From 4 Hv h'' → VF h'' v1 c1 d1 ∧ VF h'' v2 c2 d2 ∧ VF h'' v3 c3 d3 ∧ VF h'' v4 c4 d4) :
    ∃ a b c d H, evE P (calA P n) (.comp (.name 14) (.seq (.var 2)) copyE [14]) σ Hv = .ok (.ref Hv.length) H ∧ H[Hv.length]? = some (.lst [a, b, c, d]) ∧ Pen 16 H 1 ∧ Pre Hv H ∧ Four H a b c d c1 c2 c3 c4 ∧
      (∀ k xs, a = .ref k → H[k]? = some (.lst xs) → Hv.length < k) := by
  generalize hD : Hv.length = D at l4
  have p0 : Pre Hv (Hv ++ [AO.lst []]) := Pre.app _ _
  have zD : (Hv ++ [AO.lst []])[D]? = some (.lst []) := by rw [← hD]; exact get_new _ _
  have z3 := p0.get zv
  have none : ∀ o, Hv[D]? ≠ some o := fun o e => by have := lt_of e; omega
  have b0 : But D Hv (Hv ++ [AO.lst []]) := fun _ _ _ e => p0.get e
  generalize hH0 : Hv ++ [AO.lst []] = H0 at p0 zD z3 b0
  have vf : ∀ {H : AH}, But D Hv H → VF H v1 c1 d1 ∧ VF H v2 c2 d2 ∧ VF H v3 c3 d3 ∧ VF H v4 c4 d4 := fun b => f _ (From.but b none)
  obtain ⟨a, H1, t1, y1, b1, k1, q1, g1⟩ := copy_turn (cal := calA P n) hσ zD (by decide) (vf b0).1.ok
  obtain ⟨b, H2, t2, y2, b2, k2, q2, g2⟩ := copy_turn (cal := calA P n) hσ y1 (by simp) (vf (b0.trans b1)).2.1.ok
  obtain ⟨c, H3, t3, y3, b3, k3, q3, g3⟩ := copy_turn (cal := calA P n) hσ y2 (by simp) (vf ((b0.trans b1).trans b2)).2.2.1.ok
  obtain ⟨d, H4, t4, y4, b4, k4, q4, g4⟩ := copy_turn (cal := calA P n) hσ y3 (by simp) (vf (((b0.trans b1).trans b2).trans b3)).2.2.2.ok
  have b04 := (((b0.trans b1).trans b2).trans b3).trans b4
  have n3 : (3 : Nat) ≠ D := by omega
  have w0 := zv
  have w1 : H1[3]? = some (.lst [v1, v2, v3, v4]) := b1 3 _ n3 z3
  have w2 : H2[3]? = some (.lst [v1, v2, v3, v4]) := b2 3 _ n3 w1
  have w3 : H3[3]? = some (.lst [v1, v2, v3, v4]) := b3 3 _ n3 w2
  have w4 : H4[3]? = some (.lst [v1, v2, v3, v4]) := b4 3 _ n3 w3
  have l0 : H0.length = D + 1 := by rw [← hH0]; simp [hD]
  have pre : Pre Hv H4 := by
    refine ⟨H4.drop D, ?_⟩
    refine List.ext_getElem? fun j => ?_
    by_cases hj : j < D
    · rw [List.getElem?_append_left (by omega)]
      have e : Hv[j]? = some (Hv[j]'(by omega)) := List.getElem?_eq_getElem (by omega)
      rw [e]
      exact b04 j _ (by omega) e
    · rw [List.getElem?_append_right (by omega), List.getElem?_drop, hD, Nat.add_sub_cancel' (by omega)]
  have F4 := vf b04
  have fld : ∀ {cc : AV} {dd : PyData} {vv : AV}, (∀ h'', From 4 Hv h'' → VF h'' vv cc dd) → Fld H4 cc dd ∧ Sh dd := fun {cc dd vv} q => ⟨⟨fun h' p cal => (q h' (From.of (pre.trans p))).self cal, (q H4 (From.of pre)).same, (q H4 (From.of pre)).data⟩, (q H4 (From.of pre)).sh⟩
  refine ⟨a, b, c, d, H4, ?_, y4, x.pre pre, pre, ⟨k1 _ ((b2.trans b3).trans b4) F4.1.ok, k2 _ (b3.trans b4) F4.2.1.ok, k3 _ b4 F4.2.2.1.ok, k4 _ (fun _ _ _ e => e) F4.2.2.2.ok, d1, d2, d3, d4, fld fun h q => (f h q).1, fld fun h q => (f h q).2.1, fld fun h q => (f h q).2.2.1, fld fun h q => (f h q).2.2.2⟩, fun k xs e z => ?_⟩
  · have ei : evI P (calA P n) (.seq (.var 2)) σ Hv = .ok (.lst 3) Hv := by
      rw [evI, vaE s2]
      exact seqI zv
    rw [evE, ei]
    show kComp Hv.length (walkI (compTurn Hv.length [14] (.name 14) (evE P (calA P n) copyE)) (.lst 3) σ (Hv ++ [AO.lst []])) = _
    rw [hD, hH0]
    have w : walkI (compTurn D [14] (.name 14) (evE P (calA P n) copyE)) (.lst 3) σ H0 = .nx σ H4 := by
      unfold walkI
      dsimp only
      rw [seq_lst z3]
      dsimp only
      show walkL _ 3 4 0 σ H0 = _
      unfold walkL
      rw [seq_lst z3]
      simp only [List.getElem?_cons_zero]
      rw [t1]
      dsimp only
      unfold walkL
      rw [seq_lst w1]
      simp only [List.getElem?_cons_zero, List.getElem?_cons_succ]
      rw [t2]
      dsimp only
      unfold walkL
      rw [seq_lst w2]
      simp only [List.getElem?_cons_zero, List.getElem?_cons_succ]
      rw [t3]
      dsimp only
      unfold walkL
      rw [seq_lst w3]
      simp only [List.getElem?_cons_zero, List.getElem?_cons_succ]
      rw [t4]
      dsimp only
      unfold walkL
      rw [seq_lst w4]
      rfl
    rw [w]
    rfl
  · by_cases hk : k = D
    · subst hk
      by_cases hk1 : ∃ ys, H1[k]? = some (.lst ys)
      · obtain ⟨ys, e1⟩ := hk1
        exact q1 k ys e e1
      · exact absurd ⟨_, y1⟩ hk1
    · by_cases h1 : k < H1.length
      · have e1 : H1[k]? = some (H1[k]'h1) := List.getElem?_eq_getElem h1
        have e4 := b4 k _ hk (b3 k _ hk (b2 k _ hk e1))
        rw [z] at e4
        cases hh : H1[k]'h1 with
        | lst ys => rw [hh] at e1; exact q1 k ys e e1
        | _ => rw [hh] at e4; cases e4
      · have := g1
        rw [l0] at this
        omega
end K90
end Mini
set_option autoImplicit false
set_option maxHeartbeats 4000000
namespace Mini
open PySem L2
namespace K90
/-! ### the first loop -/
structure RowsAt (h : AH) (kr : Nat) (rs : List AV) : Prop where
  z : h[kr]? = some (.lst rs)
  l : rs.length = 11
  r : ∀ (i : Nat) (x : AV), rs[i]? = some x → RowG h x (gAt i)
theorem RowsAt.pre {h h' : AH} {kr : Nat} {rs : List AV} (p : Pre h h') (x : RowsAt h kr rs) : RowsAt h' kr rs := ⟨p.get x.z, x.l, fun i y e => (x.r i y e).pre p⟩
theorem loop1 {n kr : Nat} {rs : List AV} {s0 s1 s2 s3 s4 s5 s6 s7 s11 s12 s13 s14 : Option AV} : ∀ (m i : Nat) (h : AH) (s8 s9 s10 : Option AV), i + m = 11 → RowsAt h kr rs → ∃ u v w h', Pre h h' ∧
    walkL (kTurn (.tup [8, 9, 10]) (evSs P (calA P (n + 3)) body1)) kr m i [s0, s1, s2, s3, s4, s5, s6, s7, s8, s9, s10, s11, s12, s13, s14] h = .nx [s0, s1, s2, s3, s4, s5, s6, s7, u, v, w, s11, s12, s13, s14] h'
  | 0, i, h, s8, s9, s10, hm, x => by
    refine ⟨s8, s9, s10, h, Pre.refl h, ?_⟩
    unfold walkL
    rw [seq_lst x.z]
    dsimp only
    rw [if_pos (by rw [x.l]; omega)]
  | m + 1, i, h, s8, s9, s10, hm, x => by
    have hi : i < rs.length := by rw [x.l]; omega
    have e : rs[i]? = some rs[i] := List.getElem?_eq_getElem hi
    obtain ⟨u, v, w, h1, p1, t1⟩ := row1 (n := n) (s0 := s0) (s1 := s1) (s2 := s2) (s3 := s3) (s4 := s4) (s5 := s5) (s6 := s6) (s7 := s7) (s8 := s8) (s9 := s9) (s10 := s10) (s11 := s11) (s12 := s12) (s13 := s13) (s14 := s14) (x.r i _ e)
    obtain ⟨u', v', w', h2, p2, t2⟩ := loop1 (n := n) m (i + 1) h1 u v w (by omega) (x.pre p1)
    refine ⟨u', v', w', h2, p1.trans p2, ?_⟩
    unfold walkL
    rw [seq_lst x.z]
    dsimp only
    rw [e]
    dsimp only
    rw [t1]
    exact t2
/-! ### the second loop -/
/-- the rows' first instances -/
structure RowsI (h : AH) (kr : Nat) (rs : List AV) : Prop where
  z : h[kr]? = some (.lst rs)
  l : rs.length = 11
  r : ∀ (i : Nat) (x : AV), rs[i]? = some x → CT (gAt i) ∧ ∃ (j : Nat) (w : List AV) (fs : List (Str × AV)), x = .tup (.ref j :: w) ∧ h[j]? = some (.ins (gAt i) fs)
theorem RowsAt.i {h : AH} {kr : Nat} {rs : List AV} (x : RowsAt h kr rs) : RowsI h kr rs := ⟨x.z, x.l, fun i y e => by
  obtain ⟨c, i, j, l, nm, cs, ds, fs, fs', e1, e2, _⟩ := x.r i y e
  exact ⟨c, i, _, fs, e1, e2⟩⟩
/-- where no list, no instance is stored anew -/
def Soft (h h' : AH) : Prop := (∀ (k : Nat) (xs : List AV), h[k]? = some (AO.lst xs) → h'[k]? = some (AO.lst xs)) ∧ (∀ (k g : Nat) (fs : List (Str × AV)), h[k]? = some (AO.ins g fs) → h'[k]? = some (AO.ins g fs))
theorem RowsI.soft {h h' : AH} {kr : Nat} {rs : List AV} (s : Soft h h') (x : RowsI h kr rs) : RowsI h' kr rs := ⟨s.1 _ _ x.z, x.l, fun i y e => by
  obtain ⟨c, j, w, fs, e1, e2⟩ := x.r i y e
  exact ⟨c, j, w, fs, e1, s.2 _ _ _ e2⟩⟩
theorem Pen.soft {m : Nat} {h h' : AH} {kp : Nat} (x : Pen m h kp) (k : ∀ j, j ≠ kp → h'[j]? = h[j]?) : Soft h h' := by
  obtain ⟨kc, t, dg, ct, fo, xs, p, _⟩ := x
  refine ⟨fun j ys e => ?_, fun j g fs e => ?_⟩
  · rw [k j (fun q => by subst q; rw [p.pen] at e; cases e)]; exact e
  · rw [k j (fun q => by subst q; rw [p.pen] at e; cases e)]; exact e
theorem atI_ok {xs : List AV} {i : Nat} {v : AV} (e : xs[i]? = some v) : atI xs (i : Int) = some v := atI_nat e
theorem idx0 {cal : Nat → List AV → AH → R AV} {σ : Sg} {h h1 : AH} {e : ME} {v : AV} {w : List AV} (a : evE P cal e σ h = .ok (.tup (v :: w)) h1) : evE P cal (.idx e (.int 0)) σ h = .ok v h1 := by
  rw [evE, a]
  simp only [bind_ok]
  rw [inE]
  show R.of (idxS (.tup (v :: w)) 0 h1) = _
  unfold idxS seqOf
  dsimp only
  rw [show atI (v :: w) 0 = some v from atI_nat (j := 0) rfl]
  rfl
theorem idxL {cal : Nat → List AV → AH → R AV} {σ : Sg} {h h1 : AH} {e : ME} {k j i : Nat} {xs : List AV} {v : AV} (v7 : getS σ i = some (.ref k)) (a : evE P cal e σ h = .ok (.int (j : Int)) h1) (z : h1[k]? = some (.lst xs)) (q : xs[j]? = some v) : evE P cal (.idx (.var i) e) σ h = .ok v h1 := by
  rw [evE, vaE v7]
  simp only [bind_ok]
  rw [a]
  show R.of (idxS (.ref k) j h1) = _
  unfold idxS
  rw [seq_lst z]
  dsimp only
  rw [atI_ok q]
  rfl
theorem gAt_ne {i j : Nat} (hi : i < 11) (hj : j < 11) (h : i ≠ j) : gAt j ≠ gAt i := by
  have a : ∀ i : Fin 11, ∀ j : Fin 11, i ≠ j → gAt j.val ≠ gAt i.val := by decide
  exact a ⟨i, hi⟩ ⟨j, hj⟩ (fun q => h (congrArg Fin.val q))
def body2 : MSs := (.cons (.set 12 (.idx (.idx (.var 7) (.bop .mod (.bi .int (.cons (.bop .add (.bop .add (.var 11) (.int 1)) (.call 49 (.cons (.var 1) (.cons (.bop .sub (.bi .len (.cons (.var 7) .nil)) (.int 1)) .nil)))) .nil)) (.bi .len (.cons (.var 7) .nil)))) (.int 0)))
    (.cons (.if_ (.or_ (.cmp .eq (.idx (.idx (.var 7) (.var 11)) (.int 0)) (.var 12)) (.not_ (.cmp .ne (.idx (.idx (.var 7) (.var 11)) (.int 0)) (.var 12)))) (.cons (.ret (.bl false))
    .nil) .nil)
    .nil))
theorem turn2 {n q kr i : Nat} {h : AH} {rs : List AV} {s0 s2 s3 s4 s5 s6 s8 s9 s10 s11 s12 s13 s14 : Option AV} (x : RowsI h kr rs) (y : Pen q h 1) (hq : q < 1000) (hi : i < 11) : ∃ w h', Soft h h' ∧ Pen (q + 1) h' 1 ∧ (∀ j, j ≠ 1 → h'[j]? = h[j]?) ∧
    kTurn (.name 11) (evSs P (calA P (n + 3)) body2) (.int i) [s0, some (.ref 1), s2, s3, s4, s5, s6, some (.ref kr), s8, s9, s10, s11, s12, s13, s14] h = .nx [s0, some (.ref 1), s2, s3, s4, s5, s6, some (.ref kr), s8, s9, s10, some (.int i), w, s13, s14] h' := by
  obtain ⟨r, h1, ed, r0, r1, y1, ln, k1⟩ := draw (n := n + 2) (many := 10) y hq (by decide) (by decide)
  have sf := y.soft k1
  have x1 := x.soft sf
  have hil : i < rs.length := by rw [x.l]; exact hi
  obtain ⟨j, hj⟩ : ∃ j : Nat, (j : Int) = ((i : Int) + 1 + r).fmod 11 := ⟨(((i : Int) + 1 + r).fmod 11).toNat, Int.toNat_of_nonneg (fmod_in (by decide)).1⟩
  have hj1 : j < 11 := by have := (fmod_in (i := (i : Int) + 1 + r) (j := 11) (by decide)).2; omega
  have hji : i ≠ j := fun e => by
    subst e
    rw [Int.fmod_eq_emod_of_nonneg _ (by decide : (0 : Int) ≤ 11)] at hj
    omega
  have hjl : j < rs.length := by rw [x.l]; exact hj1
  have ei : rs[i]? = some rs[i] := List.getElem?_eq_getElem hil
  have ej : rs[j]? = some rs[j] := List.getElem?_eq_getElem hjl
  obtain ⟨ci, ai, wi, fi, qi, zi⟩ := x1.r i _ ei
  obtain ⟨cj, aj, wj, fj, qj, zj⟩ := x1.r j _ ej
  rw [qi] at ei
  rw [qj] at ej
  have len : ∀ (σ : Sg) (H : AH), getS σ 7 = some (.ref kr) → H[kr]? = some (.lst rs) → evE P (calA P (n + 3)) (.bi .len (.cons (.var 7) .nil)) σ H = .ok (.int 11) H := fun σ H v z => by
    rw [evE, evEs, vaE v]
    simp only [bind_ok, evEs, biA, biLen, seq_lst z, Option.map_some, of_some, x.l]
    rfl
  have e1 : evE P (calA P (n + 3)) (.idx (.idx (.var 7) (.bop .mod (.bi .int (.cons (.bop .add (.bop .add (.var 11) (.int 1)) (.call 49 (.cons (.var 1) (.cons (.bop .sub (.bi .len (.cons (.var 7) .nil)) (.int 1)) .nil)))) .nil)) (.bi .len (.cons (.var 7) .nil)))) (.int 0)) [s0, some (.ref 1), s2, s3, s4, s5, s6, some (.ref kr), s8, s9, s10, some (.int i), s12, s13, s14] h = .ok (.ref aj) h1 := by
    have a1 : evE P (calA P (n + 3)) (.bop .add (.var 11) (.int 1)) [s0, some (.ref 1), s2, s3, s4, s5, s6, some (.ref kr), s8, s9, s10, some (.int i), s12, s13, s14] h = .ok (.int ((i : Int) + 1)) h := opE (vaE rfl) inE rfl
    have a2 : evE P (calA P (n + 3)) (.bop .sub (.bi .len (.cons (.var 7) .nil)) (.int 1)) [s0, some (.ref 1), s2, s3, s4, s5, s6, some (.ref kr), s8, s9, s10, some (.int i), s12, s13, s14] h = .ok (.int 10) h := opE (len _ h rfl x.z) inE rfl
    have a3 : evE P (calA P (n + 3)) (.call 49 (.cons (.var 1) (.cons (.bop .sub (.bi .len (.cons (.var 7) .nil)) (.int 1)) .nil))) [s0, some (.ref 1), s2, s3, s4, s5, s6, some (.ref kr), s8, s9, s10, some (.int i), s12, s13, s14] h = .ok (.int r) h1 := by
      rw [evE, evEs, vaE (v := .ref 1) rfl]
      simp only [bind_ok]
      rw [evEs, a2]
      simp only [bind_ok, evEs, cp49]
      exact ed
    have a4 : evE P (calA P (n + 3)) (.bop .add (.bop .add (.var 11) (.int 1)) (.call 49 (.cons (.var 1) (.cons (.bop .sub (.bi .len (.cons (.var 7) .nil)) (.int 1)) .nil)))) [s0, some (.ref 1), s2, s3, s4, s5, s6, some (.ref kr), s8, s9, s10, some (.int i), s12, s13, s14] h = .ok (.int ((i : Int) + 1 + r)) h1 := by
      rw [evE, a1]
      simp only [bind_ok, a3]
      rfl
    have a5 : evE P (calA P (n + 3)) (.bop .mod (.bi .int (.cons (.bop .add (.bop .add (.var 11) (.int 1)) (.call 49 (.cons (.var 1) (.cons (.bop .sub (.bi .len (.cons (.var 7) .nil)) (.int 1)) .nil)))) .nil)) (.bi .len (.cons (.var 7) .nil))) [s0, some (.ref 1), s2, s3, s4, s5, s6, some (.ref kr), s8, s9, s10, some (.int i), s12, s13, s14] h = .ok (.int j) h1 := by
      rw [evE, evE, evEs, a4]
      simp only [bind_ok, evEs, biA, biInt, of_some]
      rw [len _ h1 rfl x1.z]
      simp only [bind_ok, bopA]
      rw [show bopI .mod ((i : Int) + 1 + r) 11 = some (((i : Int) + 1 + r).fmod 11) from rfl, ← hj]
      rfl
    exact idx0 (idxL rfl a5 x1.z ej)
  have e2 : ∀ σ : Sg, getS σ 7 = some (.ref kr) → getS σ 11 = some (.int i) → evE P (calA P (n + 3)) (.idx (.idx (.var 7) (.var 11)) (.int 0)) σ h1 = .ok (.ref ai) h1 := fun σ v7 v11 => idx0 (idxL v7 (vaE v11) x1.z ei)
  obtain ⟨b1, b2⟩ := both (n := n) ci cj.is zi zj fun m => ci.no (m + 1) _ h1 ai aj fj cj.is (gAt_ne hi hj1 hji) zj
  refine ⟨some (.ref aj), h1, sf, y1, k1, ?_⟩
  unfold kTurn putT body2
  simp only [List.set_cons_zero, List.set_cons_succ]
  rw [ss_nx (set_run e1)]
  simp only [List.set_cons_zero, List.set_cons_succ]
  have e3 : evE P (calA P (n + 3)) (.or_ (.cmp .eq (.idx (.idx (.var 7) (.var 11)) (.int 0)) (.var 12)) (.not_ (.cmp .ne (.idx (.idx (.var 7) (.var 11)) (.int 0)) (.var 12)))) [s0, some (.ref 1), s2, s3, s4, s5, s6, some (.ref kr), s8, s9, s10, some (.int i), some (.ref aj), s13, s14] h1 = .ok (.bl false) h1 := by
    have q := e2 [s0, some (.ref 1), s2, s3, s4, s5, s6, some (.ref kr), s8, s9, s10, some (.int i), some (.ref aj), s13, s14] rfl rfl
    rw [evE, evE, q]
    simp only [bind_ok]
    rw [vaE (v := .ref aj) rfl]
    simp only [bind_ok, b1, of_some, kOr_f]
    rw [evE, evE, q]
    simp only [bind_ok]
    rw [vaE (v := .ref aj) rfl]
    simp only [bind_ok, b2, of_some, kNot_b, Bool.not_false, Bool.not_true]
  rw [ss_nx (if_f e3), evSs]
theorem loop2 {n kr : Nat} {rs : List AV} {s0 s2 s3 s4 s5 s6 s8 s9 s10 s13 s14 : Option AV} : ∀ (m i q : Nat) (h : AH) (s11 s12 : Option AV), i + m = 11 → q + m < 1000 → RowsI h kr rs → Pen q h 1 → ∃ u w h', (∀ j, j ≠ 1 → h'[j]? = h[j]?) ∧ Soft h h' ∧
    walkR (kTurn (.name 11) (evSs P (calA P (n + 3)) body2)) m (i : Int) [s0, some (.ref 1), s2, s3, s4, s5, s6, some (.ref kr), s8, s9, s10, s11, s12, s13, s14] h = .nx [s0, some (.ref 1), s2, s3, s4, s5, s6, some (.ref kr), s8, s9, s10, u, w, s13, s14] h'
  | 0, i, q, h, s11, s12, hm, hq, x, y => ⟨s11, s12, h, fun _ _ => rfl, ⟨fun _ _ e => e, fun _ _ _ e => e⟩, by unfold walkR; rfl⟩
  | m + 1, i, q, h, s11, s12, hm, hq, x, y => by
    obtain ⟨w, h1, f1, y1, k1, t1⟩ := turn2 (n := n) (s0 := s0) (s2 := s2) (s3 := s3) (s4 := s4) (s5 := s5) (s6 := s6) (s8 := s8) (s9 := s9) (s10 := s10) (s11 := s11) (s12 := s12) (s13 := s13) (s14 := s14) x y (by omega) (i := i) (by omega)
    obtain ⟨u, w', h2, k2, f2, t2⟩ := loop2 (n := n) m (i + 1) (q + 1) h1 (some (.int i)) w (by omega) (by omega) (x.soft f1) y1
    refine ⟨u, w', h2, fun j hj => by rw [k2 j hj, k1 j hj], ⟨fun k xs e => f2.1 _ _ (f1.1 _ _ e), fun k g fs e => f2.2 _ _ _ (f1.2 _ _ _ e)⟩, ?_⟩
    unfold walkR
    rw [t1]
    dsimp only
    rw [show ((i : Int) + 1) = ((i + 1 : Nat) : Int) by omega]
    exact t2
end K90
end Mini
set_option autoImplicit false
set_option maxHeartbeats 4000000
namespace Mini
open PySem L2
namespace K90
/-! ### unlike instances -/
def flatA : AV → Bool
  | .int _ => true | .str _ => true | .tup _ => true
  | _ => false
theorem vflat {h : AH} {v : AV} (e : flatA v = true) : VOk h v v := by
  cases v with
  | int i => exact .val (t := "int") rfl (by decide) (by decide)
  | str i => exact .val (t := "str") rfl (by decide) (by decide)
  | tup i => exact .val (t := "tuple") rfl (by decide) (by decide)
  | _ => cases e
/-- two instances that are not == -/
def Two (g : Nat) (es es' : MEs) : Prop := CT g ∧ ∃ fs fs' : List (Str × AV), (∀ (m i j : Nat) (h : AH), h[i]? = some (.ins g fs) → h[j]? = some (.ins g fs') → calA P (m + 2) (g + 2) [.ref i, .ref j] h = .ok (.bl false) h) ∧
  ∀ (n : Nat) (σ : Sg) (h : AH), ∃ i j h1 h2, evE P (calA P (n + 2)) (.call g es) σ h = .ok (.ref i) h1 ∧ evE P (calA P (n + 2)) (.call g es') σ h1 = .ok (.ref j) h2 ∧ Pre h h2 ∧ h2[i]? = some (.ins g fs) ∧ h2[j]? = some (.ins g fs')
theorem two {g : Nat} {fs : List Str} {es es' : MEs} {cs cs' : List AV} (c : CT g) (hi : P (g + 1) = some (.def_ (mkInit fs))) (nd : nodupB fs = true) (hz : fs.length < 900) (l1 : cs.length = fs.length) (l2 : cs'.length = fs.length) (f1 : cs.all flatA = true) (f2 : cs'.all flatA = true)
    (x1 : ∀ (cal : Nat → List AV → AH → R AV) (σ : Sg) (h : AH), evEs P cal es σ h = .ok cs h) (x2 : ∀ (cal : Nat → List AV → AH → R AV) (σ : Sg) (h : AH), evEs P cal es' σ h = .ok cs' h)
    (q : ∀ (m : Nat) (h : AH) (i j : Nat), h[i]? = some (.ins g (fs.zip cs)) → h[j]? = some (.ins g (fs.zip cs')) → calA P (m + 2) (g + 2) [.ref i, .ref j] h = .ok (.bl false) h) : Two g es es' := by
  have ok : ∀ {xs : List AV} (h : AH), xs.all flatA = true → ∀ (j : Nat) (v c : AV), xs[j]? = some v → xs[j]? = some c → VOk h v c := fun {xs} h f j v u a b => by
    rw [a] at b
    cases b
    exact vflat (List.all_eq_true.mp f v (List.mem_of_getElem? a))
  refine ⟨c, _, _, fun m i j h => q m h i j, fun n σ h => ⟨h.length, (h ++ [AO.ins g (fs.zip cs)]).length, h ++ [AO.ins g (fs.zip cs)], h ++ [AO.ins g (fs.zip cs)] ++ [AO.ins g (fs.zip cs')], ?_, ?_, (Pre.app _ _).trans (Pre.app _ _), (Pre.app _ _).get (get_new _ _), get_new _ _⟩⟩
  · rw [evE, x1]
    exact make_P c.c hi nd hz l1 l1 (ok h f1)
  · rw [evE, x2]
    exact make_P c.c hi nd hz l2 l2 (ok _ f2)
/-- f(..) == g(..) of such -/
theorem two_eq {n g : Nat} {es es' : MEs} (t : Two g es es') (σ : Sg) (h : AH) : ∃ h', evE P (calA P (n + 3)) (.cmp .eq (.call g es) (.call g es')) σ h = .ok (.bl false) h' ∧ Pre h h' := by
  obtain ⟨c, fs, fs', q, x⟩ := t
  obtain ⟨i, j, h1, h2, a, b, p, zi, zj⟩ := x (n + 1) σ h
  refine ⟨h2, ?_, p⟩
  rw [evE, a]
  simp only [bind_ok, b, (both (n := n) c c.is zi zj fun m => q m _ _ _ zi zj).1, of_some]
structure PairNe (h : AH) (p : AV) : Prop where
  ex : ∃ (i j g : Nat) (fs fs' : List (Str × AV)), CT g ∧ p = .tup [.ref i, .ref j] ∧ h[i]? = some (.ins g fs) ∧ h[j]? = some (.ins g fs') ∧ ∀ (m : Nat) (h : AH), h[i]? = some (.ins g fs) → h[j]? = some (.ins g fs') → calA P (m + 2) (g + 2) [.ref i, .ref j] h = .ok (.bl false) h
theorem PairNe.soft {h h' : AH} {p : AV} (k : ∀ (k g : Nat) (fs : List (Str × AV)), h[k]? = some (AO.ins g fs) → h'[k]? = some (AO.ins g fs)) (x : PairNe h p) : PairNe h' p := by
  obtain ⟨i, j, g, fs, fs', c, e, a, b, q⟩ := x
  exact ⟨i, j, g, fs, fs', c, e, k _ _ _ a, k _ _ _ b, q⟩
theorem PairNe.pre {h h' : AH} {p : AV} (k : Pre h h') (x : PairNe h p) : PairNe h' p := x.soft fun _ _ _ e => k.get e
/-- lists of such pairs -/
def LS (es : MEs) (k : Nat) : Prop := ∀ (n : Nat) (σ : Sg) (h : AH), ∃ ps h', evEs P (calA P (n + 2)) es σ h = .ok ps h' ∧ Pre h h' ∧ ps.length = k ∧ ∀ p ∈ ps, PairNe h' p
theorem ls_nil : LS .nil 0 := fun n σ h => ⟨[], h, by rw [evEs], Pre.refl h, rfl, fun _ q => by cases q⟩
theorem ls_cons {g k : Nat} {es es' : MEs} {r : MEs} (t : Two g es es') (l : LS r k) : LS (.cons (.tup (.cons (.call g es) (.cons (.call g es') .nil))) r) (k + 1) := fun n σ h => by
  obtain ⟨c, fs, fs', q, x⟩ := t
  obtain ⟨i, j, h1, h2, a, b, p, zi, zj⟩ := x n σ h
  obtain ⟨ps, h3, e, p2, hl, hp⟩ := l n σ h2
  refine ⟨.tup [.ref i, .ref j] :: ps, h3, ?_, p.trans p2, by simp [hl], fun y hy => ?_⟩
  · rw [evEs, evE, evEs, a]
    simp only [bind_ok]
    rw [evEs, b]
    simp only [bind_ok, evEs, kTup2, e]
  · rcases List.mem_cons.mp hy with rfl | hy
    · exact ⟨i, j, g, fs, fs', c, rfl, p2.get zi, p2.get zj, fun m h => q m i j h⟩
    · exact hp y hy
/-- rows = rows + [..] -/
theorem ls_add {n k : Nat} {es : MEs} {K : Nat} {h : AH} {ps : List AV} (l : LS es k) (z : h[K]? = some (.lst ps)) (hp : ∀ p ∈ ps, PairNe h p) (hk : ps.length ≤ 100) (hk2 : k ≤ 100) :
    ∃ K' h' ps', evS P (calA P (n + 2)) (.set 0 (.bop .add (.var 0) (.lst es))) [some (.ref K)] h = .nx [some (.ref K')] h' ∧ Pre h h' ∧ h'[K']? = some (.lst ps') ∧ ps'.length = ps.length + k ∧ ∀ p ∈ ps', PairNe h' p := by
  obtain ⟨qs, h1, e, p1, ql, hq⟩ := l n [some (.ref K)] h
  have e1 : evE P (calA P (n + 2)) (.lst es) [some (.ref K)] h = .ok (.ref h1.length) (h1 ++ [.lst qs]) := by
    rw [evE, e]
    exact if_pos (small (by omega))
  have p2 : Pre h1 (h1 ++ [AO.lst qs]) := Pre.app _ _
  have a := add_run (i := 0) (k := K) rfl e1 ((p1.trans p2).get z) (get_new _ _) (small (by omega))
  refine ⟨_, _, ps ++ qs, by rw [set_run a]; rfl, (p1.trans p2).trans (Pre.app _ _), get_new _ _, by simp [ql], fun p hm => ?_⟩
  rcases List.mem_append.mp hm with hm | hm
  · exact (hp p hm).pre ((p1.trans p2).trans (Pre.app _ _))
  · exact (hq p hm).pre (p2.trans (Pre.app _ _))
def t0A : MEs := (.cons (.int 1) (.cons (.int 2) (.cons (.str "a") .nil)))
def t0B : MEs := (.cons (.int 1) (.cons (.int 3) (.cons (.str "a") .nil)))
theorem t0 : Two 1 t0A t0B := two (fs := ["line", "column", "what"]) (cs := [.int 1, .int 2, .str "a"]) (cs' := [.int 1, .int 3, .str "a"]) ct1 rfl (by decide +kernel) (by decide) rfl rfl rfl rfl (fun _ _ _ => by simp only [t0A, evEs, evE, bind_ok, kNeg, kTup0, kTup1]) (fun _ _ _ => by simp only [t0B, evEs, evE, bind_ok, kNeg, kTup0, kTup1]) (fun m h' i j zi zj => by rw [eq1 zi zj]; kernel_rfl)
def t1A : MEs := (.cons (.int 1) .nil)
def t1B : MEs := (.cons (.int 2) .nil)
theorem t1 : Two 5 t1A t1B := two (fs := ["ratio"]) (cs := [.int 1]) (cs' := [.int 2]) ct5 rfl (by decide +kernel) (by decide) rfl rfl rfl rfl (fun _ _ _ => by simp only [t1A, evEs, evE, bind_ok, kNeg, kTup0, kTup1]) (fun _ _ _ => by simp only [t1B, evEs, evE, bind_ok, kNeg, kTup0, kTup1]) (fun m h' i j zi zj => by rw [eq5 zi zj]; rfl)
def t2A : MEs := (.cons (.int 1) .nil)
def t2B : MEs := (.cons (.neg (.int 1)) .nil)
theorem t2 : Two 9 t2A t2B := two (fs := ["sign"]) (cs := [.int 1]) (cs' := [.int (-1)]) ct9 rfl (by decide +kernel) (by decide) rfl rfl rfl rfl (fun _ _ _ => by simp only [t2A, evEs, evE, bind_ok, kNeg, kTup0, kTup1]) (fun _ _ _ => by simp only [t2B, evEs, evE, bind_ok, kNeg, kTup0, kTup1]) (fun m h' i j zi zj => by rw [eq9 zi zj]; rfl)
def t3A : MEs := (.cons (.int 0) .nil)
def t3B : MEs := (.cons (.int 1) .nil)
theorem t3 : Two 13 t3A t3B := two (fs := ["number"]) (cs := [.int 0]) (cs' := [.int 1]) ct13 rfl (by decide +kernel) (by decide) rfl rfl rfl rfl (fun _ _ _ => by simp only [t3A, evEs, evE, bind_ok, kNeg, kTup0, kTup1]) (fun _ _ _ => by simp only [t3B, evEs, evE, bind_ok, kNeg, kTup0, kTup1]) (fun m h' i j zi zj => by rw [eq13 zi zj]; rfl)
def t4A : MEs := (.cons (.str "a") (.cons (.int 1) .nil))
def t4B : MEs := (.cons (.str "a") (.cons (.int 2) .nil))
theorem t4 : Two 17 t4A t4B := two (fs := ["word", "ratio"]) (cs := [.str "a", .int 1]) (cs' := [.str "a", .int 2]) ct17 rfl (by decide +kernel) (by decide) rfl rfl rfl rfl (fun _ _ _ => by simp only [t4A, evEs, evE, bind_ok, kNeg, kTup0, kTup1]) (fun _ _ _ => by simp only [t4B, evEs, evE, bind_ok, kNeg, kTup0, kTup1]) (fun m h' i j zi zj => by rw [eq17 zi zj]; kernel_rfl)
def t5A : MEs := (.cons (.tup .nil) .nil)
def t5B : MEs := (.cons (.tup (.cons (.int 1) .nil)) .nil)
theorem t5 : Two 21 t5A t5B := two (fs := ["row"]) (cs := [.tup []]) (cs' := [.tup [.int 1]]) ct21 rfl (by decide +kernel) (by decide) rfl rfl rfl rfl (fun _ _ _ => by simp only [t5A, evEs, evE, bind_ok, kNeg, kTup0, kTup1]) (fun _ _ _ => by simp only [t5B, evEs, evE, bind_ok, kNeg, kTup0, kTup1]) (fun m h' i j zi zj => by rw [eq21 zi zj]; rfl)
def t6A : MEs := (.cons (.int 1) (.cons (.tup .nil) .nil))
def t6B : MEs := (.cons (.int 1) (.cons (.tup (.cons (.int 1) .nil)) .nil))
theorem t6 : Two 35 t6A t6B := two (fs := ["number", "powers"]) (cs := [.int 1, .tup []]) (cs' := [.int 1, .tup [.int 1]]) ct35 rfl (by decide +kernel) (by decide) rfl rfl rfl rfl (fun _ _ _ => by simp only [t6A, evEs, evE, bind_ok, kNeg, kTup0, kTup1]) (fun _ _ _ => by simp only [t6B, evEs, evE, bind_ok, kNeg, kTup0, kTup1]) (fun m h' i j zi zj => by rw [eq35 zi zj]; rfl)
def t7A : MEs := (.cons (.tup .nil) (.cons (.tup .nil) (.cons (.tup .nil) .nil)))
def t7B : MEs := (.cons (.tup .nil) (.cons (.tup (.cons (.int 1) .nil)) (.cons (.tup .nil) .nil)))
theorem t7 : Two 39 t7A t7B := two (fs := ["lets", "asks", "spots"]) (cs := [.tup [], .tup [], .tup []]) (cs' := [.tup [], .tup [.int 1], .tup []]) ct39 rfl (by decide +kernel) (by decide) rfl rfl rfl rfl (fun _ _ _ => by simp only [t7A, evEs, evE, bind_ok, kNeg, kTup0, kTup1]) (fun _ _ _ => by simp only [t7B, evEs, evE, bind_ok, kNeg, kTup0, kTup1]) (fun m h' i j zi zj => by rw [eq39 zi zj]; rfl)
def u0A : MEs := (.cons (.int 1) (.cons (.int 2) (.cons (.int 3) (.cons (.int 4) (.cons (.int 5) (.cons (.int 6) .nil))))))
def u0B : MEs := (.cons (.int 0) (.cons (.int 2) (.cons (.int 3) (.cons (.int 4) (.cons (.int 5) (.cons (.int 6) .nil))))))
theorem u0 : Two 43 u0A u0B := two (fs := ["field", "rows", "steps", "depth", "places", "root"]) (cs := [.int 1, .int 2, .int 3, .int 4, .int 5, .int 6]) (cs' := [.int 0, .int 2, .int 3, .int 4, .int 5, .int 6]) ct43 rfl (by decide +kernel) (by decide) rfl rfl rfl rfl (fun _ _ _ => by simp only [u0A, evEs, evE, bind_ok, kNeg, kTup0, kTup1]) (fun _ _ _ => by simp only [u0B, evEs, evE, bind_ok, kNeg, kTup0, kTup1]) (fun m h' i j zi zj => by rw [eq43 zi zj]; rfl)
def u1A : MEs := (.cons (.int 1) (.cons (.int 2) (.cons (.int 3) (.cons (.int 4) (.cons (.int 5) (.cons (.int 6) .nil))))))
def u1B : MEs := (.cons (.int 1) (.cons (.int 0) (.cons (.int 3) (.cons (.int 4) (.cons (.int 5) (.cons (.int 6) .nil))))))
theorem u1 : Two 43 u1A u1B := two (fs := ["field", "rows", "steps", "depth", "places", "root"]) (cs := [.int 1, .int 2, .int 3, .int 4, .int 5, .int 6]) (cs' := [.int 1, .int 0, .int 3, .int 4, .int 5, .int 6]) ct43 rfl (by decide +kernel) (by decide) rfl rfl rfl rfl (fun _ _ _ => by simp only [u1A, evEs, evE, bind_ok, kNeg, kTup0, kTup1]) (fun _ _ _ => by simp only [u1B, evEs, evE, bind_ok, kNeg, kTup0, kTup1]) (fun m h' i j zi zj => by rw [eq43 zi zj]; rfl)
def u2A : MEs := (.cons (.int 1) (.cons (.int 2) (.cons (.int 3) (.cons (.int 4) (.cons (.int 5) (.cons (.int 6) .nil))))))
def u2B : MEs := (.cons (.int 1) (.cons (.int 2) (.cons (.int 0) (.cons (.int 4) (.cons (.int 5) (.cons (.int 6) .nil))))))
theorem u2 : Two 43 u2A u2B := two (fs := ["field", "rows", "steps", "depth", "places", "root"]) (cs := [.int 1, .int 2, .int 3, .int 4, .int 5, .int 6]) (cs' := [.int 1, .int 2, .int 0, .int 4, .int 5, .int 6]) ct43 rfl (by decide +kernel) (by decide) rfl rfl rfl rfl (fun _ _ _ => by simp only [u2A, evEs, evE, bind_ok, kNeg, kTup0, kTup1]) (fun _ _ _ => by simp only [u2B, evEs, evE, bind_ok, kNeg, kTup0, kTup1]) (fun m h' i j zi zj => by rw [eq43 zi zj]; rfl)
def u3A : MEs := (.cons (.int 1) (.cons (.int 2) (.cons (.int 3) (.cons (.int 4) (.cons (.int 5) (.cons (.int 6) .nil))))))
def u3B : MEs := (.cons (.int 1) (.cons (.int 2) (.cons (.int 3) (.cons (.int 0) (.cons (.int 5) (.cons (.int 6) .nil))))))
theorem u3 : Two 43 u3A u3B := two (fs := ["field", "rows", "steps", "depth", "places", "root"]) (cs := [.int 1, .int 2, .int 3, .int 4, .int 5, .int 6]) (cs' := [.int 1, .int 2, .int 3, .int 0, .int 5, .int 6]) ct43 rfl (by decide +kernel) (by decide) rfl rfl rfl rfl (fun _ _ _ => by simp only [u3A, evEs, evE, bind_ok, kNeg, kTup0, kTup1]) (fun _ _ _ => by simp only [u3B, evEs, evE, bind_ok, kNeg, kTup0, kTup1]) (fun m h' i j zi zj => by rw [eq43 zi zj]; rfl)
def u4A : MEs := (.cons (.int 1) (.cons (.int 2) (.cons (.int 3) (.cons (.int 4) (.cons (.int 5) (.cons (.int 6) .nil))))))
def u4B : MEs := (.cons (.int 1) (.cons (.int 2) (.cons (.int 3) (.cons (.int 4) (.cons (.int 0) (.cons (.int 6) .nil))))))
theorem u4 : Two 43 u4A u4B := two (fs := ["field", "rows", "steps", "depth", "places", "root"]) (cs := [.int 1, .int 2, .int 3, .int 4, .int 5, .int 6]) (cs' := [.int 1, .int 2, .int 3, .int 4, .int 0, .int 6]) ct43 rfl (by decide +kernel) (by decide) rfl rfl rfl rfl (fun _ _ _ => by simp only [u4A, evEs, evE, bind_ok, kNeg, kTup0, kTup1]) (fun _ _ _ => by simp only [u4B, evEs, evE, bind_ok, kNeg, kTup0, kTup1]) (fun m h' i j zi zj => by rw [eq43 zi zj]; rfl)
def u5A : MEs := (.cons (.int 1) (.cons (.int 2) (.cons (.int 3) (.cons (.int 4) (.cons (.int 5) (.cons (.int 6) .nil))))))
def u5B : MEs := (.cons (.int 1) (.cons (.int 2) (.cons (.int 3) (.cons (.int 4) (.cons (.int 5) (.cons (.int 0) .nil))))))
theorem u5 : Two 43 u5A u5B := two (fs := ["field", "rows", "steps", "depth", "places", "root"]) (cs := [.int 1, .int 2, .int 3, .int 4, .int 5, .int 6]) (cs' := [.int 1, .int 2, .int 3, .int 4, .int 5, .int 0]) ct43 rfl (by decide +kernel) (by decide) rfl rfl rfl rfl (fun _ _ _ => by simp only [u5A, evEs, evE, bind_ok, kNeg, kTup0, kTup1]) (fun _ _ _ => by simp only [u5B, evEs, evE, bind_ok, kNeg, kTup0, kTup1]) (fun m h' i j zi zj => by rw [eq43 zi zj]; rfl)
def u6A : MEs := (.cons (.int 1) (.cons (.int 2) (.cons (.int 3) (.cons (.int 4) .nil))))
def u6B : MEs := (.cons (.int 0) (.cons (.int 2) (.cons (.int 3) (.cons (.int 4) .nil))))
theorem u6 : Two 25 u6A u6B := two (fs := ["kind", "log", "unit", "home"]) (cs := [.int 1, .int 2, .int 3, .int 4]) (cs' := [.int 0, .int 2, .int 3, .int 4]) ct25 rfl (by decide +kernel) (by decide) rfl rfl rfl rfl (fun _ _ _ => by simp only [u6A, evEs, evE, bind_ok, kNeg, kTup0, kTup1]) (fun _ _ _ => by simp only [u6B, evEs, evE, bind_ok, kNeg, kTup0, kTup1]) (fun m h' i j zi zj => by rw [eq25 zi zj]; rfl)
def u7A : MEs := (.cons (.int 1) (.cons (.int 2) (.cons (.int 3) (.cons (.int 4) .nil))))
def u7B : MEs := (.cons (.int 1) (.cons (.int 0) (.cons (.int 3) (.cons (.int 4) .nil))))
theorem u7 : Two 25 u7A u7B := two (fs := ["kind", "log", "unit", "home"]) (cs := [.int 1, .int 2, .int 3, .int 4]) (cs' := [.int 1, .int 0, .int 3, .int 4]) ct25 rfl (by decide +kernel) (by decide) rfl rfl rfl rfl (fun _ _ _ => by simp only [u7A, evEs, evE, bind_ok, kNeg, kTup0, kTup1]) (fun _ _ _ => by simp only [u7B, evEs, evE, bind_ok, kNeg, kTup0, kTup1]) (fun m h' i j zi zj => by rw [eq25 zi zj]; rfl)
def u8A : MEs := (.cons (.int 1) (.cons (.int 2) (.cons (.int 3) (.cons (.int 4) .nil))))
def u8B : MEs := (.cons (.int 1) (.cons (.int 2) (.cons (.int 0) (.cons (.int 4) .nil))))
theorem u8 : Two 25 u8A u8B := two (fs := ["kind", "log", "unit", "home"]) (cs := [.int 1, .int 2, .int 3, .int 4]) (cs' := [.int 1, .int 2, .int 0, .int 4]) ct25 rfl (by decide +kernel) (by decide) rfl rfl rfl rfl (fun _ _ _ => by simp only [u8A, evEs, evE, bind_ok, kNeg, kTup0, kTup1]) (fun _ _ _ => by simp only [u8B, evEs, evE, bind_ok, kNeg, kTup0, kTup1]) (fun m h' i j zi zj => by rw [eq25 zi zj]; rfl)
def u9A : MEs := (.cons (.int 1) (.cons (.int 2) (.cons (.int 3) (.cons (.int 4) .nil))))
def u9B : MEs := (.cons (.int 1) (.cons (.int 2) (.cons (.int 3) (.cons (.int 0) .nil))))
theorem u9 : Two 25 u9A u9B := two (fs := ["kind", "log", "unit", "home"]) (cs := [.int 1, .int 2, .int 3, .int 4]) (cs' := [.int 1, .int 2, .int 3, .int 0]) ct25 rfl (by decide +kernel) (by decide) rfl rfl rfl rfl (fun _ _ _ => by simp only [u9A, evEs, evE, bind_ok, kNeg, kTup0, kTup1]) (fun _ _ _ => by simp only [u9B, evEs, evE, bind_ok, kNeg, kTup0, kTup1]) (fun m h' i j zi zj => by rw [eq25 zi zj]; rfl)
def u10A : MEs := (.cons (.int 1) (.cons (.int 2) (.cons (.int 3) .nil)))
def u10B : MEs := (.cons (.int 0) (.cons (.int 2) (.cons (.int 3) .nil)))
theorem u10 : Two 29 u10A u10B := two (fs := ["letters", "order", "x"]) (cs := [.int 1, .int 2, .int 3]) (cs' := [.int 0, .int 2, .int 3]) ct29 rfl (by decide +kernel) (by decide) rfl rfl rfl rfl (fun _ _ _ => by simp only [u10A, evEs, evE, bind_ok, kNeg, kTup0, kTup1]) (fun _ _ _ => by simp only [u10B, evEs, evE, bind_ok, kNeg, kTup0, kTup1]) (fun m h' i j zi zj => by rw [eq29 zi zj]; rfl)
def u11A : MEs := (.cons (.int 1) (.cons (.int 2) (.cons (.int 3) .nil)))
def u11B : MEs := (.cons (.int 1) (.cons (.int 0) (.cons (.int 3) .nil)))
theorem u11 : Two 29 u11A u11B := two (fs := ["letters", "order", "x"]) (cs := [.int 1, .int 2, .int 3]) (cs' := [.int 1, .int 0, .int 3]) ct29 rfl (by decide +kernel) (by decide) rfl rfl rfl rfl (fun _ _ _ => by simp only [u11A, evEs, evE, bind_ok, kNeg, kTup0, kTup1]) (fun _ _ _ => by simp only [u11B, evEs, evE, bind_ok, kNeg, kTup0, kTup1]) (fun m h' i j zi zj => by rw [eq29 zi zj]; rfl)
def u12A : MEs := (.cons (.int 1) (.cons (.int 2) (.cons (.int 3) .nil)))
def u12B : MEs := (.cons (.int 1) (.cons (.int 2) (.cons (.int 0) .nil)))
theorem u12 : Two 29 u12A u12B := two (fs := ["letters", "order", "x"]) (cs := [.int 1, .int 2, .int 3]) (cs' := [.int 1, .int 2, .int 0]) ct29 rfl (by decide +kernel) (by decide) rfl rfl rfl rfl (fun _ _ _ => by simp only [u12A, evEs, evE, bind_ok, kNeg, kTup0, kTup1]) (fun _ _ _ => by simp only [u12B, evEs, evE, bind_ok, kNeg, kTup0, kTup1]) (fun m h' i j zi zj => by rw [eq29 zi zj]; rfl)
def u13A : MEs := (.cons (.int 1) (.cons (.int 2) .nil))
def u13B : MEs := (.cons (.int 0) (.cons (.int 2) .nil))
theorem u13 : Two 35 u13A u13B := two (fs := ["number", "powers"]) (cs := [.int 1, .int 2]) (cs' := [.int 0, .int 2]) ct35 rfl (by decide +kernel) (by decide) rfl rfl rfl rfl (fun _ _ _ => by simp only [u13A, evEs, evE, bind_ok, kNeg, kTup0, kTup1]) (fun _ _ _ => by simp only [u13B, evEs, evE, bind_ok, kNeg, kTup0, kTup1]) (fun m h' i j zi zj => by rw [eq35 zi zj]; rfl)
def u14A : MEs := (.cons (.int 1) (.cons (.int 2) .nil))
def u14B : MEs := (.cons (.int 1) (.cons (.int 0) .nil))
theorem u14 : Two 35 u14A u14B := two (fs := ["number", "powers"]) (cs := [.int 1, .int 2]) (cs' := [.int 1, .int 0]) ct35 rfl (by decide +kernel) (by decide) rfl rfl rfl rfl (fun _ _ _ => by simp only [u14A, evEs, evE, bind_ok, kNeg, kTup0, kTup1]) (fun _ _ _ => by simp only [u14B, evEs, evE, bind_ok, kNeg, kTup0, kTup1]) (fun m h' i j zi zj => by rw [eq35 zi zj]; rfl)
def u15A : MEs := (.cons (.int 1) (.cons (.int 2) (.cons (.int 3) .nil)))
def u15B : MEs := (.cons (.int 0) (.cons (.int 2) (.cons (.int 3) .nil)))
theorem u15 : Two 1 u15A u15B := two (fs := ["line", "column", "what"]) (cs := [.int 1, .int 2, .int 3]) (cs' := [.int 0, .int 2, .int 3]) ct1 rfl (by decide +kernel) (by decide) rfl rfl rfl rfl (fun _ _ _ => by simp only [u15A, evEs, evE, bind_ok, kNeg, kTup0, kTup1]) (fun _ _ _ => by simp only [u15B, evEs, evE, bind_ok, kNeg, kTup0, kTup1]) (fun m h' i j zi zj => by rw [eq1 zi zj]; kernel_rfl)
def u16A : MEs := (.cons (.int 1) (.cons (.int 2) (.cons (.int 3) .nil)))
def u16B : MEs := (.cons (.int 1) (.cons (.int 0) (.cons (.int 3) .nil)))
theorem u16 : Two 1 u16A u16B := two (fs := ["line", "column", "what"]) (cs := [.int 1, .int 2, .int 3]) (cs' := [.int 1, .int 0, .int 3]) ct1 rfl (by decide +kernel) (by decide) rfl rfl rfl rfl (fun _ _ _ => by simp only [u16A, evEs, evE, bind_ok, kNeg, kTup0, kTup1]) (fun _ _ _ => by simp only [u16B, evEs, evE, bind_ok, kNeg, kTup0, kTup1]) (fun m h' i j zi zj => by rw [eq1 zi zj]; kernel_rfl)
def u17A : MEs := (.cons (.int 1) (.cons (.int 2) (.cons (.int 3) .nil)))
def u17B : MEs := (.cons (.int 1) (.cons (.int 2) (.cons (.int 0) .nil)))
theorem u17 : Two 1 u17A u17B := two (fs := ["line", "column", "what"]) (cs := [.int 1, .int 2, .int 3]) (cs' := [.int 1, .int 2, .int 0]) ct1 rfl (by decide +kernel) (by decide) rfl rfl rfl rfl (fun _ _ _ => by simp only [u17A, evEs, evE, bind_ok, kNeg, kTup0, kTup1]) (fun _ _ _ => by simp only [u17B, evEs, evE, bind_ok, kNeg, kTup0, kTup1]) (fun m h' i j zi zj => by rw [eq1 zi zj]; kernel_rfl)
def u18A : MEs := (.cons (.int 1) (.cons (.int 2) .nil))
def u18B : MEs := (.cons (.int 0) (.cons (.int 2) .nil))
theorem u18 : Two 17 u18A u18B := two (fs := ["word", "ratio"]) (cs := [.int 1, .int 2]) (cs' := [.int 0, .int 2]) ct17 rfl (by decide +kernel) (by decide) rfl rfl rfl rfl (fun _ _ _ => by simp only [u18A, evEs, evE, bind_ok, kNeg, kTup0, kTup1]) (fun _ _ _ => by simp only [u18B, evEs, evE, bind_ok, kNeg, kTup0, kTup1]) (fun m h' i j zi zj => by rw [eq17 zi zj]; kernel_rfl)
def u19A : MEs := (.cons (.int 1) (.cons (.int 2) .nil))
def u19B : MEs := (.cons (.int 1) (.cons (.int 0) .nil))
theorem u19 : Two 17 u19A u19B := two (fs := ["word", "ratio"]) (cs := [.int 1, .int 2]) (cs' := [.int 1, .int 0]) ct17 rfl (by decide +kernel) (by decide) rfl rfl rfl rfl (fun _ _ _ => by simp only [u19A, evEs, evE, bind_ok, kNeg, kTup0, kTup1]) (fun _ _ _ => by simp only [u19B, evEs, evE, bind_ok, kNeg, kTup0, kTup1]) (fun m h' i j zi zj => by rw [eq17 zi zj]; kernel_rfl)
end K90
end Mini
set_option autoImplicit false
set_option maxHeartbeats 4000000
namespace Mini
open PySem L2
namespace K90
theorem unlike_run {n : Nat} {h : AH} : ∃ h' k ps, calA P (n + 3) 55 [] h = .ok (.ref k) h' ∧ Pre h h' ∧ h'[k]? = some (.lst ps) ∧ ps.length = 20 ∧ ∀ p ∈ ps, PairNe h' p := by
  have e0 : evS P (calA P (n + 2)) (.set 0 (.lst .nil)) [none] h = .nx [some (.ref h.length)] (h ++ [.lst []]) := set_run (by rw [evE, evEs]; simp only [bind_ok, kLst0])
  obtain ⟨K1, h1, p1, e1, q1, z1, l1, a1⟩ := ls_add (n := n) (ls_cons u0 (ls_cons u1 ls_nil)) (get_new h (AO.lst [])) (fun _ q => by cases q) (by decide) (by decide)
  obtain ⟨K2, h2, p2, e2, q2, z2, l2, a2⟩ := ls_add (n := n) (ls_cons u2 (ls_cons u3 ls_nil)) z1 a1 (by simp [l1]) (by decide)
  obtain ⟨K3, h3, p3, e3, q3, z3, l3, a3⟩ := ls_add (n := n) (ls_cons u4 (ls_cons u5 ls_nil)) z2 a2 (by simp [l1, l2]) (by decide)
  obtain ⟨K4, h4, p4, e4, q4, z4, l4, a4⟩ := ls_add (n := n) (ls_cons u6 (ls_cons u7 (ls_cons u8 ls_nil))) z3 a3 (by simp [l1, l2, l3]) (by decide)
  obtain ⟨K5, h5, p5, e5, q5, z5, l5, a5⟩ := ls_add (n := n) (ls_cons u9 ls_nil) z4 a4 (by simp [l1, l2, l3, l4]) (by decide)
  obtain ⟨K6, h6, p6, e6, q6, z6, l6, a6⟩ := ls_add (n := n) (ls_cons u10 (ls_cons u11 (ls_cons u12 ls_nil))) z5 a5 (by simp [l1, l2, l3, l4, l5]) (by decide)
  obtain ⟨K7, h7, p7, e7, q7, z7, l7, a7⟩ := ls_add (n := n) (ls_cons u13 (ls_cons u14 ls_nil)) z6 a6 (by simp [l1, l2, l3, l4, l5, l6]) (by decide)
  obtain ⟨K8, h8, p8, e8, q8, z8, l8, a8⟩ := ls_add (n := n) (ls_cons u15 (ls_cons u16 (ls_cons u17 ls_nil))) z7 a7 (by simp [l1, l2, l3, l4, l5, l6, l7]) (by decide)
  obtain ⟨K9, h9, p9, e9, q9, z9, l9, a9⟩ := ls_add (n := n) (ls_cons u18 (ls_cons u19 ls_nil)) z8 a8 (by simp [l1, l2, l3, l4, l5, l6, l7, l8]) (by decide)
  refine ⟨h9, K9, p9, ?_, ((((((((((Pre.app h [AO.lst []]).trans q1).trans q2).trans q3).trans q4).trans q5).trans q6).trans q7).trans q8).trans q9), z9, by simp [l1, l2, l3, l4, l5, l6, l7, l8, l9], a9⟩
  rw [calA_def (d := d55) rfl rfl]
  exact congrArg fin ((ss_nx e0).trans ((ss_nx e1).trans ((ss_nx e2).trans ((ss_nx e3).trans ((ss_nx e4).trans ((ss_nx e5).trans ((ss_nx e6).trans ((ss_nx e7).trans ((ss_nx e8).trans ((ss_nx e9).trans (ss_rt (ret_run (vaE rfl)))))))))))))
def eltE : ME := (.or_ (.cmp .eq (.var 8) (.var 9)) (.not_ (.cmp .ne (.var 8) (.var 9))))
theorem any_loop {n D k : Nat} {ps : List AV} {s0 s1 s2 s3 s4 s5 s6 s7 s8 s9 s10 s11 s12 s13 s14 : Option AV} (hD : k ≠ D) (hps : ps.length ≤ 100) : ∀ (m i : Nat) (H : AH), i + m = ps.length → H[k]? = some (.lst ps) → (∀ p ∈ ps, PairNe H p) → H[D]? = some (.lst (List.replicate i (.bl false))) →
    ∃ H', walkL (compTurn D [8, 9] (.tup [8, 9]) (evE P (calA P (n + 3)) eltE)) k m i [s0, s1, s2, s3, s4, s5, s6, s7, s8, s9, s10, s11, s12, s13, s14] H = .nx [s0, s1, s2, s3, s4, s5, s6, s7, s8, s9, s10, s11, s12, s13, s14] H' ∧ H'[D]? = some (.lst (List.replicate ps.length (.bl false))) ∧ But D H H'
  | 0, i, H, hm, zk, hp, zd => by
    refine ⟨H, ?_, by rw [zd, show i = ps.length by omega], fun _ _ _ e => e⟩
    unfold walkL
    rw [seq_lst zk]
    dsimp only
    rw [if_pos (by omega)]
  | m + 1, i, H, hm, zk, hp, zd => by
    have hi : i < ps.length := by omega
    have e : ps[i]? = some ps[i] := List.getElem?_eq_getElem hi
    obtain ⟨a, b, g, fs, fs', c, pe, za, zb, q⟩ := (hp _ (List.getElem_mem hi)).ex
    obtain ⟨b1, b2⟩ := both (n := n) c c.is za zb fun m => q m _ za zb
    have el : evE P (calA P (n + 3)) eltE [s0, s1, s2, s3, s4, s5, s6, s7, some (.ref a), some (.ref b), s10, s11, s12, s13, s14] H = .ok (.bl false) H := by
      unfold eltE
      rw [evE, evE, vaE (v := .ref a) rfl]
      simp only [bind_ok]
      rw [vaE (v := .ref b) rfl]
      simp only [bind_ok, b1, of_some, kOr_f]
      rw [evE, evE, vaE (v := .ref a) rfl]
      simp only [bind_ok]
      rw [vaE (v := .ref b) rfl]
      simp only [bind_ok, b2, of_some, kNot_b, Bool.not_false, Bool.not_true]
    have t := ct_run (D := D) (own := [8, 9]) (t := .tup [8, 9]) (x := .tup [.ref a, .ref b]) (σ := [s0, s1, s2, s3, s4, s5, s6, s7, s8, s9, s10, s11, s12, s13, s14]) rfl el zd (by rw [List.length_replicate]; exact Nat.lt_of_lt_of_le (by omega : i < 1000) (small (Nat.le_refl _)))
    have rp : List.replicate i (AV.bl false) ++ [.bl false] = List.replicate (i + 1) (.bl false) := by rw [List.replicate_succ']
    rw [rp] at t
    have bt : But D H (H.set D (.lst (List.replicate (i + 1) (.bl false)))) := fun j o hj e => by rw [List.getElem?_set_ne (Ne.symm hj)]; exact e
    have ins : ∀ (k g : Nat) (fs : List (Str × AV)), H[k]? = some (AO.ins g fs) → (H.set D (.lst (List.replicate (i + 1) (.bl false))))[k]? = some (AO.ins g fs) := fun j g fs e => bt j _ (fun z => by subst z; rw [zd] at e; cases e) e
    obtain ⟨H', w, z, bb⟩ := any_loop (n := n) hD hps m (i + 1) (H.set D (.lst (List.replicate (i + 1) (.bl false)))) (by omega) (bt k _ hD zk) (fun p hm => (hp p hm).soft ins) (List.getElem?_set_self (lt_of zd))
    refine ⟨H', ?_, z, bt.trans bb⟩
    unfold walkL
    rw [seq_lst zk]
    dsimp only
    rw [e, pe]
    dsimp only
    rw [t]
    exact w
theorem cp55 {cal : Nat → List AV → AH → R AV} {h : AH} : callP P cal 55 [] h = cal 55 [] h := callP_def (d := d55) rfl rfl
theorem bools_rep : ∀ k : Nat, boolsOf (List.replicate k (AV.bl false)) = some (List.replicate k false)
  | 0 => rfl
  | k + 1 => by
    rw [List.replicate_succ, boolsOf, bools_rep k]
    rfl
theorem any_run {n : Nat} {h : AH} {s0 s1 s2 s3 s4 s5 s6 s7 s8 s9 s10 s11 s12 s13 s14 : Option AV} : ∃ H, evE P (calA P (n + 3)) (.bi .any (.cons (.comp (.tup [8, 9]) (.seq (.call 55 .nil)) eltE [8, 9]) .nil)) [s0, s1, s2, s3, s4, s5, s6, s7, s8, s9, s10, s11, s12, s13, s14] h = .ok (.bl false) H ∧ ∀ (j : Nat) (o : AO), h[j]? = some o → H[j]? = some o := by
  obtain ⟨h1, k, ps, e, p, z, l, hp⟩ := unlike_run (n := n) (h := h)
  have p2 : Pre h1 (h1 ++ [AO.lst []]) := Pre.app _ _
  have hk := lt_of z
  obtain ⟨H, w, zD, bt⟩ := any_loop (n := n) (D := h1.length) (k := k) (s0 := s0) (s1 := s1) (s2 := s2) (s3 := s3) (s4 := s4) (s5 := s5) (s6 := s6) (s7 := s7) (s8 := s8) (s9 := s9) (s10 := s10) (s11 := s11) (s12 := s12) (s13 := s13) (s14 := s14) (by omega) (by omega) ps.length 0 (h1 ++ [AO.lst []]) (by omega) (p2.get z) (fun q hq => (hp q hq).pre p2) (get_new _ _)
  refine ⟨H, ?_, fun j o ej => bt j o (by have := lt_of (p.get ej); omega) (p2.get (p.get ej))⟩
  have ei : evI P (calA P (n + 3)) (.seq (.call 55 .nil)) [s0, s1, s2, s3, s4, s5, s6, s7, s8, s9, s10, s11, s12, s13, s14] h = .ok (.lst k) h1 := by
    rw [evI, evE, evEs]
    simp only [bind_ok, cp55, e]
    exact seqI z
  have ec : evE P (calA P (n + 3)) (.comp (.tup [8, 9]) (.seq (.call 55 .nil)) eltE [8, 9]) [s0, s1, s2, s3, s4, s5, s6, s7, s8, s9, s10, s11, s12, s13, s14] h = .ok (.ref h1.length) H := by
    rw [evE, ei]
    simp only [bind_ok, walkI, seq_lst (p2.get z)]
    rw [w]
    rfl
  rw [evE, evEs, ec]
  simp only [bind_ok, evEs, biA, biAny, seq_lst zD, Option.bind_some, bools_rep, Option.map_some, of_some, l]
  rfl
/-! ### the data of a value, once more -/
theorem toPyD_mono {h : AH} : ∀ (n : Nat) (v : AV) (d : PyData), toPyD h n v = some d → toPyD h (n + 1) v = some d := by
  intro n
  induction n with
  | zero => intro v d e; cases v <;> first | exact e | cases e
  | succ n ih =>
    intro v d e
    cases v with
    | tup xs =>
      rw [toPyD] at e ⊢
      cases q : optAll (toPyD h n) xs with
      | none => rw [q] at e; cases e
      | some ds => rw [q] at e; rw [optAll_imp ih q]; exact e
    | ref k =>
      rw [toPyD] at e ⊢
      cases z : h[k]? with
      | none => rw [z] at e; cases e
      | some o =>
        rw [z] at e
        cases o with
        | lst xs =>
          dsimp only at e ⊢
          cases q : optAll (toPyD h n) xs with
          | none => rw [q] at e; cases e
          | some ds => rw [q] at e; rw [optAll_imp ih q]; exact e
        | rls xs =>
          dsimp only at e ⊢
          cases q : optAll (toPyD h n) xs with
          | none => rw [q] at e; cases e
          | some ds => rw [q] at e; rw [optAll_imp ih q]; exact e
        | dct kvs =>
          dsimp only at e ⊢
          cases q : optAll (fun p : Str × AV => (toPyD h n p.2).map fun d => (PyData.str p.1, d)) kvs with
          | none => rw [q] at e; cases e
          | some ds =>
            rw [q] at e
            rw [optAll_imp (g := fun p : Str × AV => (toPyD h (n + 1) p.2).map fun d => (PyData.str p.1, d)) (fun x d hx => by
              cases w : toPyD h n x.2 with
              | none => rw [w] at hx; cases hx
              | some dd => rw [w] at hx; rw [ih _ _ w]; exact hx) q]
            exact e
        | ins _ _ => cases e
    | _ => exact e
theorem sh_ok {d : PyData} (s : Sh d) : showOk d = true := by
  unfold showOk
  rw [s.1, decide_eq_true (Nat.le_trans s.2.1 (small (Nat.le_refl _))), decide_eq_true (Nat.le_trans s.2.2 (by decide))]
  rfl
end K90
end Mini
set_option autoImplicit false
set_option maxHeartbeats 4000000
namespace Mini
open PySem L2
namespace K90
theorem piled_len : ∀ ts : List Str, 2 * ts.length ≤ piled ts
  | [] => Nat.zero_le _
  | t :: ts => by
    have := piled_len ts
    have e : piled (t :: ts) = t.length + 2 + piled ts := by simp [piled]
    rw [e, List.length_cons]
    omega
theorem tup_len {ds : List PyData} (s : Sh (.tuple ds)) : ds.length ≤ 600 := by
  have q : (tupleText (PyData.shownAll ds)).length ≤ 1000 := s.2.1
  unfold tupleText at q
  rw [strLen_append, strLen_append] at q
  have l : ∀ ds : List PyData, (PyData.shownAll ds).length = ds.length := fun ds => by
    induction ds with
    | nil => rfl
    | cons d ds ih => simp [PyData.shownAll, ih]
  by_cases z : PyData.shownAll ds = []
  · have := l ds
    rw [z] at this
    simp at this
    omega
  · have a := join_length_add _ z
    have b := piled_len (PyData.shownAll ds)
    rw [l] at b
    omega
theorem or_f {cal : Nat → List AV → AH → R AV} {a b : ME} {σ : Sg} {h h1 h2 : AH} (x : evE P cal a σ h = .ok (.bl false) h1) (y : evE P cal b σ h1 = .ok (.bl false) h2) : evE P cal (.or_ a b) σ h = .ok (.bl false) h2 := by
  rw [evE, x]
  simp only [bind_ok, kOr_f]
  exact y
theorem or4 {n g1 g2 g3 g4 : Nat} {a1 b1 a2 b2 a3 b3 a4 b4 : MEs} (t1 : Two g1 a1 b1) (t2 : Two g2 a2 b2) (t3 : Two g3 a3 b3) (t4 : Two g4 a4 b4) (σ : Sg) (h : AH) :
    ∃ h', evE P (calA P (n + 3)) (.or_ (.cmp .eq (.call g1 a1) (.call g1 b1)) (.or_ (.cmp .eq (.call g2 a2) (.call g2 b2)) (.or_ (.cmp .eq (.call g3 a3) (.call g3 b3)) (.cmp .eq (.call g4 a4) (.call g4 b4))))) σ h = .ok (.bl false) h' ∧ Pre h h' := by
  obtain ⟨h1, e1, p1⟩ := two_eq (n := n) t1 σ h
  obtain ⟨h2, e2, p2⟩ := two_eq (n := n) t2 σ h1
  obtain ⟨h3, e3, p3⟩ := two_eq (n := n) t3 σ h2
  obtain ⟨h4, e4, p4⟩ := two_eq (n := n) t4 σ h3
  exact ⟨h4, or_f e1 (or_f e2 (or_f e3 e4)), ((p1.trans p2).trans p3).trans p4⟩
def ratE : ME := .bi .repr (.cons (.fld (.idx (.idx (.var 7) (.int 1)) (.int 0)) "ratio") .nil)
theorem rat_run {cal : Nat → List AV → AH → R AV} {σ : Sg} {h : AH} {kr i0 : Nat} {rs w : List AV} {c : AV} {d : PyData} (v : getS σ 7 = some (.ref kr)) (z : h[kr]? = some (.lst rs)) (e : rs[1]? = some (.tup (.ref i0 :: w))) (i : h[i0]? = some (.ins 5 [("ratio", c)])) (t : toPyD h 59 c = some d) (s : Sh d) :
    evE P cal ratE σ h = .ok (.str d.shown) h := by
  unfold ratE
  have a : evE P cal (.idx (.idx (.var 7) (.int 1)) (.int 0)) σ h = .ok (.ref i0) h := idx0 (idxL (j := 1) v inE z e)
  rw [evE, evEs, evE, a]
  simp only [bind_ok, fl5_0 i, of_some, evEs, biA, repr_run (toPyD_mono 59 _ _ t) (sh_ok s)]
theorem cp48 {cal : Nat → List AV → AH → R AV} {v : AV} {h : AH} : callP P cal 48 [v] h = cal 48 [v] h := callP_def (d := d48) rfl rfl
theorem cp54 {cal : Nat → List AV → AH → R AV} {a b c d : AV} {h : AH} : callP P cal 54 [a, b, c, d] h = cal 54 [a, b, c, d] h := callP_def (d := d54) rfl rfl
theorem law_run (n : Nat) (ns : List Int) : ∃ h', calA P (n + 4) 56 [.ref 0] [.rls (ns.map .int)] = .ok (.bl true) h' := by
  obtain ⟨h1, pe, pp, pl⟩ := pen_run (n := n + 2) (ns := ns)
  have e0 : evS P (calA P (n + 3)) (.set 1 (.call 48 (.cons (.var 0) .nil))) [some (.ref 0), none, none, none, none, none, none, none, none, none, none, none, none, none, none] [.rls (ns.map .int)] = .nx [some (.ref 0), some (.ref 1), none, none, none, none, none, none, none, none, none, none, none, none, none] h1 :=
    set_run (by rw [evE, evEs, vaE (v := .ref 0) rfl]; simp only [bind_ok, evEs, cp48]; exact pe)
  obtain ⟨v1, v2, v3, v4, c1, c2, c3, c4, d1, d2, d3, d4, Hv, ev, zv, pv, lv, fv⟩ := values_run (n := n) pp pl (σ := [some (.ref 0), some (.ref 1), none, none, none, none, none, none, none, none, none, none, none, none, none]) rfl
  have e1 : evS P (calA P (n + 3)) (.set 2 (.comp (.name 11) (.range (.int 4)) (.call 51 (.cons (.var 1) .nil)) [11])) [some (.ref 0), some (.ref 1), none, none, none, none, none, none, none, none, none, none, none, none, none] h1 = .nx [some (.ref 0), some (.ref 1), some (.ref 3), none, none, none, none, none, none, none, none, none, none, none, none] Hv := set_run ev
  obtain ⟨a, b, c, d, H, ec, zc, pc, p1, F, kA⟩ := four_run (n := n + 3) (σ := [some (.ref 0), some (.ref 1), some (.ref 3), none, none, none, none, none, none, none, none, none, none, none, none]) rfl rfl zv pv lv fv
  have e2 : evS P (calA P (n + 3)) (.unp [3, 4, 5, 6] (.comp (.name 14) (.seq (.var 2)) copyE [14])) [some (.ref 0), some (.ref 1), some (.ref 3), none, none, none, none, none, none, none, none, none, none, none, none] Hv = .nx [some (.ref 0), some (.ref 1), some (.ref 3), some a, some b, some c, some d, none, none, none, none, none, none, none, none] H := by
    rw [evS, ec]
    simp only [stm_ok, kUnp, seq_lst zc]
    rfl
  obtain ⟨H', kr, rs, er, p2, zr, lr, rr, ⟨r2, hr2, raw⟩, hkr⟩ := rows_run (n := n) F
  have e3 : evS P (calA P (n + 3)) (.set 7 (.call 54 (.cons (.var 3) (.cons (.var 4) (.cons (.var 5) (.cons (.var 6) .nil)))))) [some (.ref 0), some (.ref 1), some (.ref 3), some a, some b, some c, some d, none, none, none, none, none, none, none, none] H = .nx [some (.ref 0), some (.ref 1), some (.ref 3), some a, some b, some c, some d, some (.ref kr), none, none, none, none, none, none, none] H' :=
    set_run (by rw [evE, evEs, vaE (v := a) rfl]; simp only [bind_ok]; rw [evEs, vaE (v := b) rfl]; simp only [bind_ok]; rw [evEs, vaE (v := c) rfl]; simp only [bind_ok]; rw [evEs, vaE (v := d) rfl]; simp only [bind_ok, evEs, cp54]; exact er)
  have R0 : RowsAt H' kr rs := ⟨zr, lr, rr⟩
  obtain ⟨u, v, w, H1, p3, w1⟩ := loop1 (n := n) (kr := kr) (rs := rs) (s0 := some (.ref 0)) (s1 := some (.ref 1)) (s2 := some (.ref 3)) (s3 := some a) (s4 := some b) (s5 := some c) (s6 := some d) (s7 := some (.ref kr)) (s11 := none) (s12 := none) (s13 := none) (s14 := none) 11 0 H' none none none rfl R0
  have e4 : evS P (calA P (n + 3)) (.for_ (.tup [8, 9, 10]) (.seq (.var 7)) body1) [some (.ref 0), some (.ref 1), some (.ref 3), some a, some b, some c, some d, some (.ref kr), none, none, none, none, none, none, none] H' = .nx [some (.ref 0), some (.ref 1), some (.ref 3), some a, some b, some c, some d, some (.ref kr), u, v, w, none, none, none, none] H1 := by
    rw [evS, evI, vaE (v := .ref kr) rfl]
    simp only [bind_ok, seqI zr, stm_ok, walkI, seq_lst zr, lr]
    exact w1
  have R1 := R0.pre p3
  obtain ⟨u2, w2, H2, k5, s5, w5⟩ := loop2 (n := n) (kr := kr) (rs := rs) (s0 := some (.ref 0)) (s2 := some (.ref 3)) (s3 := some a) (s4 := some b) (s5 := some c) (s6 := some d) (s8 := u) (s9 := v) (s10 := w) (s13 := none) (s14 := none) 11 0 16 H1 none none rfl (by decide) R1.i (pc.pre (p2.trans p3))
  have e5 : evS P (calA P (n + 3)) (.for_ (.name 11) (.range (.bi .len (.cons (.var 7) .nil))) body2) [some (.ref 0), some (.ref 1), some (.ref 3), some a, some b, some c, some d, some (.ref kr), u, v, w, none, none, none, none] H1 = .nx [some (.ref 0), some (.ref 1), some (.ref 3), some a, some b, some c, some d, some (.ref kr), u, v, w, u2, w2, none, none] H2 := by
    have el : evE P (calA P (n + 3)) (.bi .len (.cons (.var 7) .nil)) [some (.ref 0), some (.ref 1), some (.ref 3), some a, some b, some c, some d, some (.ref kr), u, v, w, none, none, none, none] H1 = .ok (.int 11) H1 := by
      rw [evE, evEs, vaE (v := .ref kr) rfl]
      simp only [bind_ok, evEs, biA, biLen, seq_lst R1.z, Option.map_some, of_some, lr]
      rfl
    have ek : kRange (.int 11) H1 = .ok (.rng 11) H1 := by
      unfold kRange
      dsimp only
      rw [if_pos (by decide)]
      rfl
    rw [evS, evI, el]
    simp only [bind_ok, ek, stm_ok]
    exact w5
  obtain ⟨H3, x6, p6⟩ := or4 (n := n) t0 t1 t2 t3 [some (.ref 0), some (.ref 1), some (.ref 3), some a, some b, some c, some d, some (.ref kr), u, v, w, u2, w2, none, none] H2
  obtain ⟨H4, x7, p7⟩ := or4 (n := n) t4 t5 t6 t7 [some (.ref 0), some (.ref 1), some (.ref 3), some a, some b, some c, some d, some (.ref kr), u, v, w, u2, w2, none, none] H3
  obtain ⟨H5, x8, k8⟩ := any_run (n := n) (h := H4) (s0 := some (.ref 0)) (s1 := some (.ref 1)) (s2 := some (.ref 3)) (s3 := some a) (s4 := some b) (s5 := some c) (s6 := some d) (s7 := some (.ref kr)) (s8 := u) (s9 := v) (s10 := w) (s11 := u2) (s12 := w2) (s13 := none) (s14 := none)
  -- what stands at H5
  have up : ∀ (j : Nat) (o : AO), j ≠ 1 → H[j]? = some o → H5[j]? = some o := fun j o hj e => k8 j o ((p6.trans p7).get (by rw [k5 j hj]; exact (p2.trans p3).get e))
  have up' : ∀ (j : Nat) (o : AO), j ≠ 1 → H'[j]? = some o → H5[j]? = some o := fun j o hj e => k8 j o ((p6.trans p7).get (by rw [k5 j hj]; exact p3.get e))
  have hvl : 4 ≤ H.length := Nat.le_trans lv p1.len
  have zr5 : H5[kr]? = some (.lst rs) := up' kr _ (by omega) zr
  obtain ⟨i0, j0, l0, er2, z0, _, _⟩ := raw
  have i1 : i0 ≠ 1 := fun q => by
    subst q
    obtain ⟨kc, t, dg, ct, fo, xs, pq, _⟩ := pc.pre p2
    rw [pq.pen] at z0
    cases z0
  have z05 : H5[i0]? = some (.ins 5 [("ratio", c1)]) := up' i0 _ i1 z0
  rw [er2] at hr2
  have fr5 : From 4 Hv H5 := fun j o hj e => up j o (by omega) (p1.get e)
  have V5 := (fv H5 fr5).1
  have r9 := rat_run (cal := calA P (n + 3)) (σ := [some (.ref 0), some (.ref 1), some (.ref 3), some a, some b, some c, some d, some (.ref kr), u, v, w, u2, w2, none, none]) rfl zr5 hr2 z05 V5.data V5.sh
  have e9 : evS P (calA P (n + 3)) (.set 13 ratE) [some (.ref 0), some (.ref 1), some (.ref 3), some a, some b, some c, some d, some (.ref kr), u, v, w, u2, w2, none, none] H5 = .nx [some (.ref 0), some (.ref 1), some (.ref 3), some a, some b, some c, some d, some (.ref kr), u, v, w, u2, w2, some (.str d1.shown), none] H5 := set_run r9
  -- the list a is changed
  obtain ⟨H6, e10, zr6, z06, V6⟩ : ∃ H6, evS P (calA P (n + 3)) (.if_ (.bi .isinst (.cons (.var 3) (.cons (.ty "list") .nil))) (.cons (.ex (.met .append (.var 3) (.cons (.int 7) .nil))) .nil) .nil) [some (.ref 0), some (.ref 1), some (.ref 3), some a, some b, some c, some d, some (.ref kr), u, v, w, u2, w2, some (.str d1.shown), none] H5 =
      .nx [some (.ref 0), some (.ref 1), some (.ref 3), some a, some b, some c, some d, some (.ref kr), u, v, w, u2, w2, some (.str d1.shown), none] H6 ∧ H6[kr]? = some (.lst rs) ∧ H6[i0]? = some (.ins 5 [("ratio", c1)]) ∧ VF H6 v1 c1 d1 := by
    cases F.va with
    | @lst ka xs za =>
      have hka := kA ka xs rfl za
      have hka2 := lt_of za
      have za5 : H5[ka]? = some (.lst xs) := up ka _ (by omega) za
      have xl : xs.length < 1000 := by
        have t := V5.data
        rw [toPyD] at t
        cases q : optAll (toPyD H5 58) xs with
        | none => rw [q] at t; cases t
        | some ds =>
          rw [q] at t
          cases t
          have := tup_len V5.sh
          rw [optAll_length q] at this
          omega
      have x10 : evE P (calA P (n + 3)) (.bi .isinst (.cons (.var 3) (.cons (.ty "list") .nil))) [some (.ref 0), some (.ref 1), some (.ref 3), some (.ref ka), some b, some c, some d, some (.ref kr), u, v, w, u2, w2, some (.str d1.shown), none] H5 = .ok (.bl true) H5 := by
        rw [evE, evEs, vaE (v := .ref ka) rfl]
        simp only [bind_ok, evEs, evE, biA, biIsinst, isList za5, Option.map_some, of_some]
      have ap := app_run (cal := calA P (n + 3)) (i := 3) (σ := [some (.ref 0), some (.ref 1), some (.ref 3), some (.ref ka), some b, some c, some d, some (.ref kr), u, v, w, u2, w2, some (.str d1.shown), none]) (x := .int 7) (e2 := .int 7) rfl za5 inE za5 (Nat.lt_of_lt_of_le xl (small (Nat.le_refl _)))
      refine ⟨H5.set ka (.lst (xs ++ [.int 7])), ?_, ?_, ?_, (fv _ fun j o hj e => ?_).1⟩
      · rw [if_t x10, ss_nx ap, evSs]
      · rw [List.getElem?_set_ne (by omega)]; exact zr5
      · rw [List.getElem?_set_ne (fun q => by subst q; rw [za5] at z05; cases z05)]; exact z05
      · have := lt_of e
        rw [List.getElem?_set_ne (by omega)]
        exact fr5 j o hj e
    | @val _ t a1 a2 a3 =>
      obtain ⟨t5, a5, a6, a7⟩ : ∃ t, tdOf H5 c1 = some (.b t) ∧ t ≠ "list" ∧ tnames.contains t = true := by
        cases V5.ok with
        | lst _ => exact ⟨"tuple", rfl, by decide, by decide⟩
        | val x y z => exact ⟨_, x, y, z⟩
      have x10 : evE P (calA P (n + 3)) (.bi .isinst (.cons (.var 3) (.cons (.ty "list") .nil))) [some (.ref 0), some (.ref 1), some (.ref 3), some c1, some b, some c, some d, some (.ref kr), u, v, w, u2, w2, some (.str d1.shown), none] H5 = .ok (.bl false) H5 := by
        rw [evE, evEs, vaE (v := c1) rfl]
        simp only [bind_ok, evEs, evE, biA, biIsinst, notList a5 a6 a7, Option.map_some, of_some]
      exact ⟨H5, if_f x10, zr5, z05, V5⟩
  have r11 := rat_run (cal := calA P (n + 3)) (σ := [some (.ref 0), some (.ref 1), some (.ref 3), some a, some b, some c, some d, some (.ref kr), u, v, w, u2, w2, some (.str d1.shown), none]) rfl zr6 hr2 z06 V6.data V6.sh
  have e11 : evE P (calA P (n + 3)) (.cmp .eq ratE (.var 13)) [some (.ref 0), some (.ref 1), some (.ref 3), some a, some b, some c, some d, some (.ref kr), u, v, w, u2, w2, some (.str d1.shown), none] H6 = .ok (.bl true) H6 := by
    rw [evE, r11]
    simp only [bind_ok]
    rw [vaE (v := .str d1.shown) rfl]
    simp only [bind_ok, eq_str, of_some]
  refine ⟨H6, ?_⟩
  rw [calA_def (d := d56) rfl rfl]
  exact congrArg fin ((ss_nx e0).trans ((ss_nx e1).trans ((ss_nx e2).trans ((ss_nx e3).trans ((ss_nx e4).trans ((ss_nx e5).trans ((ss_nx (if_f x6)).trans ((ss_nx (if_f x7)).trans ((ss_nx (if_f x8)).trans ((ss_nx e9).trans ((ss_nx e10).trans (ss_rt (ret_run e11)))))))))))))
end K90
end Mini
set_option autoImplicit true
set_option maxHeartbeats 0
namespace Mini.K90
open PySem PySem.Spec L2
open PyProof.Rows hiding St
abbrev Rw : PySem.W.OpenRow := PySem.W.OpenLaw.row row
abbrev hk : PySem.W.Hook := hookM 6 p ds
def ob (s : PySem.W.SharedT) : AlM := obsMG 6 p ds (HandSHeadRun.getT s)
theorem ob_eq (s : PySem.W.SharedT) : ob s = hk.obs s.abs := obsMG_eq (HandSHeadRun.getT_eq s)
theorem run (w : World) : HandSHeadRun.RunEq Rw (PySem.W.view Rw.prog [30]) hk ob 4000 loose w := by
  intro os
  kernel_rfl
end Mini.K90
set_option autoImplicit true
set_option maxHeartbeats 0
open PySem PySem.W PySem.Calls PyProof.Rows
theorem k90_of (law : ∀ ns : List Int, ns.length ≤ 63 → (∀ k ∈ ns, Builtin.Int.intBits k ≤ 1048576) → ∃ h', Mini.calA Mini.K90.p.Pr 40 56 [.ref 0] [.rls (ns.map .int)] = .ok (.bl true) h') : PySem.Challenge.rw_growthpapers_k90_classes_made_by_hand.Holds := by
  w_on; o_law
  refine HandSHeadRun.head_any (r := OpenLaw.row PySem.Challenge.rw_growthpapers_k90_classes_made_by_hand) (q := view (OpenLaw.row PySem.Challenge.rw_growthpapers_k90_classes_made_by_hand).prog [30]) (H := Mini.K90.hk) (ob := Mini.K90.ob) (M := 4000) (loose := Mini.K90.loose) (d := HandSHeadRun.topDef (OpenLaw.row PySem.Challenge.rw_growthpapers_k90_classes_made_by_hand).prog 30) (kwd := []) Mini.K90.ob_eq
    (by kernel_rfl) (fun s => by kernel_rfl) Mini.K90.run (by kernel_rfl) (by kernel_rfl) (by kernel_rfl) (by rfl) (by first | assumption | decide +kernel) (by decide +kernel) ⟨rfl, rfl, rfl, rfl, rfl, by decide +kernel⟩ ?hw ?hc
  case hw => w_witness2
  case hc => exact Mini.walk_mini (l := PySem.Challenge.rw_growthpapers_k90_classes_made_by_hand) (fu := 40) (gl := 56) (md := Mini.K90.d56) (x := "script") rfl (by decide) (by kernel_rfl) ⟨rfl, by decide, by decide⟩ Mini.K90.sd Mini.K90.st rfl (by kernel_rfl) rfl law
set_option autoImplicit true
theorem PySem.Challenge.cw_growthpapers_k90_classes_made_by_hand_holds : PySem.Challenge.rw_growthpapers_k90_classes_made_by_hand.Holds := by
  exact k90_of fun ns _ _ => Mini.K90.law_run 36 ns
