import PyProof.Rows.All
import Wide.All
import OpenK.AllK
import Wide.FinOn
import HandS.ExcInit
import HandS.ForMost
import HandS.Wide
import HandS.Gcd
import HandS.Flow
import HandS.ExcField
import HandS.TryMany
import KE.KExcIs
import HandS.ForExc
import HandS.MakeKw
import HandS.TupAny
import HandS.IsInst
import HandS.DeepEq
import HandS.More
import HandS.Conv
import HandS.Small
import HandS.WordsDict
import HandS.NoneIn
import HandS.Style
import HandS.Ends
import HandS.EndBits
import HandS.HeadHook2
import HandS.Codes
import HandS.Head0
import HandS.Head1
import HandS.Head2
import HandS.HeadEnd
import Open.Row
import KE.KStateDown
import Lean
import PySem.Challenge.RW_growthpapers_k00_errors_made_by_hand
set_option Elab.async false
set_option linter.all false
set_option maxRecDepth 100000
set_option autoImplicit false
set_option autoImplicit true
set_option maxHeartbeats 4000000
/-! Mini, exceptions, first part: an own exception class called by place and by name. -/
namespace Mini
open PySem PySem.Spec PySem.HandSPX PyProof.Rows
section
variable {M : Model} {A : Around} {E : Value → Shared → Prop} {h : Heap} {g : Array GenState} {d : Drawn} {t : Nat} {os : OsState}
variable {nm q : Str} {C N : Addr} {bs bm bmB : List Value} {hdct : Bool} {sn : List Str} {sub : List Value} {ab : Bool} {col : Option Bool} {dd : Option Addr} {k0 k1 k2 k3 k5 : Option Value} {B newId initId : String}
theorem check_any {a b : String} (ps : List Str) (n : Nat) (o f : String) : Bind.check ⟨.any, f, o, .cls, [⟨"args", .varPos, false⟩, ⟨"kwargs", .varKw, false⟩]⟩ a b n ps = pure () := by
  unfold Bind.check
  rfl
theorem kw_check_new (F : ExcBaseFacts B newId initId bmB) (hT : ∀ X : String, bm.contains (.type X) = bmB.contains (.type X)) {rest : List Value} {kw : List (Str × Value)} {Q : Unit → Shared → Prop}
    (hC : h.get? C = some (excClassObj nm q C N bs bm hdct sn sub ab col dd k0 k1 k2 k3 k5 newId)) (hq : Q () ⟨h, g, d, t, os⟩) : wpAny M A (checkBuiltinCall newId ⟨.ref C :: rest, kw⟩) Q E ⟨h, g, d, t, os⟩ := by
  have hcont : (Value.ref C :: bm).contains (.type B) = true := by rw [List.contains_cons, hT, F.hasB, Bool.or_true]
  have hstar := F.noStar
  simp only [checkBuiltinCall, F.newKind, F.newSplit, F.newRow]
  repeat (first | refine wpAny_loadPart_at hC ?_ | (refine wpAny_isSubtype_exc hC ?_; rw [hcont]) | refine wpAny_staticBase_exc hC ?_ | refine wpAny_madeBy_exc hC ?_ | simp only [bne_self_eq_false, Bool.false_eq_true, if_false] | wp_step)
  exact hq
end
end Mini
namespace Mini
open PySem PySem.Spec PySem.HandSPX
open Builtin Builtin.ObjectAttr
section
variable {prog : Program} {w : World} {A : Around} {E : Value → Shared → Prop} {R : Result → Shared → Prop} {h : Heap} {g : Array GenState} {d : Drawn} {t : Nat} {os : OsState}
variable {nm q : Str} {C N : Addr} {bs bm bmB : List Value} {hdct : Bool} {sn : List Str} {sub : List Value} {ab : Bool} {col : Option Bool} {dd : Option Addr} {k0 k1 k2 k3 k5 : Option Value} {B newId initId : String}
theorem kw_check_call {M : Model} {rest : List Value} {kw : List (Str × Value)} {Q : Unit → Shared → Prop} (hC : h.get? C = some (excClassObj nm q C N bs bm hdct sn sub ab col dd k0 k1 k2 k3 k5 newId))
    (hq : Q () ⟨h, g, d, t, os⟩) : wpAny M A (checkBuiltinCall "type.__call__" ⟨.ref C :: rest, kw⟩) Q E ⟨h, g, d, t, os⟩ := by
  have f3 := tc_sub
  have hT : (⟨h, g, d, t, os⟩ : Shared).TypeIs (.ref C) "type" := ⟨_, hC, rfl⟩
  simp only [checkBuiltinCall, tc_kind, tc_split]
  repeat (any_goals (first | assumption | with_reducible refine wpAny_loadPart_at hC ?_ | with_reducible refine wpAny_onRaise ?_ | with_reducible refine wpAny_map ?_ | wp_step))
theorem kw_new_own (F : ExcBaseFacts B newId initId bmB) (hT : ∀ X : String, bm.contains (.type X) = bmB.contains (.type X)) {rest : List Value} {kw : List (Str × Value)}
    (hC : h.get? C = some (excClassObj nm q C N bs bm hdct sn sub ab col dd k0 k1 k2 k3 k5 newId))
    (hq : R (.ok (.ret (.ref (h.objs.size + 1)))) ⟨(h.push { cls := .type "tuple", data := .seq rest.toArray }).push
      { cls := .ref C, data := .fields #[.ref h.objs.size, .none, .none, .none, .bool false, .none] }, g, d, t, os⟩) (hrest : rest.length ≤ sizeLine) :
    codeAny (model prog w) A (.builtin newId ⟨.ref C :: rest, kw⟩) R ⟨h, g, d, t, os⟩ := by
  have hends := F.ends
  have hcB : (Value.ref C :: bm).contains (.type B) = true := by rw [List.contains_cons, hT, F.hasB, Bool.or_true]
  have hcA : (Value.ref C :: bm).contains (.type "AttributeError") = false := by rw [List.contains_cons, hT, F.noAttr]; rfl
  have hcN : (Value.ref C :: bm).contains (.type "NameError") = false := by rw [List.contains_cons, hT, F.noName]; rfl
  refine codeAny_builtinAt F.entry ?_
  unfold Builtin.«BaseException.__new__»
  refine wpAt_bind ?_
  show wpAt _ _ _ (stack >>= _) _ _ _
  refine wpAt_bind (wpAt_stack fun p below => wpAt_of_wpAny ?_)
  wp_walk
  refine wpAt_of_wpAny ?_
  rw [F.owner]
  repeat (first | with_reducible refine wpAny_madeHere_exc F.canon hC ?_ | with_reducible refine wpAny_loadPart_at hC ?_ | (with_reducible refine wpAny_isSubtype_exc hC ?_; first | rw [hcB] | rw [hcA] | rw [hcN]) | wp_step)
  show R _ _
  rw [Heap.size_push]
  exact hq
theorem kw_type_call (F : ExcBaseFacts B newId initId bmB) (hT : ∀ X : String, bm.contains (.type X) = bmB.contains (.type X)) {rest : List Value} {kw : List (Str × Value)} {fI : Addr} {Q : Fin → Shared → Prop}
    (hC : h.get? C = some (excClassObj nm q C N bs bm hdct sn sub ab col dd k0 k1 k2 k3 k5 newId))
    (hi : W.Looks (model prog w) h (typeLookup (.ref C) "__init__") (some (.ref fI))) (hb : ∀ self, W.Looks (model prog w) h (bindSpecial (.ref fI) self) (.ref fI, [self])) (hrest : rest.length ≤ sizeLine)
    (hq : codeAny (model prog w) A (.call (.ref fI) ⟨.ref (h.objs.size + 1) :: rest, kw⟩)
      (fun r s' => match r with | .ok (.ret v) => v = .none ∧ Q (.done (.ret (.ref (h.objs.size + 1)))) s' | .ok _ => False | .error e => E e s')
      ⟨(h.push (W.kdv_tup rest)).push (excO C h.objs.size), g, d, t, os⟩) :
    wpAny (model prog w) A (Builtin.«type.__call__» ⟨.ref C :: rest, kw⟩) Q E ⟨h, g, d, t, os⟩ := by
  repeat (first | with_reducible refine wpAny_loadPart_at hC ?_ | with_reducible refine wpAny_madeBy_exc hC ?_ | wp_step)
  refine codeAny_call_builtin_code (Code.quiet_builtin _ F.quiet) (kw_check_new F hT hC ?_)
  refine kw_new_own F hT hC ?_ hrest
  show wpAny _ _ _ _ _ _
  have k : ∀ b o, h.get? b = some o → ((h.push (W.kdv_tup rest)).push (excO C h.objs.size)).get? b = some o := fun b o e => Heap.get?_push_of_some _ (Heap.get?_push_of_some _ e)
  have hC₁ := k _ _ hC
  have hget : ((h.push (W.kdv_tup rest)).push (excO C h.objs.size)).get? (h.objs.size + 1) = some (excO C h.objs.size) := by heap_get
  have hcC : (Value.ref C :: bm).contains (.ref C) = true := by simp
  have i1 := hi.keeps k
  have b1 := (hb (.ref (h.objs.size + 1))).keeps k
  unfold isInstance
  repeat (first | with_reducible refine wpAny_loadPart_at hget ?_ | (with_reducible refine wpAny_isSubtype_exc hC₁ ?_; rw [hcC]) | wp_step)
  show wpAny _ _ (typeLookup (.ref C) _) _ _ _
  refine i1.at ?_
  refine wpAny_holding (wpAny_bind (b1.at ?_))
  refine wpAny_bind (wpAny_call (codeAny_mono hq fun r s' z => ?_))
  rcases r with e | (v | _ | _ | _) <;> first | exact z | exact z.elim | skip
  obtain ⟨rfl, z⟩ := z
  first
    | exact wpAny_pure (wpAny_pure z)
    | (wp_walk; exact z)
theorem kw_call_own (F : ExcBaseFacts B newId initId bmB) (hT : ∀ X : String, bm.contains (.type X) = bmB.contains (.type X)) {rest : List Value} {kw : List (Str × Value)} {fI : Addr}
    (hC : h.get? C = some (excClassObj nm q C N bs bm hdct sn sub ab col dd k0 k1 k2 k3 k5 newId))
    (hi : W.Looks (model prog w) h (typeLookup (.ref C) "__init__") (some (.ref fI))) (hb : ∀ self, W.Looks (model prog w) h (bindSpecial (.ref fI) self) (.ref fI, [self])) (hrest : rest.length ≤ sizeLine)
    (hq : codeAny (model prog w) (A.under (.builtin "type.__call__" ⟨.ref C :: rest, kw⟩)) (.call (.ref fI) ⟨.ref (h.objs.size + 1) :: rest, kw⟩) (W.InitBack (h.objs.size + 1) R)
      ⟨(h.push (W.kdv_tup rest)).push (excO C h.objs.size), g, d, t, os⟩) :
    codeAny (model prog w) A (.call (.ref C) ⟨rest, kw⟩) R ⟨h, g, d, t, os⟩ := by
  have f1 := tc_lookup
  have f2 := tc_bind (.ref C)
  have hTy : (⟨h, g, d, t, os⟩ : Shared).TypeIs (.ref C) "type" := ⟨_, hC, rfl⟩
  refine codeAny_of_tree ?_
  show wpAny _ _ (callAny (.ref C) _) _ _ _
  repeat (any_goals (first | assumption | with_reducible refine wpAny_loadPart_at hC ?_ | wp_step))
  refine ⟨rfl, ?_⟩
  refine codeAny_call_builtin_at (Code.quiet_builtin _ (by decide +kernel)) entry_typeCall (kw_check_call hC (kw_type_call F hT hC hi hb hrest ?_))
  refine codeAny_mono hq fun r s' z => ?_
  rcases r with e | (v | _ | _ | _) <;> exact z
end
end Mini
set_option autoImplicit true
set_option maxHeartbeats 4000000
/-! Mini: a small evaluator of the Python that stands in the package and the laws: its syntax, its values, its runs. Plain Lean. -/
namespace Mini
open PySem L2

/-- values: tuples by value, lists, dicts, instances by number in the store, defs and classes by number in the program -/
inductive AV where
  | non | bl (b : Bool) | int (i : Int) | str (x : Str) | ty (n : String)
  | tup (xs : List AV)
  | ref (k : Nat)
  | glo (g : Nat)
/-- objects of the store -/
inductive AO where
  | lst (xs : List AV)
  | rls (xs : List AV)
  | dct (kvs : List (Str × AV))
  | ins (c : Nat) (fs : List (Str × AV))
  | exn (c : Nat) (d : Option Nat)
  | xdc (fs : List (Str × AV))
  | gone
abbrev AH := List AO
/-- a result: a value; an exception of the program's own class c with its fields; what is not carried -/
inductive R (α : Type) where
  | ok (a : α) (h : AH)
  | exc (c : Nat) (fs : List (Str × AV)) (h : AH)
  | bad
def R.bind {α β : Type} (r : R α) (f : α → AH → R β) : R β := match r with
  | .ok a h => f a h
  | .exc c fs h => .exc c fs h
  | .bad => .bad
inductive Bop where
  | add | sub | mul | fdiv | mod | pow | shl | shr | band | bor | bxor
inductive Cop where
  | eq | ne | lt | le | gt | ge | is | isnot | in_ | notin
/-- built-in functions -/
inductive Bi where
  | len | abs | min2 | max2 | repr | isinst | tuple | list | int | all | any | gcd | bitlen
/-- methods of built-in types -/
inductive Bm where
  | append | bitlen
mutual
inductive ME where
  | var (i : Nat)
  | int (i : Int) | str (x : Str) | bl (b : Bool) | non
  | glo (g : Nat)
  | ty (n : String)
  | bop (o : Bop) (a b : ME)
  | neg (a : ME)
  | cmp (o : Cop) (a b : ME)
  | cmp2 (o o' : Cop) (a b c : ME)
  | and_ (a b : ME) | or_ (a b : ME) | not_ (a : ME)
  | ite (c a b : ME)
  | tup (es : MEs) | lst (es : MEs) | dct (ks : List Str) (vs : MEs)
  | idx (a b : ME)
  | fld (a : ME) (f : Str)
  | einit (g : Nat) (es : MEs)
  | call (g : Nat) (es : MEs)
  | callk (g : Nat) (es : MEs) (ks : List Str) (vs : MEs)
  | bi (b : Bi) (es : MEs)
  | met (m : Bm) (o : ME) (es : MEs)
  | comp (t : MT) (src : MI) (elt : ME) (own : List Nat)
inductive MEs where
  | nil | cons (e : ME) (es : MEs)
/-- what is walked -/
inductive MI where
  | seq (e : ME) | range (e : ME)
/-- targets -/
inductive MT where
  | name (i : Nat) | tup (is : List Nat)
end
/-- what an except clause gives back -/
inductive HXI where
  | str (x : Str) | fld (f : Str)
inductive HX where
  | bl (b : Bool) | tup (xs : List HXI)
/-- an except clause: the class, the slot of its name, what it gives back -/
structure MH where
  g : Nat
  slot : Option Nat
  out : HX
mutual
inductive MS where
  | set (i : Nat) (e : ME)
  | par (i j : Nat) (a b : ME)
  | par3 (i j k : Nat) (a b c : ME)
  | unp (is : List Nat) (e : ME)
  | setI (o i e : ME)
  | setF (o : ME) (f : Str) (e : ME)
  | ex (e : ME)
  | ret (e : ME) | retN
  | if_ (c : ME) (a b : MSs)
  | for_ (t : MT) (src : MI) (body : MSs)
  | raise (g : Nat) (es : MEs)
  | try_ (b : MSs) (hs : List MH)
  | brk | cnt | pass
inductive MSs where
  | nil | cons (s : MS) (r : MSs)
end
/-- a def: how many parameters, how many slots, its body -/
structure MDef where
  np : Nat
  params : List Str
  ns : Nat
  body : MSs
/-- a class: its __init__, its __eq__, its __ne__ (defs by number) -/
structure MCls where
  init : Nat
  eq : Option Nat
  ne : Option Nat
/-- an exception class: its base (none: ValueError), its __init__ -/
structure MExc where
  base : Option Nat
  init : Option Nat
inductive MG where
  | exc (c : MExc)
  | def_ (d : MDef)
  | cls (c : MCls)
  | val (v : AV)
abbrev Prog := Nat → Option MG

/-! ### values -/
def optAll {α β : Type} (f : α → Option β) : List α → Option (List β)
  | [] => some []
  | x :: xs => match f x, optAll f xs with
    | some d, some ds => some (d :: ds)
    | _, _ => none
/-- data: what is nested of None, bools, ints, texts, tuples, lists -/
def toPy (h : AH) : Nat → AV → Option PyData
  | _, .non => some .none
  | _, .bl b => some (.bool b)
  | _, .int i => some (.int i)
  | _, .str x => some (.str x)
  | n + 1, .tup xs => (optAll (toPy h n) xs).map .tuple
  | n + 1, .ref k => match h[k]? with
    | some (.lst xs) => (optAll (toPy h n) xs).map .list
    | some (.rls xs) => (optAll (toPy h n) xs).map .list
    | _ => none
  | _, _ => none
/-- data, with dicts in it -/
def toPyD (h : AH) : Nat → AV → Option PyData
  | _, .non => some .none
  | _, .bl b => some (.bool b)
  | _, .int i => some (.int i)
  | _, .str x => some (.str x)
  | n + 1, .tup xs => (optAll (toPyD h n) xs).map .tuple
  | n + 1, .ref k => match h[k]? with
    | some (.lst xs) => (optAll (toPyD h n) xs).map .list
    | some (.rls xs) => (optAll (toPyD h n) xs).map .list
    | some (.dct kvs) => (optAll (fun p : Str × AV => (toPyD h n p.2).map fun d => (PyData.str p.1, d)) kvs).map .dict
    | _ => none
  | _, _ => none
/-- the items of a list or tuple -/
def seqOf (h : AH) : AV → Option (List AV)
  | .tup xs => some xs
  | .ref k => match h[k]? with
    | some (.lst xs) => some xs
    | some (.rls xs) => some xs
    | _ => none
  | _ => none
/-- whether an int may be multiplied by another -/
def mulOk (i j : Int) : Bool := decide (i.natAbs.log2 + j.natAbs.log2 < 900000)
def bopI : Bop → Int → Int → Option Int
  | .add, i, j => some (i + j)
  | .sub, i, j => some (i - j)
  | .mul, i, j => if mulOk i j then some (i * j) else none
  | .fdiv, i, j => if decide (j ≠ 0) && decide (j.natAbs.log2 < 9000) then some (i.fdiv j) else none
  | .mod, i, j => if decide (j ≠ 0) then some (i.fmod j) else none
  | .pow, i, j => if decide (0 ≤ j) && decide (j ≤ 1000000) && decide (i.natAbs < 2 ^ 64) then some (i ^ j.toNat) else none
  | .shl, i, j => if decide (0 ≤ j) && decide (j ≤ 1000000) && decide (i.natAbs < 2 ^ 64) then some (i * 2 ^ j.toNat) else none
  | .shr, i, j => if decide (0 ≤ j) then some (i / 2 ^ j.toNat) else none
  | .band, i, j => some (Builtin.bitAnd i j)
  | .bor, i, j => some (Builtin.bitOr i j)
  | .bxor, i, j => some (Builtin.bitXor i j)
/-- what raises nothing -/
abbrev O (α : Type) := Option (α × AH)
def R.of {α : Type} : O α → R α
  | some (a, h) => .ok a h
  | none => .bad
def bopA (o : Bop) (x y : AV) (h : AH) : O AV := match x, y with
  | .int i, .int j => (bopI o i j).map fun k => (.int k, h)
  | .ref a, .ref b => match o, h[a]?, h[b]? with
    | .add, some (.lst xs), some (.lst ys) => if xs.length + ys.length ≤ sizeLine then some (.ref h.length, h ++ [.lst (xs ++ ys)]) else none
    | _, _, _ => none
  | _, _ => none
def cmpI : Cop → Int → Int → Option Bool
  | .lt, i, j => some (decide (i < j))
  | .le, i, j => some (decide (i ≤ j))
  | .gt, i, j => some (decide (j < i))
  | .ge, i, j => some (decide (j ≤ i))
  | .eq, i, j => some (decide (i = j))
  | .ne, i, j => some (!decide (i = j))
  | _, _, _ => none
def isNon : AV → Bool
  | .non => true
  | _ => false
/-- == of data -/
def eqPy (h : AH) (x y : AV) : Option Bool := match toPy h 60 x, toPy h 60 y with
  | some d, some e => if SeqAt.shaped d && SeqAt.shaped e then some (PyData.eqv d e) else none
  | _, _ => none
def all2 {α : Type} (f : α → α → Bool) : List α → List α → Bool
  | [], [] => true
  | x :: xs, y :: ys => f x y && all2 f xs ys
  | _, _ => false
/-- the same, by what they hold down to the same objects -/
def sameA : Nat → AV → AV → Bool
  | n + 1, .tup xs, .tup ys => all2 (sameA n) xs ys
  | _ + 1, .non, .non => true
  | _ + 1, .bl a, .bl b => decide (a = b)
  | _ + 1, .int a, .int b => decide (a = b)
  | _ + 1, .str a, .str b => decide (a = b)
  | _ + 1, .ref a, .ref b => decide (a = b)
  | _, _, _ => false
def noTy : AV → Bool
  | .ty _ => false
  | _ => true
def nodupB : List Str → Bool
  | [] => true
  | x :: r => !r.contains x && nodupB r
/-- == that is true for it is the same: tuples, a dict itself -/
def topSame (h : AH) : AV → AV → Bool
  | .tup xs, .tup ys => all2 (sameA 20) xs ys
  | .ref a, .ref b => decide (a = b) && (match h[a]? with
    | some (.dct kvs) => nodupB (kvs.map (·.1)) && kvs.all (fun q => noTy q.2)
    | _ => false)
  | _, _ => false
def eqStr : AV → AV → Option Bool
  | .str a, .str b => some (decide (a = b))
  | _, _ => none
def eqTop (h : AH) (x y : AV) : Option Bool := match eqStr x y with
  | some b => some b
  | none => if topSame h x y = true then some true else eqPy h x y
def neTop (h : AH) (x y : AV) : Option Bool := match eqStr x y with
  | some b => some b
  | none => eqPy h x y
/-- the class of an instance -/
def insOf (h : AH) : AV → Option Nat
  | .ref k => match h[k]? with
    | some (.ins c _) => some c
    | _ => none
  | _ => none
section
variable (P : Prog) (cal : Nat → List AV → AH → R AV)
def clsAt (g : Nat) : Option MCls := match P g with
  | some (.cls c) => some c
  | _ => none
def excAt (g : Nat) : Option MExc := match P g with
  | some (.exc c) => some c
  | _ => none
def isExc (g : Nat) : Bool := (excAt P g).isSome
def underP : Nat → Nat → Nat → Bool
  | 0, g, k => decide (g = k)
  | n + 1, g, k => decide (g = k) || (match excAt P g with
    | some e => (match e.base with
      | some b => underP n b k
      | none => false)
    | none => false)
def tnames : List String := ["NoneType", "bool", "int", "str", "tuple", "list", "dict"]
def tnamesX : List String := ["NoneType", "bool", "int", "str", "tuple", "list", "dict", "ValueError"]
/-- a class: a built-in one, one of the program, an exception class of the program -/
inductive TD where
  | b (T : String) | c (g : Nat) | x (g : Nat)
/-- the class of a value -/
def tdOf (h : AH) : AV → Option TD
  | .non => some (.b "NoneType") | .bl _ => some (.b "bool") | .int _ => some (.b "int") | .str _ => some (.b "str") | .tup _ => some (.b "tuple")
  | .ref k => match h[k]? with
    | some (.lst _) => some (.b "list")
    | some (.rls _) => some (.b "list")
    | some (.dct _) => some (.b "dict")
    | some (.ins c _) => some (.c c)
    | some (.exn c none) => some (.x c)
    | some (.exn c (some d)) => (match h[d]? with
      | some (.xdc _) => some (.x c)
      | _ => none)
    | some (.xdc _) => none
    | some .gone => none
    | none => none
  | _ => none
/-- a class as a value -/
def tdC : AV → Option TD
  | .ty U => some (.b U)
  | .glo g => if isExc P g then some (.x g) else some (.c g)
  | _ => none
def isTy (T U : String) : Bool := decide (T = U) || (decide (T = "bool") && decide (U = "int"))
def isCls (g : Nat) : Bool := (clsAt P g).isSome
/-- whether one class is under another one -/
def isTD : TD → TD → Option Bool
  | .b T, .b U => if tnames.contains T && tnamesX.contains U then some (isTy T U) else none
  | .c g, .c k => if isCls P g && isCls P k then some (decide (g = k)) else none
  | .c g, .b U => if isCls P g && tnamesX.contains U then some false else none
  | .b T, .c g => if isCls P g && tnames.contains T then some false else none
  | .x g, .x k => if isExc P g && isExc P k then some (underP P 4 g k) else none
  | .x g, .b U => if isExc P g && tnamesX.contains U then some (decide (U = "ValueError")) else none
  | .b T, .x g => if isExc P g && tnames.contains T then some false else none
  | .x g, .c k => if isExc P g && isCls P k then some false else none
  | .c g, .x k => if isCls P g && isExc P k then some false else none
def isInst1 (h : AH) (x c : AV) : Option Bool := match tdOf h x, tdC P c with
  | some t, some u => isTD P t u
  | _, _ => none
def isInsts (h : AH) (x : AV) : List AV → Option Bool
  | [] => none
  | [c] => isInst1 P h x c
  | c :: cs => match isInst1 P h x c, isInsts h x cs with
    | some a, some b => some (a || b)
    | _, _ => none
def R.val {α : Type} : R α → O α
  | .ok a h => some (a, h)
  | _ => none
/-- an own == or != -/
def ownA (f : MCls → Option Nat) (x y : AV) (h : AH) : Option (O AV) := (insOf h x).map fun c => match (clsAt P c).bind f, tdOf h y with
  | some g, some t => if (isTD P t t).isSome then (cal g [x, y] h).val else none
  | _, _ => none
def cmpA (o : Cop) (x y : AV) (h : AH) : O AV := match x, y with
  | .int i, .int j => (cmpI o i j).map fun b => (.bl b, h)
  | x, y => match o with
    | .is => if isNon y then some (.bl (isNon x), h) else none
    | .isnot => if isNon y then some (.bl (!isNon x), h) else none
    | .eq => match ownA P cal (·.eq) x y h with
      | some r => r
      | none => (eqTop h x y).map fun b => (.bl b, h)
    | .ne => match ownA P cal (·.ne) x y h with
      | some r => r
      | none => (neTop h x y).map fun b => (.bl (!b), h)
    | _ => none
def boolsOf : List AV → Option (List Bool)
  | [] => some []
  | .bl b :: r => (boolsOf r).map (b :: ·)
  | _ => none
def biLen (vs : List AV) (h : AH) : O AV := match vs with
  | [x] => (seqOf h x).map fun xs => (.int xs.length, h)
  | _ => none
def biAbs (vs : List AV) (h : AH) : O AV := match vs with
  | [.int i] => some (.int (if i < 0 then -i else i), h)
  | _ => none
def biMin (vs : List AV) (h : AH) : O AV := match vs with
  | [.int i, .int j] => some (.int (if j < i then j else i), h)
  | _ => none
def biMax (vs : List AV) (h : AH) : O AV := match vs with
  | [.int i, .int j] => some (.int (if j > i then j else i), h)
  | _ => none
def biGcd (vs : List AV) (h : AH) : O AV := match vs with
  | [.int i, .int j] => some (.int (Nat.gcd i.natAbs j.natAbs : Nat), h)
  | _ => none
def biInt (vs : List AV) (h : AH) : O AV := match vs with
  | [.int i] => some (.int i, h)
  | [.bl k] => some (.int (if k then 1 else 0), h)
  | _ => none
def showOk (d : PyData) : Bool := d.showable && decide (d.shown.length ≤ sizeLine) && decide (d.depth ≤ 64)
def biRepr (vs : List AV) (h : AH) : O AV := match vs with
  | [x] => match toPyD h 60 x with
    | some d => if showOk d then some (.str d.shown, h) else none
    | none => none
  | _ => none
def biIsinst (vs : List AV) (h : AH) : O AV := match vs with
  | [x, .tup cs] => (isInsts P h x cs).map fun b => (.bl b, h)
  | [x, c] => (isInst1 P h x c).map fun b => (.bl b, h)
  | _ => none
def biTuple (vs : List AV) (h : AH) : O AV := match vs with
  | [x] => (seqOf h x).map fun xs => (.tup xs, h)
  | _ => none
def biList (vs : List AV) (h : AH) : O AV := match vs with
  | [x] => (seqOf h x).map fun xs => (.ref h.length, h ++ [.lst xs])
  | _ => none
def biAll (vs : List AV) (h : AH) : O AV := match vs with
  | [.ref k] => ((seqOf h (.ref k)).bind boolsOf).map fun bs => (.bl (bs.all id), h)
  | _ => none
def biAny (vs : List AV) (h : AH) : O AV := match vs with
  | [.ref k] => ((seqOf h (.ref k)).bind boolsOf).map fun bs => (.bl (bs.any id), h)
  | _ => none
def biA (b : Bi) (vs : List AV) (h : AH) : O AV := match b with
  | .len => biLen vs h
  | .abs => biAbs vs h
  | .min2 => biMin vs h
  | .max2 => biMax vs h
  | .gcd => biGcd vs h
  | .int => biInt vs h
  | .repr => biRepr vs h
  | .isinst => biIsinst P vs h
  | .tuple => biTuple vs h
  | .list => biList vs h
  | .all => biAll vs h
  | .any => biAny vs h
  | .bitlen => none
def metAppend (x : AV) (vs : List AV) (h : AH) : O AV := match x, vs with
  | .ref k, [y] => match h[k]? with
    | some (.lst xs) => if xs.length < sizeLine then some (.non, h.set k (.lst (xs ++ [y]))) else none
    | _ => none
  | _, _ => none
def metA (m : Bm) (x : AV) (vs : List AV) (h : AH) : O AV := match m with
  | .append => metAppend x vs h
  | .bitlen => none
def idxD (k : Nat) (z : Str) (h : AH) : O AV := match h[k]? with
  | some (.dct kvs) => (kvs.lookup z).map fun v => (v, h)
  | _ => none
def idxS (x : AV) (i : Int) (h : AH) : O AV := match seqOf h x with
  | some xs => (atI xs i).map fun v => (v, h)
  | none => none
def idxA (x y : AV) (h : AH) : O AV := match y with
  | .str z => match x with
    | .ref k => idxD k z h
    | _ => none
  | .int i => idxS x i h
  | _ => none
/-- a dict's key stored -/
def putA (kvs : List (Str × AV)) (z : Str) (v : AV) : List (Str × AV) :=
  if (kvs.any fun kv => decide (kv.1 = z)) = true then kvs.map (fun kv => if kv.1 = z then (kv.1, v) else kv) else kvs ++ [(z, v)]
/-- a field stored -/
def putFA (z : Str) (v : AV) : List (Str × AV) → List (Str × AV)
  | [] => [(z, v)]
  | (y, u) :: r => if y = z then (y, v) :: r else (y, u) :: putFA z v r
def setIA (x y v : AV) (h : AH) : O Unit := match x, y with
  | .ref k, .str z => match h[k]? with
    | some (.dct kvs) => if kvs.length < 1000 then some ((), (h.set k (.dct (putA kvs z v)))) else none
    | _ => none
  | _, _ => none
def fldA (x : AV) (f : Str) (h : AH) : O AV := match x with
  | .ref k => match h[k]? with
    | some (.ins c fs) => match fs.lookup f with
      | some v => if isCls P c then some (v, h) else none
      | none => none
    | some (.exn c (some d)) => match h[d]? with
      | some (.xdc fs) => match fs.lookup f with
        | some v => if isExc P c then some (v, h) else none
        | none => none
      | _ => none
    | _ => none
  | _ => none
def setFA (x : AV) (f : Str) (v : AV) (h : AH) : O Unit := match x with
  | .ref k => match h[k]? with
    | some (.ins c fs) => if fs.length < 900 ∧ isCls P c = true then some ((), (h.set k (.ins c (putFA f v fs)))) else none
    | some (.exn c none) => if isExc P c = true then some ((), (h ++ [AO.xdc [(f, v)]]).set k (.exn c (some h.length))) else none
    | some (.exn c (some d)) => match h[d]? with
      | some (.xdc fs) => if fs.length < 900 ∧ isExc P c = true then some ((), h.set d (.xdc ((f, v) :: fs))) else none
      | _ => none
    | _ => none
  | _ => none
/-- Base.__init__(self, ..) -/
def kEinit (g : Nat) (vs : List AV) (h : AH) : R AV := match vs with
  | .ref k :: ws => match h[k]?, excAt P g with
    | some (.exn c none), some e => if isExc P c = true ∧ ws.length ≤ 1000 ∧ e.base.isNone = true ∧ e.init.isNone = true then .ok .non h else .bad
    | _, _ => .bad
  | _ => .bad
/-- a call of a def, of a class -/
def callG (g : Nat) (vs : List AV) (h : AH) : R AV := match P g with
  | some (.def_ _) => cal g vs h
  | some (.cls c) => match cal c.init (.ref h.length :: vs) (h ++ [.ins g []]) with
    | .ok .non h' => .ok (.ref h.length) h'
    | .ok _ _ => .bad
    | .exc c fs h' => .exc c fs h'
    | .bad => .bad
  | some (.exc e) => match e.init with
    | some i => if vs.length ≤ 1000 then (match cal i (.ref h.length :: vs) (h ++ [.exn g none]) with
      | .ok .non h' => .ok (.ref h.length) h'
      | .ok _ _ => .bad
      | .exc c fs h' => .exc c fs h'
      | .bad => .bad) else .bad
    | none => .bad
  | _ => .bad
def dctOf : List Str → List AV → Option (List (Str × AV))
  | [], [] => some []
  | k :: ks, v :: vs => (dctOf ks vs).map ((k, v) :: ·)
  | _, _ => none
/-! ### runs -/
abbrev Sg := List (Option AV)
def getS (σ : Sg) (i : Nat) : Option AV := match σ[i]? with
  | some (some v) => some v
  | _ => none
inductive RS where
  | nx (σ : Sg) (h : AH)
  | rt (v : AV) (h : AH)
  | bk (σ : Sg) (h : AH)
  | ct (σ : Sg) (h : AH)
  | exc (c : Nat) (fs : List (Str × AV)) (σ : Sg) (h : AH)
  | bad
def R.stm {α : Type} (r : R α) (σ : Sg) (f : α → AH → RS) : RS := match r with
  | .ok a h => f a h
  | .exc c fs h => .exc c fs σ h
  | .bad => .bad
def setMany : Sg → List Nat → List AV → Option Sg
  | σ, [], [] => some σ
  | σ, i :: is, v :: vs => setMany (σ.set i (some v)) is vs
  | _, _, _ => none
def putT (σ : Sg) (h : AH) : MT → AV → Option Sg
  | .name i, v => some (σ.set i (some v))
  | .tup is, .tup vs => setMany σ is vs
  | .tup _, _ => none
/-- a walk over a tuple's items -/
def walkT (f : AV → Sg → AH → RS) : List AV → Sg → AH → RS
  | [], σ, h => .nx σ h
  | x :: xs, σ, h => match f x σ h with
    | .nx σ' h' => walkT f xs σ' h'
    | .ct σ' h' => walkT f xs σ' h'
    | .bk σ' h' => .nx σ' h'
    | r => r
/-- a walk over the list at k, from its item i on, n turns at most -/
def walkL (f : AV → Sg → AH → RS) (k : Nat) : Nat → Nat → Sg → AH → RS
  | 0, i, σ, h => match seqOf h (.ref k) with
    | some xs => if xs.length ≤ i then .nx σ h else .bad
    | none => .bad
  | n + 1, i, σ, h => match seqOf h (.ref k) with
    | some xs => match xs[i]? with
      | none => .nx σ h
      | some x => match f x σ h with
        | .nx σ' h' => walkL f k n (i + 1) σ' h'
        | .ct σ' h' => walkL f k n (i + 1) σ' h'
        | .bk σ' h' => .nx σ' h'
        | r => r
    | none => .bad
def intsTo : Nat → List AV
  | 0 => []
  | n + 1 => intsTo n ++ [.int n]
/-- a walk over range(n) from i on -/
def walkR (f : AV → Sg → AH → RS) : Nat → Int → Sg → AH → RS
  | 0, _, σ, h => .nx σ h
  | n + 1, i, σ, h => match f (.int i) σ h with
    | .nx σ' h' => walkR f n (i + 1) σ' h'
    | .ct σ' h' => walkR f n (i + 1) σ' h'
    | .bk σ' h' => .nx σ' h'
    | r => r
inductive MIt where
  | tup (xs : List AV) | lst (k : Nat) | rng (n : Nat)
def walkI (f : AV → Sg → AH → RS) (it : MIt) (σ : Sg) (h : AH) : RS := match it with
  | .tup xs => walkT f xs σ h
  | .lst k => match seqOf h (.ref k) with
    | some xs => walkL f k xs.length 0 σ h
    | none => .bad
  | .rng n => walkR f n 0 σ h
def itOf (h : AH) : AV → Option MIt
  | .tup xs => some (.tup xs)
  | .ref k => if (seqOf h (.ref k)).isSome then some (.lst k) else none
  | _ => none
def wipeS (σ : Sg) : List Nat → Sg
  | [] => σ
  | i :: is => (wipeS σ is).set i none
/-- one turn of a comprehension whose list is at D: its σ is told anew each turn -/
def compTurn (D : Nat) (own : List Nat) (t : MT) (elt : Sg → AH → R AV) (x : AV) (σ : Sg) (h : AH) : RS := match putT (wipeS σ own) h t x with
  | none => .bad
  | some σ1 => match elt σ1 h with
    | .ok y h1 => match h1[D]? with
      | some (.lst acc) => if acc.length < sizeLine then .nx σ (h1.set D (.lst (acc ++ [y]))) else .bad
      | _ => .bad
    | _ => .bad
def findK {α : Type} (k : Str) : List Str → List α → Option α
  | y :: ys, v :: vs => if y = k then some v else findK k ys vs
  | _, _ => none
/-- the arguments of a call by place and by name, in the parameters' order -/
def bindK {α : Type} (ps : List Str) (vs : List α) (ks : List Str) (kvs : List α) : Option (List α) :=
  if vs.length + ks.length = ps.length ∧ ks.length = kvs.length then (optAll (fun p => findK p ks kvs) (ps.drop vs.length)).map (vs ++ ·) else none
/-- the names of a call: none twice, each a parameter that no place serves -/
def kwOk (ps : List Str) (n : Nat) (ks : List Str) : Bool := nodupB ks && ks.all fun k => (ps.drop n).contains k
def paramsOf (g : Nat) : Option (List Str) := match P g with
  | some (.def_ d) => some d.params
  | some (.cls c) => match P c.init with
    | some (.def_ d) => some (d.params.drop 1)
    | _ => none
  | some (.exc e) => match e.init with
    | some i => match P i with
      | some (.def_ d) => some (d.params.drop 1)
      | _ => none
    | none => none
  | _ => none
/-- a call by place alone -/
def callP (g : Nat) (vs : List AV) (h : AH) : R AV := match paramsOf P g with
  | some ps => if vs.length = ps.length then callG P cal g vs h else .bad
  | none => .bad
/-- a call by place and by name -/
def callKw (g : Nat) (ks : List Str) (vs kvs : List AV) (h : AH) : R AV := match paramsOf P g with
  | some ps => match bindK ps vs ks kvs with
    | some us => if kwOk ps vs.length ks = true then callG P cal g us h else .bad
    | none => .bad
  | none => .bad
/-- the receiver's class -/
def metTy (m : Bm) (x : AV) (h : AH) : Bool := match m, x with
  | .append, .ref k => (seqOf h (.ref k)).isSome
  | _, _ => false
def kMet (m : Bm) (f : AH → R (List AV)) (x : AV) (h : AH) : R AV := if metTy m x h then (f h).bind fun vs h2 => .of (metA m x vs h2) else .bad
def kNeg (x : AV) (h : AH) : R AV := match x with
  | .int i => .ok (.int (-i)) h
  | _ => .bad
def kNot (x : AV) (h : AH) : R AV := match x with
  | .bl b => .ok (.bl (!b)) h
  | _ => .bad
def kAnd (f : AH → R AV) (x : AV) (h : AH) : R AV := match x with
  | .bl true => f h
  | .bl false => .ok (.bl false) h
  | _ => .bad
def kOr (f : AH → R AV) (x : AV) (h : AH) : R AV := match x with
  | .bl true => .ok (.bl true) h
  | .bl false => f h
  | _ => .bad
def kIte (f g : AH → R AV) (x : AV) (h : AH) : R AV := match x with
  | .bl true => f h
  | .bl false => g h
  | _ => .bad
def kTup (vs : List AV) (h : AH) : R AV := if vs.length ≤ sizeLine then .ok (.tup vs) h else .bad
def kLst (vs : List AV) (h : AH) : R AV := if vs.length ≤ sizeLine then .ok (.ref h.length) (h ++ [.lst vs]) else .bad
/-- the pairs of a display stored in the dict at k -/
def kDct (k : Nat) (ks : List Str) (vs : List AV) (h : AH) : R AV := match h[k]?, dctOf ks vs with
  | some (.dct []), some kvs => if kvs.length ≤ 15 ∧ nodupB ks = true then .ok (.ref k) (h.set k (.dct kvs)) else .bad
  | _, _ => .bad
def kRange (x : AV) (h : AH) : R MIt := match x with
  | .int i => if -(2 ^ 62) ≤ i ∧ i < 2 ^ 62 then .ok (.rng i.toNat) h else .bad
  | _ => .bad
def kSeq (x : AV) (h : AH) : R MIt := match itOf h x with
  | some it => .ok it h
  | none => .bad
/-- behind a comprehension's walk -/
def kComp (k : Nat) : RS → R AV
  | .nx _ h => .ok (.ref k) h
  | _ => .bad
def kIf (f g : AH → RS) (x : AV) (h : AH) : RS := match x with
  | .bl true => f h
  | .bl false => g h
  | _ => .bad
def kUnp (σ : Sg) (is : List Nat) (v : AV) (h : AH) : RS := match seqOf h v with
  | some xs => match setMany σ is xs with
    | some σ' => .nx σ' h
    | none => .bad
  | none => .bad
def kTurn (t : MT) (f : Sg → AH → RS) (x : AV) (σ : Sg) (h : AH) : RS := match putT σ h t x with
  | some σ' => f σ' h
  | none => .bad
def kSeqS (f : Sg → AH → RS) : RS → RS
  | .nx σ h => f σ h
  | q => q
/-- raise C(..) -/
def kRaise (g : Nat) (σ : Sg) (vs : List AV) (h : AH) : RS := match excAt P g, paramsOf P g with
  | some e, some ps => match e.init with
    | some i => if vs.length = ps.length ∧ vs.length ≤ 1000 then (match cal i (.ref h.length :: vs) (h ++ [.exn g none]) with
      | .ok .non h2 => match h2[h.length]? with
        | some (.exn c (some d)) => match h2[d]? with
          | some (.xdc fs) => if c = g then .exc g fs σ ((h2.set h.length .gone).set d .gone) else .bad
          | _ => .bad
        | _ => .bad
      | _ => .bad) else .bad
    | none => .bad
  | _, _ => .bad
def hxiA (fs : List (Str × AV)) : HXI → Option AV
  | .str x => some (.str x)
  | .fld f => fs.lookup f
def slotOk : Option Nat → Nat → Bool
  | some i, n => decide (i < n)
  | none, _ => false
def outA (c : Nat) (fs : List (Str × AV)) (n : Nat) (m : MH) : Option AV := match m.out with
  | .bl b => some (.bl b)
  | .tup xs => if c = m.g ∧ xs.length ≤ sizeLine ∧ slotOk m.slot n = true then (optAll (hxiA fs) xs).map .tup else none
/-- except clauses -/
def catchA (c : Nat) (fs : List (Str × AV)) (σ : Sg) (h : AH) : List MH → RS
  | [] => .exc c fs σ h
  | m :: r => match isTD P (.x c) (.x m.g) with
    | some true => match outA c fs σ.length m with
      | some v => .rt v h
      | none => .bad
    | some false => catchA c fs σ h r
    | none => .bad
def kTry (hs : List MH) : RS → RS
  | .exc c fs σ h => catchA P c fs σ h hs
  | q => q
mutual
def evE (e : ME) (σ : Sg) (h : AH) : R AV := match e with
  | .var i => match getS σ i with
    | some v => .ok v h
    | none => .bad
  | .int i => .ok (.int i) h
  | .str x => .ok (.str x) h
  | .bl b => .ok (.bl b) h
  | .non => .ok .non h
  | .glo g => match P g with
    | some (.val v) => .ok v h
    | some _ => .ok (.glo g) h
    | none => .bad
  | .ty n => .ok (.ty n) h
  | .bop o a b => (evE a σ h).bind fun x h1 => (evE b σ h1).bind fun y h2 => .of (bopA o x y h2)
  | .neg a => (evE a σ h).bind kNeg
  | .cmp o a b => (evE a σ h).bind fun x h1 => (evE b σ h1).bind fun y h2 => .of (cmpA P cal o x y h2)
  | .cmp2 o o' a b c => (evE a σ h).bind fun x h1 => (evE b σ h1).bind fun y h2 => (R.of (cmpA P cal o x y h2)).bind (kAnd fun h3 => (evE c σ h3).bind fun w h4 => .of (cmpA P cal o' y w h4))
  | .and_ a b => (evE a σ h).bind (kAnd (evE b σ))
  | .or_ a b => (evE a σ h).bind (kOr (evE b σ))
  | .not_ a => (evE a σ h).bind kNot
  | .ite c a b => (evE c σ h).bind (kIte (evE a σ) (evE b σ))
  | .tup es => (evEs es σ h).bind kTup
  | .lst es => (evEs es σ h).bind kLst
  | .dct ks es => (evEs es σ (h ++ [.dct []])).bind (kDct h.length ks)
  | .idx a b => (evE a σ h).bind fun x h1 => (evE b σ h1).bind fun y h2 => .of (idxA x y h2)
  | .fld a f => (evE a σ h).bind fun x h1 => .of (fldA P x f h1)
  | .einit g es => (evEs es σ h).bind (kEinit P g)
  | .call g es => (evEs es σ h).bind (callP P cal g)
  | .callk g es ks kes => (evEs es σ h).bind fun vs h1 => (evEs kes σ h1).bind fun kvs h2 => callKw P cal g ks vs kvs h2
  | .bi b es => (evEs es σ h).bind fun vs h1 => .of (biA P b vs h1)
  | .met m o es => (evE o σ h).bind (kMet m (evEs es σ))
  | .comp t src elt own => (evI src σ h).bind fun it h1 => kComp h1.length (walkI (compTurn h1.length own t (evE elt)) it σ (h1 ++ [.lst []]))
def evEs (es : MEs) (σ : Sg) (h : AH) : R (List AV) := match es with
  | .nil => .ok [] h
  | .cons e es => (evE e σ h).bind fun v h1 => (evEs es σ h1).bind fun vs h2 => .ok (v :: vs) h2
def evI (i : MI) (σ : Sg) (h : AH) : R MIt := match i with
  | .seq e => (evE e σ h).bind kSeq
  | .range e => (evE e σ h).bind kRange
end
mutual
def evS (s : MS) (σ : Sg) (h : AH) : RS := match s with
  | .set i e => (evE P cal e σ h).stm σ fun v h1 => .nx (σ.set i (some v)) h1
  | .par i j a b => (evE P cal a σ h).stm σ fun x h1 => (evE P cal b σ h1).stm σ fun y h2 => .nx ((σ.set i (some x)).set j (some y)) h2
  | .par3 i j k a b c => (evE P cal a σ h).stm σ fun x h1 => (evE P cal b σ h1).stm σ fun y h2 => (evE P cal c σ h2).stm σ fun z h3 => .nx (((σ.set i (some x)).set j (some y)).set k (some z)) h3
  | .unp is e => (evE P cal e σ h).stm σ (kUnp σ is)
  | .setI o i e => (evE P cal e σ h).stm σ fun v h1 => (evE P cal o σ h1).stm σ fun x h2 => (evE P cal i σ h2).stm σ fun y h3 => (R.of (setIA x y v h3)).stm σ fun _ h4 => .nx σ h4
  | .setF o f e => (evE P cal e σ h).stm σ fun v h1 => (evE P cal o σ h1).stm σ fun x h2 => (R.of (setFA P x f v h2)).stm σ fun _ h3 => .nx σ h3
  | .ex e => (evE P cal e σ h).stm σ fun _ h1 => .nx σ h1
  | .ret e => (evE P cal e σ h).stm σ fun v h1 => .rt v h1
  | .retN => .rt .non h
  | .if_ c a b => (evE P cal c σ h).stm σ (kIf (evSs a σ) (evSs b σ))
  | .for_ t src body => (evI P cal src σ h).stm σ fun it h1 => walkI (kTurn t (evSs body)) it σ h1
  | .raise g es => (evEs P cal es σ h).stm σ (kRaise P cal g σ)
  | .try_ b hs => kTry P hs (evSs b σ h)
  | .brk => .bk σ h
  | .cnt => .ct σ h
  | .pass => .nx σ h
def evSs (ss : MSs) (σ : Sg) (h : AH) : RS := match ss with
  | .nil => .nx σ h
  | .cons s r => kSeqS (evSs r) (evS s σ h)
end
end
/-- the run of def g, n calls deep at most -/
def calA (P : Prog) : Nat → Nat → List AV → AH → R AV
  | 0, _, _, _ => .bad
  | n + 1, g, vs, h => match P g with
    | some (.def_ d) => if vs.length = d.np then (match evSs P (calA P n) d.body (vs.map some ++ List.replicate (d.ns - d.np) none) h with
      | .nx _ h' => .ok .non h'
      | .rt v h' => .ok v h'
      | .exc c fs _ h' => .exc c fs h'
      | _ => .bad) else .bad
    | _ => .bad
end Mini
set_option autoImplicit true
set_option maxHeartbeats 4000000
/-! Mini, second part: how its values and its store stand in the layer's values and heap. -/
namespace Mini
open PySem PySem.Spec L2

/-- what is fixed: the written part, where the program's defs and classes stand -/
structure Gr where
  K : PySem.W.Frag
  ad : Nat → Addr

/-- a tuple: tracked, or of the written part -/
def TA (K : PySem.W.Frag) (H : Hp) (a : Addr) (xs : List V) : Prop :=
  H a = some (.tup xs) ∨ ∃ (o : Obj) (its : Array Value) (n : Nat), K.lookup a = some o ∧ o.cls = .type "tuple" ∧ o.data = .seq its n ∧ its.size ≤ sizeLine ∧ Vals xs its.toList
theorem TA.sq {K : PySem.W.Frag} {H : Hp} {a : Addr} {xs : List V} (h : TA K H a xs) : SqT K H a xs := h.elim (fun h => .inl (.inl h)) .inr
mutual
inductive RV (G : Gr) (ρ : List Addr) (H : Hp) : AV → V → Prop
  | non : RV G ρ H .non .non
  | bl (b : Bool) : RV G ρ H (.bl b) (.bl b)
  | int (i : Int) : RV G ρ H (.int i) (.int i)
  | str (x : Str) : RV G ρ H (.str x) (.str x)
  | ty (n : String) : RV G ρ H (.ty n) (.ty n)
  | tup {a : Addr} {vs : List V} {xs : List AV} : TA G.K H a vs → RVs G ρ H xs vs → RV G ρ H (.tup xs) (.ref a)
  | ref {k : Nat} {a : Addr} : ρ[k]? = some a → RV G ρ H (.ref k) (.ref a)
  | glo (g : Nat) : RV G ρ H (.glo g) (.ref (G.ad g))
inductive RVs (G : Gr) (ρ : List Addr) (H : Hp) : List AV → List V → Prop
  | nil : RVs G ρ H [] []
  | cons {x : AV} {v : V} {xs : List AV} {vs : List V} : RV G ρ H x v → RVs G ρ H xs vs → RVs G ρ H (x :: xs) (v :: vs)
end
/-- named values -/
inductive RF (G : Gr) (ρ : List Addr) (H : Hp) : List (Str × AV) → List (Str × V) → Prop
  | nil : RF G ρ H [] []
  | cons {f : Str} {x : AV} {v : V} {xs : List (Str × AV)} {vs : List (Str × V)} : RV G ρ H x v → RF G ρ H xs vs → RF G ρ H ((f, x) :: xs) ((f, v) :: vs)
/-- a dict's pairs -/
inductive RD (G : Gr) (ρ : List Addr) (H : Hp) : List (Str × AV) → List (Key × V) → Prop
  | nil : RD G ρ H [] []
  | cons {f : Str} {x : AV} {v : V} {xs : List (Str × AV)} {vs : List (Key × V)} : RV G ρ H x v → RD G ρ H xs vs → RD G ρ H ((f, x) :: xs) ((.inr f, v) :: vs)
/-- a list of the written part -/
def KL (K : PySem.W.Frag) (a : Addr) (xs : List V) : Prop :=
  ∃ (o : Obj) (its : Array Value) (n : Nat), K.lookup a = some o ∧ o.cls = .type "list" ∧ o.dict = none ∧ o.data = .seq its n ∧ its.size ≤ sizeLine ∧ Vals xs its.toList
/-- an object of the store -/
inductive RO (G : Gr) (ρ : List Addr) (H : Hp) : AO → Addr → Prop
  | lst {xs : List AV} {vs : List V} {a : Addr} : H a = some (.lst vs) → RVs G ρ H xs vs → RO G ρ H (.lst xs) a
  | frz {xs : List AV} {vs : List V} {a : Addr} {o : Obj} : H a = some (.frz o (.lst vs)) → RVs G ρ H xs vs → RO G ρ H (.rls xs) a
  | kls {xs : List AV} {vs : List V} {a : Addr} : KL G.K a vs → RVs G ρ H xs vs → RO G ρ H (.rls xs) a
  | dct {xs : List (Str × AV)} {vs : List (Key × V)} {a : Addr} : H a = some (.dK vs) → RD G ρ H xs vs → RO G ρ H (.dct xs) a
  | ins {c : Nat} {xs : List (Str × AV)} {vs : List (Str × V)} {a dx : Addr} : H a = some (.ins (G.ad c) dx vs) → RF G ρ H xs vs → RO G ρ H (.ins c xs) a
  | exn0 {c : Nat} {a : Addr} : H a = some (exo a (G.ad c) Option.none) → RO G ρ H (.exn c Option.none) a
  | exn {c k : Nat} {a dx : Addr} : H a = some (exo a (G.ad c) (some dx)) → ρ[k]? = some dx → RO G ρ H (.exn c (some k)) a
  | xdc {xs : List (Str × AV)} {vs : List (Str × V)} {a : Addr} : H a = some (exd a vs) → RF G ρ H xs vs → RO G ρ H (.xdc xs) a
  | gone {a : Addr} : RO G ρ H .gone a
def AO.mut : AO → Bool
  | .rls _ => false
  | .gone => false
  | _ => true
/-- the store -/
structure RH (G : Gr) (ρ : List Addr) (h : AH) (H : Hp) : Prop where
  len : ρ.length = h.length
  at' : ∀ (k : Nat) (o : AO) (a : Addr), h[k]? = some o → ρ[k]? = some a → RO G ρ H o a
  nd : ∀ (j k : Nat) (o u : AO) (a : Addr), h[j]? = some o → h[k]? = some u → o.mut = true → u.mut = true → ρ[j]? = some a → ρ[k]? = some a → j = k
/-- from one state to a later one -/
structure Ext (G : Gr) (ρ : List Addr) (H : Hp) (ρ' : List Addr) (H' : Hp) : Prop where
  pre : ∃ l, ρ' = ρ ++ l
  tup : ∀ a vs, TA G.K H a vs → TA G.K H' a vs
theorem Ext.refl {G : Gr} {ρ : List Addr} {H : Hp} : Ext G ρ H ρ H := ⟨⟨[], by simp⟩, fun _ _ h => h⟩
theorem Ext.trans {G : Gr} {ρ ρ1 ρ2 : List Addr} {H H1 H2 : Hp} (a : Ext G ρ H ρ1 H1) (b : Ext G ρ1 H1 ρ2 H2) : Ext G ρ H ρ2 H2 := by
  obtain ⟨l, rfl⟩ := a.pre
  obtain ⟨l2, rfl⟩ := b.pre
  exact ⟨⟨l ++ l2, by simp⟩, fun c vs h => b.tup c vs (a.tup c vs h)⟩
theorem Ext.at {G : Gr} {ρ ρ' : List Addr} {H H' : Hp} (e : Ext G ρ H ρ' H') {k : Nat} {a : Addr} (h : ρ[k]? = some a) : ρ'[k]? = some a := by
  obtain ⟨l, rfl⟩ := e.pre
  obtain ⟨h1, h2⟩ := List.getElem?_eq_some_iff.mp h
  rw [List.getElem?_append_left h1]; exact h
section
variable {G : Gr} {ρ ρ' : List Addr} {H H' : Hp}
mutual
theorem RV.ext (e : Ext G ρ H ρ' H') : ∀ {x : AV} {v : V}, RV G ρ H x v → RV G ρ' H' x v
  | _, _, .non => .non
  | _, _, .bl b => .bl b
  | _, _, .int i => .int i
  | _, _, .str x => .str x
  | _, _, .ty n => .ty n
  | _, _, .tup h r => .tup (e.tup _ _ h) (RVs.ext e r)
  | _, _, .ref h => .ref (e.at h)
  | _, _, .glo g => .glo g
theorem RVs.ext (e : Ext G ρ H ρ' H') : ∀ {xs : List AV} {vs : List V}, RVs G ρ H xs vs → RVs G ρ' H' xs vs
  | _, _, .nil => .nil
  | _, _, .cons r t => .cons (RV.ext e r) (RVs.ext e t)
end
theorem RF.ext (e : Ext G ρ H ρ' H') : ∀ {xs : List (Str × AV)} {vs : List (Str × V)}, RF G ρ H xs vs → RF G ρ' H' xs vs
  | _, _, .nil => .nil
  | _, _, .cons r t => .cons (r.ext e) (RF.ext e t)
theorem RD.ext (e : Ext G ρ H ρ' H') : ∀ {xs : List (Str × AV)} {vs : List (Key × V)}, RD G ρ H xs vs → RD G ρ' H' xs vs
  | _, _, .nil => .nil
  | _, _, .cons r t => .cons (r.ext e) (RD.ext e t)
theorem RVs.length : ∀ {xs : List AV} {vs : List V}, RVs G ρ H xs vs → xs.length = vs.length
  | _, _, .nil => rfl
  | _, _, .cons _ t => by simp [RVs.length t]
theorem RF.length : ∀ {xs : List (Str × AV)} {vs : List (Str × V)}, RF G ρ H xs vs → xs.length = vs.length
  | _, _, .nil => rfl
  | _, _, .cons _ t => by simp [RF.length t]
theorem RD.length : ∀ {xs : List (Str × AV)} {vs : List (Key × V)}, RD G ρ H xs vs → xs.length = vs.length
  | _, _, .nil => rfl
  | _, _, .cons _ t => by simp [RD.length t]
theorem RVs.append : ∀ {xs ys : List AV} {vs ws : List V}, RVs G ρ H xs vs → RVs G ρ H ys ws → RVs G ρ H (xs ++ ys) (vs ++ ws)
  | _, _, _, _, .nil, s => s
  | _, _, _, _, .cons r t, s => .cons r (RVs.append t s)
theorem RVs.get : ∀ {xs : List AV} {vs : List V} {i : Nat} {x : AV}, RVs G ρ H xs vs → xs[i]? = some x → ∃ v, vs[i]? = some v ∧ RV G ρ H x v
  | _, _, _, _, .nil, e => by simp at e
  | _, _, 0, _, .cons r _, e => by simp at e; subst e; exact ⟨_, rfl, r⟩
  | _, _, i + 1, x, .cons _ t, e => by
    obtain ⟨u, h1, h2⟩ := RVs.get (i := i) (x := x) t (by simpa using e)
    exact ⟨u, by simpa using h1, h2⟩
theorem RVs.getR : ∀ {xs : List AV} {vs : List V} {i : Nat} {v : V}, RVs G ρ H xs vs → vs[i]? = some v → ∃ x, xs[i]? = some x ∧ RV G ρ H x v
  | _, _, _, _, .nil, e => by simp at e
  | _, _, 0, _, .cons r _, e => by simp at e; subst e; exact ⟨_, rfl, r⟩
  | _, _, i + 1, x, .cons _ t, e => by
    obtain ⟨u, h1, h2⟩ := RVs.getR (i := i) (v := x) t (by simpa using e)
    exact ⟨u, by simpa using h1, h2⟩
theorem RF.get : ∀ {xs : List (Str × AV)} {vs : List (Str × V)} {f : Str} {x : AV}, RF G ρ H xs vs → xs.lookup f = some x → ∃ v, vs.lookup f = some v ∧ RV G ρ H x v
  | _, _, f, x, .nil, e => by simp at e
  | (g, y) :: xs, (_, v) :: vs, f, x, .cons r t, e => by
    rw [List.lookup] at e ⊢
    cases q : (f == g) with
    | true => rw [q] at e; simp only [Option.some.injEq] at e; subst e; exact ⟨v, rfl, r⟩
    | false => rw [q] at e; exact RF.get t e
theorem RF.none : ∀ {xs : List (Str × AV)} {vs : List (Str × V)} {f : Str}, RF G ρ H xs vs → xs.lookup f = none → vs.lookup f = none
  | _, _, f, .nil, e => by simp
  | (g, y) :: xs, (_, v) :: vs, f, .cons r t, e => by
    rw [List.lookup] at e ⊢
    cases q : (f == g) with
    | true => rw [q] at e; simp at e
    | false => rw [q] at e; exact RF.none t e
/-- the slots -/
def RG (G : Gr) (ρ : List Addr) (H : Hp) (σA : Sg) (σ : St) : Prop := σA.length = σ.length ∧ ∀ (i : Nat) (x : AV), σA[i]? = some (some x) → ∃ v, σ[i]? = some (some v) ∧ RV G ρ H x v
theorem RG.ext (e : Ext G ρ H ρ' H') {σA : Sg} {σ : St} (r : RG G ρ H σA σ) : RG G ρ' H' σA σ := ⟨r.1, fun i x h => by
  obtain ⟨v, h1, h2⟩ := r.2 i x h
  exact ⟨v, h1, h2.ext e⟩⟩
theorem RG.set {σA : Sg} {σ : St} (r : RG G ρ H σA σ) (i : Nat) {x : AV} {v : V} (rv : RV G ρ H x v) : RG G ρ H (σA.set i (some x)) (σ.set i (some v)) := ⟨by simp [r.1], fun j y h => by
  by_cases hj : i = j
  · subst hj
    by_cases hl : i < σA.length
    · rw [List.getElem?_set_self hl] at h
      simp only [Option.some.injEq] at h
      subst h
      exact ⟨v, List.getElem?_set_self (by rw [← r.1]; exact hl), rv⟩
    · rw [List.getElem?_eq_none (by simpa using hl)] at h; cases h
  · rw [List.getElem?_set_ne hj] at h ⊢
    exact r.2 j y h⟩
theorem RG.setN {σA : Sg} {σ : St} (r : RG G ρ H σA σ) (i : Nat) : RG G ρ H (σA.set i none) (σ.set i none) := ⟨by simp [r.1], fun j y h => by
  by_cases hj : i = j
  · subst hj
    by_cases hl : i < σA.length
    · rw [List.getElem?_set_self hl] at h; cases h
    · rw [List.getElem?_eq_none (by simpa using hl)] at h; cases h
  · rw [List.getElem?_set_ne hj] at h ⊢
    exact r.2 j y h⟩
theorem RG.wipe {σA : Sg} {σ : St} (r : RG G ρ H σA σ) : ∀ own : List Nat, RG G ρ H (wipeS σA own) (wipe σ own)
  | [] => r
  | i :: is => (RG.wipe r is).setN i
/-- an object of the store that may be written is no tuple and is tracked -/
theorem RO.is (h : RO G ρ H o a) (m : o.mut = true) : ∃ u, H a = some u ∧ Mut (some u) ∧ (∀ xs, u ≠ .tup xs) ∧ (∀ o' xs, u ≠ .frz o' xs) := by
  cases h with
  | lst e _ => exact ⟨_, e, trivial, fun _ => nofun, fun _ _ => nofun⟩
  | frz e _ => cases m
  | kls e _ => cases m
  | dct e _ => exact ⟨_, e, trivial, fun _ => nofun, fun _ _ => nofun⟩
  | ins e _ => exact ⟨_, e, trivial, fun _ => nofun, fun _ _ => nofun⟩
  | exn0 e => exact ⟨_, e, trivial, fun _ => nofun, fun _ _ => nofun⟩
  | exn e _ => exact ⟨_, e, trivial, fun _ => nofun, fun _ _ => nofun⟩
  | xdc e _ => exact ⟨_, e, trivial, fun _ => nofun, fun _ _ => nofun⟩
  | gone => cases m
/-- a new object, or one in the place of a thing that is no tuple -/
theorem Ext.upd {a : Addr} {u : HO} (h : ∀ xs, H a ≠ some (.tup xs)) (l : List Addr) : Ext G ρ H (ρ ++ l) (L2.upd H a u) := ⟨⟨l, rfl⟩, fun b vs z => by
  rcases z with z | z
  · exact .inl (by rw [upd_ne (fun e => by subst e; exact h _ z)]; exact z)
  · exact .inr z⟩
theorem Ext.new {a : Addr} {u : HO} (h : H a = Option.none) (l : List Addr) : Ext G ρ H (ρ ++ l) (L2.upd H a u) := Ext.upd (fun xs z => by rw [h] at z; cases z) l
theorem Ext.put {a : Addr} {u w : HO} (h : H a = some w) (h1 : ∀ xs, w ≠ .tup xs) (h2 : ∀ o' xs, w ≠ .frz o' xs) : Ext G ρ H ρ (L2.upd H a u) := by
  have e := Ext.upd (G := G) (ρ := ρ) (H := H) (a := a) (u := u) (fun xs z => by rw [h] at z; exact h1 xs (Option.some.inj z)) []
  simpa using e
/-- the objects that are not written stay -/
theorem RO.stay {o : AO} {a : Addr} (e : Ext G ρ H ρ' H') (k : ∀ u, H a = some u → H' a = some u) (h : RO G ρ H o a) : RO G ρ' H' o a := by
  cases h with
  | lst z r => exact .lst (k _ z) (r.ext e)
  | frz z r => exact .frz (k _ z) (r.ext e)
  | kls z r => exact .kls z (r.ext e)
  | dct z r => exact .dct (k _ z) (r.ext e)
  | ins z r => exact .ins (k _ z) (r.ext e)
  | exn0 z => exact .exn0 (k _ z)
  | exn z r => exact .exn (k _ z) (e.at r)
  | xdc z r => exact .xdc (k _ z) (r.ext e)
  | gone => exact .gone
/-- a new object of the store -/
theorem RH.new {h : AH} (r : RH G ρ h H) {p : Addr} {o : AO} {u : HO} (hp : H p = Option.none) (hm : o.mut = true) (ho : RO G (ρ ++ [p]) (L2.upd H p u) o p) : RH G (ρ ++ [p]) (h ++ [o]) (L2.upd H p u) := by
  have e : Ext G ρ H (ρ ++ [p]) (L2.upd H p u) := Ext.new hp [p]
  have split : ∀ {k : Nat} {o' : AO} {a : Addr}, (h ++ [o])[k]? = some o' → (ρ ++ [p])[k]? = some a → (k = h.length ∧ o' = o ∧ a = p) ∨ (h[k]? = some o' ∧ ρ[k]? = some a) := fun {k o' a} h1 h2 => by
    by_cases hk : k < h.length
    · rw [List.getElem?_append_left hk] at h1
      rw [List.getElem?_append_left (by rw [r.len]; exact hk)] at h2
      exact .inr ⟨h1, h2⟩
    · have hk2 : k = h.length := by
        have := (List.getElem?_eq_some_iff.mp h1).1
        simp at this; omega
      subst hk2
      rw [List.getElem?_append_right (Nat.le_refl _)] at h1
      rw [List.getElem?_append_right (by rw [r.len]; exact Nat.le_refl _)] at h2
      simp [r.len] at h1 h2
      exact .inl ⟨rfl, h1.symm, h2.symm⟩
  have old : ∀ {k : Nat} {o' : AO}, h[k]? = some o' → o'.mut = true → ρ[k]? = some p → False := fun {k o'} h1 m h2 => by
    obtain ⟨u', hu, _⟩ := (r.at' _ _ _ h1 h2).is m
    rw [hp] at hu; cases hu
  refine ⟨by simp [r.len], fun k o' a h1 h2 => ?_, fun j k o1 o2 a h1 h2 m1 m2 h3 h4 => ?_⟩
  · rcases split h1 h2 with ⟨_, rfl, rfl⟩ | ⟨q1, q2⟩
    · exact ho
    · exact (r.at' k o' a q1 q2).stay e fun u' hu => by rw [upd_ne (ne_of_none hu hp)]; exact hu
  · rcases split h1 h3 with ⟨rfl, rfl, rfl⟩ | ⟨q1, q3⟩
    · rcases split h2 h4 with ⟨rfl, _, _⟩ | ⟨q2, q4⟩
      · rfl
      · exact (old q2 m2 q4).elim
    · rcases split h2 h4 with ⟨rfl, rfl, rfl⟩ | ⟨q2, q4⟩
      · exact (old q1 m1 q3).elim
      · exact r.nd j k o1 o2 a q1 q2 m1 m2 q3 q4
/-- an object of the store written -/
theorem RH.put {h : AH} (r : RH G ρ h H) {k : Nat} {a : Addr} {o o' : AO} {u : HO} (hk : h[k]? = some o) (ha : ρ[k]? = some a) (hm : o.mut = true) (hm' : o'.mut = true) (ho : RO G ρ (L2.upd H a u) o' a) : RH G ρ (h.set k o') (L2.upd H a u) ∧ Ext G ρ H ρ (L2.upd H a u) := by
  obtain ⟨w, hw, hmu, h1, h2⟩ := (r.at' k o a hk ha).is hm
  have e : Ext G ρ H ρ (L2.upd H a u) := Ext.put hw h1 h2
  have hkl : k < h.length := (List.getElem?_eq_some_iff.mp hk).1
  refine ⟨⟨by simp [r.len], fun j o1 b h3 h4 => ?_, fun i j o1 o2 b h3 h4 m1 m2 h5 h6 => ?_⟩, e⟩
  · by_cases hj : k = j
    · subst hj
      rw [List.getElem?_set_self hkl] at h3
      cases h3
      rw [ha] at h4; cases h4
      exact ho
    · rw [List.getElem?_set_ne hj] at h3
      have q := r.at' j o1 b h3 h4
      by_cases hb : b = a
      · subst hb
        cases hm1 : o1.mut with
        | true => exact absurd (r.nd k j o o1 b hk h3 hm hm1 ha h4) hj
        | false =>
          cases q with
          | lst _ _ => cases hm1
          | dct _ _ => cases hm1
          | ins _ _ => cases hm1
          | exn0 _ => cases hm1
          | exn _ _ => cases hm1
          | xdc _ _ => cases hm1
          | gone => exact .gone
          | frz z _ => rw [hw] at z; exact absurd (Option.some.inj z) (h2 _ _)
          | kls z rr => exact .kls z (rr.ext e)
      · exact q.stay e fun v hv => by rw [upd_ne hb]; exact hv
  · have back : ∀ {j : Nat} {o1 : AO}, (h.set k o')[j]? = some o1 → o1.mut = true → ∃ o2, h[j]? = some o2 ∧ o2.mut = true := fun {j o1} z m => by
      by_cases hj : k = j
      · subst hj; exact ⟨o, hk, hm⟩
      · rw [List.getElem?_set_ne hj] at z; exact ⟨o1, z, m⟩
    obtain ⟨p1, z1, y1⟩ := back h3 m1
    obtain ⟨p2, z2, y2⟩ := back h4 m2
    exact r.nd i j p1 p2 b z1 z2 y1 y2 h5 h6
end
end Mini
set_option autoImplicit false
set_option maxHeartbeats 4000000
/-! Mini, third part: what a run promises; defs that keep a promise where no repr is running; the context of a body. -/
namespace Mini
open PySem PySem.Spec L2
open PyProof.Rows hiding St

/-! ### what is wanted of a run -/
section
variable (G : Gr)
/-- an exception's fields in its own dict -/
def RX (ρ : List Addr) (H : Hp) (c : Nat) (fs : List (Str × AV)) (cls : Value) (d : Option Addr) : Prop :=
  cls = .ref (G.ad c) ∧ ∃ dd vs, d = some dd ∧ H dd = some (.xd vs) ∧ RF G ρ H fs vs
/-- a result r from (ρ, H): Q at its value, W at its exception -/
def Out {α : Type} (W : XK) (ρ : List Addr) (H : Hp) (r : R α) (Q : α → AH → List Addr → Hp → Prop) : Prop := match r with
  | .ok a h => ∀ ρ' H', Ext G ρ H ρ' H' → RH G ρ' h H' → Q a h ρ' H'
  | .exc c fs h => ∀ ρ' H' cls d, Ext G ρ H ρ' H' → RH G ρ' h H' → RX G ρ' H' c fs cls d → W cls d H'
  | .bad => False
end
section
variable {G : Gr} {ρ ρ' : List Addr} {H H' : Hp} {W : XK} {α β : Type}
theorem Out.later {r : R α} {Q : α → AH → List Addr → Hp → Prop} (e : Ext G ρ H ρ' H') (h : Out G W ρ H r Q) : Out G W ρ' H' r Q := by
  cases r with
  | ok a k => exact fun ρ2 H2 e2 rh => h ρ2 H2 (e.trans e2) rh
  | exc c fs k => exact fun ρ2 H2 cls d e2 rh => h ρ2 H2 cls d (e.trans e2) rh
  | bad => exact h
theorem Out.imp {r : R α} {Q Q' : α → AH → List Addr → Hp → Prop} (h : Out G W ρ H r Q) (k : ∀ a h' ρ' H', Ext G ρ H ρ' H' → RH G ρ' h' H' → Q a h' ρ' H' → Q' a h' ρ' H') : Out G W ρ H r Q' := by
  cases r with
  | ok a k' => exact fun ρ2 H2 e2 rh => k _ _ _ _ e2 rh (h ρ2 H2 e2 rh)
  | exc c fs k => exact h
  | bad => exact h
theorem Out.bind {r : R α} {f : α → AH → R β} {Q : β → AH → List Addr → Hp → Prop} (h : Out G W ρ H (r.bind f) Q) : Out G W ρ H r (fun a h' ρ' H' => Out G W ρ' H' (f a h') Q) := by
  cases r with
  | ok a k => exact fun ρ2 H2 e2 rh => Out.later e2 h
  | exc c fs k => exact h
  | bad => exact h
/-- a result without exceptions -/
theorem Out.of {r : O α} {Q : α → AH → List Addr → Hp → Prop} (h : Out G W ρ H (.of r) Q) : ∃ a h', r = some (a, h') ∧ ∀ ρ' H', Ext G ρ H ρ' H' → RH G ρ' h' H' → Q a h' ρ' H' := by
  cases r with
  | none => exact h.elim
  | some p => exact ⟨p.1, p.2, rfl, h⟩
end

/-! ### defs -/
section
variable (P : Program) (w : World) (K : PySem.W.Frag) (mg : Str → Option Value) (base : Heap)
structure FnG (k : Nat) (f : Addr) (fd : FuncData) (ps : List Str) (sp : Sp) : Prop where
  len : ∀ vs H Q E, sp vs H Q E → vs.length = ps.length
  run : ∀ (A : Around) (outer : List Env) (s : Shared) (H : Hp) (args : Args) (us : List Value) (vs : List V) (Q : VK) (E : XK), A.guards = some [] → Room k A → Env0 P w K mg base A outer s H → BindsTo s fd args (ps.zip us) → Vals vs us → sp vs H Q E →
    codeAny (model P w) A (.call (.ref f) args) (CR (L2.CX P w) outer P w H s Q E) s
end
theorem guards_make {A : Around} (g : A.guards = some []) (C : Addr) (us : List Value) (kw : List (Str × Value)) : (A.under (.builtin "type.__call__" ⟨.ref C :: us, kw⟩)).guards = some [] := by
  have e : Code.guards (.builtin "type.__call__" ⟨.ref C :: us, kw⟩) = [] := by simp [Code.guards, Code.isGuard, guardIds]
  unfold Around.under
  dsimp only
  rw [e, g]; rfl
section
variable {P : Program} {w : World} {K : PySem.W.Frag} {mg : Str → Option Value} {base : Heap}
theorem FnG.mono {j k : Nat} {f : Addr} {fd : FuncData} {ps : List Str} {sp : Sp} (F : FnG P w K mg base j f fd ps sp) (h : j ≤ k) : FnG P w K mg base k f fd ps sp :=
  ⟨F.len, fun A outer s H args us vs Q E g hr => F.run A outer s H args us vs Q E g (hr.mono h)⟩
theorem fn_ofG {k : Nat} {f : Addr} {name qual : Str} {params : Arguments} {body : List Stmt} {scope : Scope} {dV kV doc pm cdv ct oc : Value} {an od : Option Addr}
    {osl : Array (Option Value)} {N ps : List Str} {sp : Sp} (lk : K.lookup f = some ⟨oc, od, .func (PySem.W.fnOf name qual params body scope dV kV doc pm an cdv ct), osl⟩) (hcd : PySem.W.codeIn K cdv qual = true) (S : FnScope N ps scope)
    (len : ∀ vs H Q E, sp vs H Q E → vs.length = ps.length)
    (hbody : ∀ (A : Around) (outer : List Env) (s : Shared) (H : Hp) (vs : List V) (Q : VK) (E : XK), A.guards = some [] → Room k (A.deeper (envOfC qual scope s.heap.objs.size f cdv)) → sp vs H Q E →
      ∃ t, PSs (cxOf (L2.CX P w) P w K mg base N qual scope f cdv A outer s H E) body t ∧ t { nx := fun _ H' => Q .non H', rt := Q } (start N vs) H) :
    FnG P w K mg base (k + 1) f (PySem.W.fnOf name qual params body scope dV kV doc pm an cdv ct) ps sp := by
  refine ⟨len, fun A outer s H args us vs Q E g hr e0 hb r hsp => ?_⟩
  have hl := len _ _ _ _ hsp
  have KX : K.In s.heap := e0.mod.kin.keeps fun b o e => (e0.bs b o e).1
  have lim : s.heap.NoLimit := e0.mod.nolimit.keeps fun b o e => (e0.bs b o e).1
  have hkind : ∀ y ∈ ps.zip us, scope.names.lookup y.1 = some .local ∨ (scope.names.lookup y.1 = some .cell ∧ ((cellsFrom (s.heap.objs.size + 1) scope.names []).lookup y.1).isSome = true) := fun ⟨n, v⟩ hy => by
    rcases S.par n (List.of_mem_zip hy).1 with q | q
    · exact .inl q
    · exact .inr ⟨q, PySem.W.cellsFrom_some _ _ _ (.inl q)⟩
  refine codeAny_call_function hr.depth (KX _ _ lk) rfl S.co S.gen rfl (PySem.W.codeRec_of KX hcd) (hb _ _ _ _ ?_)
  refine wpAny_newFunctionEnv_cells S.kind hkind fun env he s1 x => ?_
  subst he
  refine ⟨lim.keeps x.toInCall.keep, codeAny_func ?_⟩
  obtain ⟨t, ht, hq⟩ := hbody A outer s H vs Q E g (hr.deeper _) hsp
  have I : Inv (cxOf (L2.CX P w) P w K mg base N qual scope f cdv A outer s H E) [] (start N vs) H s1 := inv_start S hr.hd e0 hl r x
  refine wpAny_mono (ht.run [] s1 (start N vs) H _ I hq) (fun fl s' hs => ?_) fun e s' hs => hs
  have fin : ∀ {σ' : L2.St} {H' : Hp} {v : V} {u : Value}, Inv (cxOf (L2.CX P w) P w K mg base N qual scope f cdv A outer s H E) [] σ' H' s' → RelV v u → Q v H' → CE outer P w H s Q u s' :=
    fun {σ' H' v u} J rv q => ⟨v, H', J.os, J.bare, J.base, J.hok, rv, q⟩
  cases fl with
  | ret u =>
    obtain ⟨v, σ', H', J, rv, q⟩ := hs
    exact fin J rv q
  | next =>
    obtain ⟨σ', H', J, q⟩ := hs
    exact fin (v := V.non) (u := Value.none) J rfl q
  | brk =>
    obtain ⟨_, _, _, q⟩ := hs
    exact False.elim q
  | cont =>
    obtain ⟨_, _, _, q⟩ := hs
    exact False.elim q
variable {X : Cx} {k : Nat} {f C : Addr} {fd : FuncData} {ps : List Str} {sp : Sp}
/-- the callee runs -/
theorem run_G {pins : List (Addr × Obj)} {σ : L2.St} {H : Hp} {s : Shared} {Q : VK} {us : List Value} {kw : List (Str × Value)} {vs : List V} {bs : List Value} {W : WX} (F : FnG X.prog X.w X.K X.mg X.base k f fd ps sp) (hg : X.A.guards = some []) (hr : Room k X.A) (tk : Takes X W)
    (I : Inv X pins σ H s) (b : BindsTo s fd ⟨us, kw⟩ (ps.zip bs)) (r : Vals vs bs) (h : sp vs H Q (WE W σ)) : wpAny (model X.prog X.w) X.A (call (.ref f) us kw) (EP X pins σ Q) X.xe s := by
  refine wpAny_call (codeAny_mono (F.run X.A X.stack s H ⟨us, kw⟩ bs vs Q (WE W σ) hg hr I.env0 b r h) fun r s' hq => ?_)
  cases r with
  | error e => exact passAt tk σ pins H s e s' I hq
  | ok fl =>
    cases fl with
    | ret u => exact I.after hq
    | next => exact False.elim hq
    | brk => exact False.elim hq
    | cont => exact False.elim hq
/-- a new instance and its dict, then __init__ -/
theorem run_mkG {pins : List (Addr × Obj)} {σ : L2.St} {H : Hp} {s : Shared} {Q : VK} {us : List Value} {kw : List (Str × Value)} {vs : List V} {bs : List Value} {W : WX} (M : Mk X.K C f) (F : FnG X.prog X.w X.K X.mg X.base k f fd ps sp) (hg : X.A.guards = some []) (hr : Room (k + 1) X.A) (tk : Takes X W)
    (I : Inv X pins σ H s) (b : ∀ (s : Shared) (x : Value), X.K.In s.heap → BindsTo s fd ⟨x :: us, kw⟩ (ps.zip (x :: bs))) (r : Vals vs bs)
    (h : ∀ x dx, H x = none → H dx = none → dx ≠ x → sp (.ref x :: vs) (upd (upd H dx (.own x)) x (.ins C dx [])) (fun v H2 => v = .non ∧ Q (.ref x) H2) (WE W σ)) :
    wpAny (model X.prog X.w) X.A (call (.ref C) us kw) (EP X pins σ Q) X.xe s := by
  have hq := h (s.heap.objs.size + 1) s.heap.objs.size (I.hok.fresh (Nat.le_succ _)) (I.hok.fresh (Nat.le_refl _)) (Nat.ne_of_lt (Nat.lt_succ_self _))
  have I2 := Inv.made (C := C) I
  have r2 : Vals (V.ref (s.heap.objs.size + 1) :: vs) (Value.ref (s.heap.objs.size + 1) :: bs) := .cons rfl r
  refine wpAny_call (make_map (f := f) I.kIn M.makes M.init (beq_iff_eq.mp M.fn) (codeAny_mono (F.run _ X.stack _ _ ⟨Value.ref (s.heap.objs.size + 1) :: us, kw⟩ (Value.ref (s.heap.objs.size + 1) :: bs) _ _ (WE W σ) (guards_make hg _ _ _) (hr.make C us kw)
    (I2.env0.make C us kw) (b _ _ I2.kIn) r2 hq) fun r s' hq' => ?_))
  cases r with
  | error e => exact passAt tk σ pins _ _ e s' I2 hq'
  | ok fl =>
    cases fl with
    | ret u =>
      obtain ⟨v, H', I3, rv, ev, q3⟩ := I2.after hq'
      subst ev
      exact ⟨rv, ⟨V.ref (s.heap.objs.size + 1), H', I3, rfl, q3⟩⟩
    | next => exact False.elim hq'
    | brk => exact False.elim hq'
    | cont => exact False.elim hq'
end
end Mini
set_option autoImplicit false
set_option maxHeartbeats 4000000
/-! Mini, fourth part: operations on values. -/
namespace Mini
open PySem PySem.Spec L2
open PyProof.Rows hiding St

/-- the program: the ground, its defs and classes by number, their names, which stand at the top, the names of fields -/
structure Top where
  G : Gr
  Pr : Prog
  nm : Nat → Str
  flds : List Str
/-- the names of built-ins, which the program leaves as they are -/
def bnames : List Str := ["len", "abs", "min", "max", "repr", "isinstance", "tuple", "list", "int", "all", "any", "range", "bool", "str", "dict", "sorted", "sum", "zip", "enumerate", "ValueError"]
def tdV (G : Gr) : TD → Value
  | .b T => .type T
  | .c g => .ref (G.ad g)
  | .x g => .ref (G.ad g)
/-- what the written part says of a class -/
structure ClsOk (T : Top) (g : Nat) (c : MCls) : Prop where
  mkr : Mk T.G.K (T.G.ad g) (T.G.ad c.init)
  cls : Cls T.G.K (T.G.ad g)
  no : ∀ f ∈ T.flds, NoAttr T.G.K (T.G.ad g) f
  ca : PySem.W.findIn T.G.K (.ref (T.G.ad g)) "__class__" = some (some (.builtin "object.__class__"))
  mo : PySem.W.mroIn T.G.K (T.G.ad g) (.type "object") = some true
  eq : ∀ e, c.eq = some e → PySem.W.findIn T.G.K (.ref (T.G.ad g)) "__eq__" = some (some (.ref (T.G.ad e))) ∧ PySem.W.isFn T.G.K (.ref (T.G.ad e)) = true
  ne : ∀ e, c.ne = some e → PySem.W.findIn T.G.K (.ref (T.G.ad g)) "__ne__" = some (some (.ref (T.G.ad e))) ∧ PySem.W.isFn T.G.K (.ref (T.G.ad e)) = true
  nf : ∀ t, (isTD T.Pr t t).isSome = true → PySem.W.notFirst T.G.K (T.G.ad g) (tdV T.G t) = true
/-- what the written part says of an exception class -/
structure ExcOk (T : Top) (g : Nat) (e : MExc) : Prop where
  oex : OexC T.G.K (T.G.ad g)
  xf : XfC T.G.K (T.G.ad g)
  no : ∀ f ∈ T.flds, PySem.W.findIn T.G.K (.ref (T.G.ad g)) f = some none
  ca : PySem.W.findIn T.G.K (.ref (T.G.ad g)) "__class__" = some (some (.builtin "object.__class__"))
  mo : PySem.W.mroIn T.G.K (T.G.ad g) (.type "object") = some true
  init : ∀ i, e.init = some i → PySem.W.findIn T.G.K (.ref (T.G.ad g)) "__init__" = some (some (.ref (T.G.ad i))) ∧ PySem.W.typeIn T.G.K (.ref (T.G.ad i)) = some (.type "function")
  vin : e.init = none → e.base = none → PySem.W.findCls T.G.K (.ref (T.G.ad g)) (.type "type") "__init__" = some (.val (.builtin "ValueError.__init__")) ∧ PySem.W.readsIn T.G.K (T.G.ad g) (.type "type") = true ∧
    PySem.W.specialIn T.G.K (.ref (T.G.ad g)) "__getattribute__" = some (some (.builtin "type.__getattribute__"))
  exm : ∀ k b, isTD T.Pr (.x g) (.x k) = some b → PySem.W.exmOne T.G.K (.ref (T.G.ad g)) (.ref (T.G.ad k)) = some b
structure TopOk (T : Top) (mg : Str → Option Value) : Prop where
  fn : ∀ g d, T.Pr g = some (.def_ d) → mg (T.nm g) = some (.ref (T.G.ad g)) → PySem.W.keepIn T.G.K (.ref (T.G.ad g)) = true
  cl : ∀ g c, T.Pr g = some (.cls c) → ClsOk T g c
  cl2 : ∀ g c, T.Pr g = some (.cls c) → ∃ d p ps, T.Pr c.init = some (.def_ d) ∧ d.params = p :: ps
  ex : ∀ g e, T.Pr g = some (.exc e) → ExcOk T g e
  ex2 : ∀ g e i, T.Pr g = some (.exc e) → e.init = some i → ∃ d p ps, T.Pr i = some (.def_ d) ∧ d.params = p :: ps
  np : ∀ g d, T.Pr g = some (.def_ d) → d.params.length = d.np
  cl3 : ∀ g c e, T.Pr g = some (.cls c) → (c.eq = some e ∨ c.ne = some e) → ∃ d, T.Pr e = some (.def_ d) ∧ d.np = 2
  val : ∀ g v, T.Pr g = some (.val v) → ∃ u vv, mg (T.nm g) = some u ∧ RelV vv u ∧ ∀ ρ H, RV T.G ρ H v vv
  un : ∀ x ∈ bnames, mg x = none
  kit : ∀ t u b, isTD T.Pr t u = some b → PySem.W.kitOne T.G.K (tdV T.G t) (tdV T.G u) = some b
  sys : ∃ (o : Obj) (es : Array DictEntry) (n : Nat), T.G.K.lookup sysModules = some o ∧ o.data = .dict es n
  kn : PySem.W.specialIn T.G.K (.builtin "object.__class__") "__get__" = some (some (.builtin "getset_descriptor.__get__"))
  kt : PySem.W.takesIn T.G.K (.builtin "object.__class__") = some true
/-- what is promised of a run of a def -/
def spC (G : Gr) (cal : Nat → List AV → AH → R AV) (g : Nat) (np : Nat) : Sp := fun vs H Q E => vs.length = np ∧
  ∃ ρ xs h, RVs G ρ H xs vs ∧ RH G ρ h H ∧ Out G E ρ H (cal g xs h) fun x _ ρ' H' => ∀ v, RV G ρ' H' x v → Q v H'
/-- the defs keep what their runs tell -/
structure Tab (T : Top) (cal : Nat → List AV → AH → R AV) (lvl : Nat) (P : Program) (w : World) (mg : Str → Option Value) (base : Heap) : Prop where
  fn : ∀ g d, T.Pr g = some (.def_ d) → ∃ fd, FnG P w T.G.K mg base lvl (T.G.ad g) fd d.params (spC T.G cal g d.np) ∧
    ∀ (us : List Value) (ks : List Str) (ws bs : List Value), bindK d.params us ks ws = some bs → kwOk d.params us.length ks = true → bindArgs fd ⟨us, ks.zip ws⟩ = pure (d.params.zip bs)
/-- a context in which bodies are walked -/
structure Rdy (T : Top) (cal : Nat → List AV → AH → R AV) (lvl : Nat) (X : Cx) (W : WX) : Prop where
  calm : X.calm = true
  nd : X.N.Nodup
  gd : X.A.guards = some []
  room : Room (lvl + 1) X.A
  tk : Takes X W
  k : X.K = T.G.K
  top : TopOk T X.mg
  tab : Tab T cal lvl X.prog X.w X.mg X.base

section
variable {T : Top} {cal : Nat → List AV → AH → R AV} {lvl : Nat} {X : Cx} {W : WX} {G : Gr}
theorem bindK_nil {α : Type} {ps : List Str} {vs : List α} (h : vs.length = ps.length) : bindK ps vs [] [] = some vs := by
  unfold bindK
  rw [if_pos ⟨by simpa using h, rfl⟩, List.drop_of_length_le (by omega)]
  simp [optAll]
theorem Rdy.hu (r : Rdy T cal lvl X W) : X.A.units + 64 < cLine := r.room.units

/-! ### operations -/
/-- a two-place operation that is told by f -/
def r2 (G : Gr) (f : AV → AV → AH → O AV) : R2 := fun x y H Q => ∃ ρ h xa ya z h', RV G ρ H xa x ∧ RV G ρ H ya y ∧ RH G ρ h H ∧ f xa ya h = some (z, h') ∧
  ∀ ρ' H', Ext G ρ H ρ' H' → RH G ρ' h' H' → ∀ v, RV G ρ' H' z v → Q v H'
def opOf : Bop → Operator
  | .add => .Add | .sub => .Sub | .mul => .Mult | .fdiv => .FloorDiv | .mod => .Mod | .pow => .Pow | .shl => .LShift | .shr => .RShift | .band => .BitAnd | .bor => .BitOr | .bxor => .BitXor
theorem op_fdivNW {X : Cx} : OpR X (binaryOp .FloorDiv) (rI (fun _ j => j ≠ 0 ∧ j.natAbs.log2 < 9000) fun i j => .int (i.fdiv j)) := opI fun _ _ _ _ _ _ _ hc q => floordiv_int hc.1 q (.inl (PyProof.noPylong_of_log2 hc.2))
theorem op_bopI {X : Cx} (o : Bop) : OpR X (binaryOp (opOf o)) (fun x y H Q => ∃ i j k, x = .int i ∧ y = .int j ∧ bopI o i j = some k ∧ Q (.int k) H) := by
  intro pins s σ H x y v u Q I rx ry h
  obtain ⟨i, j, k, rfl, rfl, e, q⟩ := h
  cases o with
  | add => cases e; exact op_add pins s σ H _ _ v u Q I rx ry ⟨i, j, rfl, rfl, q⟩
  | sub => cases e; exact op_sub pins s σ H _ _ v u Q I rx ry ⟨i, j, rfl, rfl, q⟩
  | mul =>
    dsimp only [bopI] at e
    split at e
    · rename_i c
      cases e
      have c' := of_decide_eq_true (show decide _ = true from c)
      exact op_mulW pins s σ H _ _ v u Q I rx ry ⟨i, j, rfl, rfl, (by unfold CMulW; omega), q⟩
    · cases e
  | fdiv =>
    dsimp only [bopI] at e
    split at e
    · rename_i c
      cases e
      simp only [Bool.and_eq_true, decide_eq_true_eq] at c
      exact op_fdivNW pins s σ H _ _ v u Q I rx ry ⟨i, j, rfl, rfl, c, q⟩
    · cases e
  | mod =>
    dsimp only [bopI] at e
    split at e
    · rename_i c
      cases e
      simp only [decide_eq_true_eq] at c
      exact op_modN pins s σ H _ _ v u Q I rx ry ⟨i, j, rfl, rfl, c, q⟩
    · cases e
  | pow =>
    dsimp only [bopI] at e
    split at e
    · rename_i c
      cases e
      simp only [Bool.and_eq_true, decide_eq_true_eq] at c
      exact op_pow pins s σ H _ _ v u Q I rx ry ⟨i, j, rfl, rfl, ⟨c.1.1, c.1.2, c.2⟩, q⟩
    · cases e
  | shl =>
    dsimp only [bopI] at e
    split at e
    · rename_i c
      cases e
      simp only [Bool.and_eq_true, decide_eq_true_eq] at c
      exact op_shl pins s σ H _ _ v u Q I rx ry ⟨i, j, rfl, rfl, ⟨c.1.1, c.1.2, c.2⟩, q⟩
    · cases e
  | shr =>
    dsimp only [bopI] at e
    split at e
    · rename_i c
      cases e
      simp only [decide_eq_true_eq] at c
      exact op_shr pins s σ H _ _ v u Q I rx ry ⟨i, j, rfl, rfl, c, q⟩
    · cases e
  | band => cases e; exact op_and pins s σ H _ _ v u Q I rx ry ⟨i, j, rfl, rfl, q⟩
  | bor => cases e; exact op_or pins s σ H _ _ v u Q I rx ry ⟨i, j, rfl, rfl, q⟩
  | bxor => cases e; exact op_xor pins s σ H _ _ v u Q I rx ry ⟨i, j, rfl, rfl, q⟩
/-- the list at a place of the store -/
theorem RH.lst {ρ : List Addr} {h : AH} {H : Hp} (r : RH G ρ h H) {k : Nat} {xs : List AV} {a : Addr} (e : h[k]? = some (.lst xs)) (ea : ρ[k]? = some a) : ∃ vs, H a = some (.lst vs) ∧ RVs G ρ H xs vs := by
  cases r.at' k _ a e ea with
  | lst z rr => exact ⟨_, z, rr⟩
theorem RH.seq {ρ : List Addr} {h : AH} {H : Hp} (r : RH G ρ h H) {k : Nat} {xs : List AV} {a : Addr} (e : seqOf h (.ref k) = some xs) (ea : ρ[k]? = some a) : ∃ vs, SqL G.K H a vs ∧ RVs G ρ H xs vs := by
  unfold seqOf at e
  dsimp only at e
  split at e
  · rename_i ys hk
    cases e
    obtain ⟨vs, z, rr⟩ := r.lst hk ea
    exact ⟨vs, .of z, rr⟩
  · rename_i ys hk
    cases e
    cases r.at' k _ a hk ea with
    | frz z rr => exact ⟨_, .inl (.inr ⟨_, z⟩), rr⟩
    | kls z rr => exact ⟨_, .inr z, rr⟩
  · cases e
/-- the items of a value that has some -/
theorem RV.items {ρ : List Addr} {h : AH} {H : Hp} (rh : RH G ρ h H) {x : AV} {v : V} {xs : List AV} (r : RV G ρ H x v) (e : seqOf h x = some xs) : ∃ a vs, v = .ref a ∧ (SqL G.K H a vs ∨ SqT G.K H a vs) ∧ RVs G ρ H xs vs := by
  cases r with
  | tup h r =>
    cases e
    exact ⟨_, _, rfl, .inr h.sq, r⟩
  | ref ea =>
    obtain ⟨vs, z, rr⟩ := rh.seq e ea
    exact ⟨_, vs, rfl, .inl z, rr⟩
  | _ => cases e
theorem RV.int_inv {ρ : List Addr} {H : Hp} {i : Int} {v : V} (r : RV G ρ H (.int i) v) : v = .int i := by cases r; rfl
theorem RV.str_inv {ρ : List Addr} {H : Hp} {i : Str} {v : V} (r : RV G ρ H (.str i) v) : v = .str i := by cases r; rfl
theorem RV.bl_inv {ρ : List Addr} {H : Hp} {i : Bool} {v : V} (r : RV G ρ H (.bl i) v) : v = .bl i := by cases r; rfl
theorem RV.ref_inv {ρ : List Addr} {H : Hp} {k : Nat} {v : V} (r : RV G ρ H (.ref k) v) : ∃ a, v = .ref a ∧ ρ[k]? = some a := by cases r with | ref h => exact ⟨_, rfl, h⟩
theorem op_bop {X : Cx} (hk : X.K = G.K) (o : Bop) : OpR X (binaryOp (opOf o)) (r2 G (bopA o)) := by
  intro pins s σ H x y v u Q I rx ry h
  obtain ⟨ρ, h, xa, ya, z, h', r1, r2, rh, e, q⟩ := h
  unfold bopA at e
  split at e
  · rename_i i j
    obtain rfl := r1.int_inv
    obtain rfl := r2.int_inv
    cases ek : bopI o i j with
    | none => rw [ek] at e; cases e
    | some k =>
      rw [ek] at e
      cases e
      exact op_bopI o pins s σ H _ _ v u Q I rx ry ⟨i, j, k, rfl, rfl, ek, q ρ H .refl rh _ (.int k)⟩
  · rename_i a b
    split at e
    · rename_i xs ys ha hb
      split at e
      · rename_i hl
        cases e
        obtain ⟨pa, rfl, ea⟩ := r1.ref_inv
        obtain ⟨pb, rfl, eb⟩ := r2.ref_inv
        obtain ⟨vs, za, ra⟩ := rh.lst ha ea
        obtain ⟨ws, zb, rb⟩ := rh.lst hb eb
        refine op_cat pins s σ H _ _ v u Q I rx ry ⟨pa, pb, vs, ws, rfl, rfl, za, zb, by rw [← ra.length, ← rb.length]; exact hl, fun p hp => ?_⟩
        have ex : Ext G ρ H (ρ ++ [p]) (upd H p (.lst (vs ++ ws))) := Ext.new hp [p]
        refine q _ _ ex (rh.new hp rfl (.lst upd_same ((ra.append rb).ext ex))) _ (.ref ?_)
        rw [List.getElem?_append_right (by rw [rh.len]; exact Nat.le_refl _), rh.len]
        simp
      · cases e
    · cases e
  · cases e
end
end Mini
set_option autoImplicit false
set_option maxHeartbeats 4000000
/-! Mini, fifth part: comparisons, data, built-ins by values. -/
namespace Mini
open PySem PySem.Spec L2
open PyProof.Rows hiding St
section
variable {T : Top} {cal : Nat → List AV → AH → R AV} {lvl : Nat} {X : Cx} {W : WX} {G : Gr}

theorem dpAll {ρ : List Addr} {H : Hp} {f : AV → Option PyData} (ih : ∀ x v d, RV G ρ H x v → f x = some d → Dp G.K H v d) : ∀ {xs : List AV} {vs : List V} {ds : List PyData}, RVs G ρ H xs vs → optAll f xs = some ds → DpAll G.K H vs ds
  | _, _, ds, .nil, e => by cases e; exact .nil
  | x :: xs, v :: vs, ds, .cons r t, e => by
    unfold optAll at e
    split at e
    · rename_i d ds' h1 h2
      cases e
      exact .cons (ih _ _ _ r h1) (dpAll ih t h2)
    · cases e
theorem toPy_dp {ρ : List Addr} {h : AH} {H : Hp} (rh : RH G ρ h H) : ∀ (n : Nat) (x : AV) (v : V) (d : PyData), RV G ρ H x v → toPy h n x = some d → Dp G.K H v d := by
  intro n
  induction n with
  | zero =>
    intro x v d r e
    cases r <;> first | (cases e; constructor) | cases e
  | succ n ih =>
    intro x v d r e
    cases r with
    | non => cases e; constructor
    | bl b => cases e; constructor
    | int b => cases e; constructor
    | str b => cases e; constructor
    | ty b => cases e
    | glo b => cases e
    | tup hs rr =>
      rename_i a vs xs
      dsimp only [toPy] at e
      cases q : optAll (toPy h n) xs with
      | none => rw [q] at e; cases e
      | some ds => rw [q] at e; cases e; exact .tup hs.sq (dpAll ih rr q)
    | ref ea =>
      rename_i k a
      dsimp only [toPy] at e
      have go : ∀ xs, seqOf h (.ref k) = some xs → (optAll (toPy h n) xs).map PyData.list = some d → Dp G.K H (.ref a) d := fun xs hs e => by
        obtain ⟨vs, z, rr⟩ := rh.seq hs ea
        cases q : optAll (toPy h n) xs with
        | none => rw [q] at e; cases e
        | some ds => rw [q] at e; cases e; exact .lst z (dpAll ih rr q)
      split at e
      · rename_i xs hk
        exact go xs (by unfold seqOf; dsimp only; rw [hk]) e
      · rename_i xs hk
        exact go xs (by unfold seqOf; dsimp only; rw [hk]) e
      · cases e
def copOf : Cop → CmpOp
  | .eq => .Eq | .ne => .NotEq | .lt => .Lt | .le => .LtE | .gt => .Gt | .ge => .GtE | .is => .Is | .isnot => .IsNot | .in_ => .In | .notin => .NotIn
theorem op_cmpI {X : Cx} (o : Cop) : OpR X (compareOp (copOf o)) (fun x y H Q => ∃ i j k, x = .int i ∧ y = .int j ∧ cmpI o i j = some k ∧ Q (.bl k) H) := by
  intro pins s σ H x y v u Q I rx ry h
  obtain ⟨i, j, k, rfl, rfl, e, q⟩ := h
  cases o with
  | eq => cases e; exact op_eq pins s σ H _ _ v u Q I rx ry ⟨rfl, by rw [show decide (V.int i = V.int j) = decide (i = j) by simp]; exact q⟩
  | ne => cases e; exact op_ne pins s σ H _ _ v u Q I rx ry ⟨rfl, by rw [show decide (V.int i = V.int j) = decide (i = j) by simp]; exact q⟩
  | lt => cases e; exact op_lt pins s σ H _ _ v u Q I rx ry ⟨i, j, rfl, rfl, q⟩
  | le => cases e; exact op_le pins s σ H _ _ v u Q I rx ry ⟨i, j, rfl, rfl, q⟩
  | gt => cases e; exact op_gt pins s σ H _ _ v u Q I rx ry ⟨i, j, rfl, rfl, q⟩
  | ge => cases e; exact op_ge pins s σ H _ _ v u Q I rx ry ⟨i, j, rfl, rfl, q⟩
  | is => cases e
  | isnot => cases e
  | in_ => cases e
  | notin => cases e
theorem RV.isNon {ρ : List Addr} {H : Hp} {x : AV} {v : V} (r : RV G ρ H x v) : decide (v = .non) = isNon x := by cases r <;> rfl
theorem eqPy_dp {ρ : List Addr} {h : AH} {H : Hp} (rh : RH G ρ h H) {x y : AV} {v u : V} {b : Bool} (rx : RV G ρ H x v) (ry : RV G ρ H y u) (e : eqPy h x y = some b) :
    ∃ d d', Dp G.K H v d ∧ Dp G.K H u d' ∧ SeqAt.shaped d = true ∧ SeqAt.shaped d' = true ∧ PyData.eqv d d' = b := by
  unfold eqPy at e
  split at e
  · rename_i d d' h1 h2
    split at e
    · rename_i c
      cases e
      obtain ⟨c1, c2⟩ := Bool.and_eq_true_iff.mp c
      exact ⟨d, d', toPy_dp rh _ _ _ _ rx h1, toPy_dp rh _ _ _ _ ry h2, c1, c2, rfl⟩
    · cases e
  · cases e
/-! ### the same -/
theorem same_items {ρ : List Addr} {H : Hp} {F : AV → AV → Bool} {P : Value → Value → Prop} (ih : ∀ (x y : AV) (v u : V) (v' u' : Value), F x y = true → RV G ρ H x v → RV G ρ H y u → RelV v v' → RelV u u' → P v' u') :
    ∀ {xs ys : List AV} {vs us : List V} {its its2 : List Value}, all2 F xs ys = true → RVs G ρ H xs vs → RVs G ρ H ys us → Vals vs its → Vals us its2 → its.length = its2.length ∧ ∀ j (h1 : j < its.length) (h2 : j < its2.length), P its[j] its2[j]
  | [], [], _, _, _, _, _, .nil, .nil, .nil, .nil => ⟨rfl, fun j h1 => absurd h1 (Nat.not_lt_zero j)⟩
  | [], _ :: _, _, _, _, _, h, _, _, _, _ => by cases h
  | _ :: _, [], _, _, _, _, h, _, _, _, _ => by cases h
  | x :: xs, y :: ys, _, _, _, _, h, .cons r t, .cons r' t', .cons q1 q2, .cons w1 w2 => by
    obtain ⟨h1, h2⟩ := Bool.and_eq_true_iff.mp h
    obtain ⟨l1, l2⟩ := same_items ih h2 t t' q2 w2
    refine ⟨by simp [l1], fun j a1 a2 => ?_⟩
    cases j with
    | zero => exact ih _ _ _ _ _ _ h1 r r' q1 w1
    | succ j => exact l2 j (Nat.lt_of_succ_lt_succ a1) (Nat.lt_of_succ_lt_succ a2)
theorem same_run {pins : List (Addr × Obj)} {σ : L2.St} {H : Hp} {s : Shared} {ρ : List Addr} (hk : X.K = G.K) (I : Inv X pins σ H s) : ∀ (n : Nat) (A : Around) (x y : AV) (v u : V) (v' u' : Value), A.units + n < cLine → sameA n x y = true → RV G ρ H x v → RV G ρ H y u → RelV v v' → RelV u u' → SeqAt.EqAt A s v' u' true := by
  intro n
  induction n with
  | zero => intro A x y v u v' u' _ h; cases x <;> cases y <;> cases h
  | succ n ih =>
    intro A x y v u v' u' hu h rx ry r1 r2
    cases rx with
    | non =>
      cases y with
      | non => cases ry; exact eqAt_same r1 r2 rfl
      | _ => cases h
    | bl b =>
      cases y <;> first | cases h | skip
      rename_i c
      have e : b = c := of_decide_eq_true h
      subst e
      cases ry
      exact eqAt_same r1 r2 rfl
    | int b =>
      cases y <;> first | cases h | skip
      rename_i c
      have e : b = c := of_decide_eq_true h
      subst e
      cases ry
      exact eqAt_same r1 r2 rfl
    | str b =>
      cases y <;> first | cases h | skip
      rename_i c
      have e : b = c := of_decide_eq_true h
      subst e
      cases ry
      exact eqAt_same r1 r2 rfl
    | ty b => cases y <;> cases h
    | glo b => cases y <;> cases h
    | ref ea =>
      rename_i k a
      cases y <;> first | cases h | skip
      rename_i c
      have e : k = c := of_decide_eq_true h
      subst e
      cases ry with
      | ref eb =>
        rw [ea] at eb
        cases eb
        cases r1
        cases r2
        exact SeqAt.EqAt.same _
    | tup ht rr =>
      rename_i a vs xs
      cases y <;> first | cases h | skip
      rename_i ys
      cases ry with
      | tup ht2 rr2 =>
        rename_i b us
        cases r1
        cases r2
        by_cases e : a = b
        · subst e; exact SeqAt.EqAt.same _
        · have h : all2 (sameA n) xs ys = true := h
          obtain ⟨its, rv, p, hz⟩ := I.tuple (by rw [hk]; exact ht.sq)
          obtain ⟨its2, rv2, p2, hz2⟩ := I.tuple (by rw [hk]; exact ht2.sq)
          refine SeqAt.EqAt.of_refs e ?_
          have items := same_items (P := fun p q => SeqAt.EqAt A.in1 s p q true) (fun x y v u v' u' h r r' q w => ih A.in1 x y v u v' u' (by show A.units + 1 + n < cLine; omega) h r r' q w) h rr rr2 rv rv2
          have R := SeqAt.RcAt.tuples (e := fun _ => true) (show s.heap.IsTuple a its.toArray from p) (show s.heap.IsTuple b its2.toArray from p2) (by omega : A.units < cLine) (fun j h1 h2 => by
            have := items.2 j (by simpa using h1) (by simpa using h2)
            simpa using this)
          have e2 : ((List.range (min its.toArray.size its2.toArray.size)).all (fun _ => true) && its.toArray.size == its2.toArray.size) = true := by
            rw [List.size_toArray, List.size_toArray, items.1]
            simp
          rw [e2] at R
          exact R
theorem RD.dvals {ρ : List Addr} {H : Hp} : ∀ {kvs : List (Str × AV)} {ks : List (L2.Key × V)}, RD G ρ H kvs ks → nodupB (kvs.map (·.1)) = true → kvs.all (fun q => noTy q.2) = true → ∀ p ∈ ks, L2.valV ks p.1 = some p.2 ∧ ((flatB p.2 = true) ∨ ∃ a, p.2 = .ref a) ∧ ∃ q ∈ kvs, p.1 = Sum.inr q.1
  | _, _, .nil, _, _, _, h => by cases h
  | (f, x) :: kvs, (_, v) :: ks, .cons r t, h, hn, p, hp => by
    have h' : (!(kvs.map (·.1)).contains f && nodupB (kvs.map (·.1))) = true := h
    simp only [Bool.and_eq_true, Bool.not_eq_true'] at h'
    have hn' : (noTy x && kvs.all (fun q => noTy q.2)) = true := hn
    simp only [Bool.and_eq_true] at hn'
    rcases List.mem_cons.mp hp with rfl | hp
    · refine ⟨L2.valV_pos rfl, ?_, ⟨(f, x), List.mem_cons_self, rfl⟩⟩
      cases r with
      | ty n => exact absurd hn'.1 Bool.false_ne_true
      | tup _ _ => exact .inr ⟨_, rfl⟩
      | ref _ => exact .inr ⟨_, rfl⟩
      | glo _ => exact .inr ⟨_, rfl⟩
      | _ => exact .inl rfl
    · obtain ⟨e1, e2, q, hq, e3⟩ := RD.dvals t h'.2 hn'.2 p hp
      refine ⟨?_, e2, q, List.mem_cons_of_mem _ hq, e3⟩
      rw [L2.valV_neg (fun z => ?_)]
      · exact e1
      · have z : (Sum.inr f : L2.Key) = p.1 := z
        rw [e3] at z
        have z : f = q.1 := Sum.inr.inj z
        have : (kvs.map (·.1)).contains f = true := by simp only [List.contains_iff_mem, List.mem_map]; exact ⟨q, hq, z.symm⟩
        rw [h'.1] at this
        cases this
theorem op_same {pins : List (Addr × Obj)} {σ : L2.St} {H : Hp} {s : Shared} {ρ : List Addr} {h : AH} {x y : V} {v u : Value} {xa ya : AV} {Q : VK} (hk : X.K = G.K) (hu : X.A.units + 64 < cLine) (I : Inv X pins σ H s) (rx : RelV x v) (ry : RelV y u)
    (r1 : RV G ρ H xa x) (r2 : RV G ρ H ya y) (rh : RH G ρ h H) (c : topSame h xa ya = true) (q : Q (.bl true) H) : wpAny (model X.prog X.w) X.A (compareOp .Eq v u) (EP X pins σ Q) X.xe s := by
  unfold topSame at c
  split at c
  · rename_i xs ys
    cases r1 with
    | tup ht rr =>
      rename_i a vs
      cases r2 with
      | tup ht2 rr2 =>
        rename_i b us
        cases rx
        cases ry
        obtain ⟨its, rv, p, hz⟩ := I.tuple (by rw [hk]; exact ht.sq)
        obtain ⟨its2, rv2, p2, hz2⟩ := I.tuple (by rw [hk]; exact ht2.sq)
        have items := same_items (P := fun p q => SeqAt.EqAt X.A.in1 s p q true) (fun x y v u v' u' h r r' q w => same_run hk I 20 X.A.in1 x y v u v' u' (by show X.A.units + 1 + 20 < cLine; omega) h r r' q w) c rr rr2 rv rv2
        refine SeqAt.eq_tupleAt (e := fun _ => true) (show s.heap.IsTuple a its.toArray from p) (show s.heap.IsTuple b its2.toArray from p2) (by omega) (fun j h1 h2 => by
            have := items.2 j (by simpa using h1) (by simpa using h2)
            simpa using this) ?_
        have e2 : ((List.range (min its.toArray.size its2.toArray.size)).all (fun _ => true) && its.toArray.size == its2.toArray.size) = true := by
          rw [List.size_toArray, List.size_toArray, items.1]
          simp
        rw [e2]
        exact ⟨.bl true, H, I, rfl, q⟩
  · rename_i a b
    simp only [Bool.and_eq_true, decide_eq_true_eq] at c
    obtain ⟨rfl, c⟩ := c
    split at c
    · rename_i kvs hd
      simp only [Bool.and_eq_true] at c
      obtain ⟨p, rfl, ep⟩ := r1.ref_inv
      obtain ⟨p', rfl, ep'⟩ := r2.ref_inv
      rw [ep] at ep'
      cases ep'
      cases rh.at' _ _ _ hd ep with
      | dct z rd =>
        rename_i ks
        refine op_eqV hu pins s σ H _ _ v u Q I rx ry ⟨1, by decide, .inr ⟨p, p, ks, ks, rfl, rfl, z, z, rfl, fun kv hkv => ?_⟩, q⟩
        obtain ⟨e1, e2, _⟩ := rd.dvals c.1 c.2 kv hkv
        refine ⟨kv.2, e1, ?_⟩
        rcases e2 with e2 | ⟨a, e2⟩
        · exact .inl ⟨rfl, e2⟩
        · exact .inr (.inl ⟨a, e2, e2⟩)
    · cases c
  · cases c
theorem eqStr_inv {x y : AV} {b : Bool} (e : eqStr x y = some b) : ∃ p w, x = .str p ∧ y = .str w ∧ b = decide (p = w) := by
  unfold eqStr at e
  split at e
  · cases e; exact ⟨_, _, rfl, rfl, rfl⟩
  · cases e
/-- comparisons that are no call of an own method -/
def cmpP (o : Cop) (x y : AV) (h : AH) : O AV := match x, y with
  | .int i, .int j => (cmpI o i j).map fun b => (.bl b, h)
  | x, y => match o with
    | .is => if isNon y then some (.bl (isNon x), h) else none
    | .isnot => if isNon y then some (.bl (!isNon x), h) else none
    | .eq => (eqTop h x y).map fun b => (.bl b, h)
    | .ne => (neTop h x y).map fun b => (.bl (!b), h)
    | _ => none
theorem op_cmpP {X : Cx} (hk : X.K = G.K) (hu : X.A.units + 64 < cLine) (o : Cop) : OpR X (compareOp (copOf o)) (r2 G (cmpP o)) := by
  intro pins s σ H x y v u Q I rx ry h
  obtain ⟨ρ, h, xa, ya, z, h', r1, r2, rh, e, q⟩ := h
  unfold cmpP at e
  split at e
  · rename_i i j
    obtain rfl := r1.int_inv
    obtain rfl := r2.int_inv
    cases ek : cmpI o i j with
    | none => rw [ek] at e; cases e
    | some k =>
      rw [ek] at e
      cases e
      exact op_cmpI o pins s σ H _ _ v u Q I rx ry ⟨i, j, k, rfl, rfl, ek, q ρ H .refl rh _ (.bl k)⟩
  · split at e
    · split at e
      · rename_i c
        cases e
        have hy : y = .non := of_decide_eq_true (by rw [r2.isNon]; exact c)
        refine op_isN pins s σ H _ _ v u Q I rx ry ⟨hy, ?_⟩
        rw [r1.isNon]
        exact q ρ H .refl rh _ (.bl _)
      · cases e
    · split at e
      · rename_i c
        cases e
        have hy : y = .non := of_decide_eq_true (by rw [r2.isNon]; exact c)
        refine op_notN pins s σ H _ _ v u Q I rx ry ⟨hy, ?_⟩
        rw [r1.isNon]
        exact q ρ H .refl rh _ (.bl _)
      · cases e
    · unfold eqTop at e
      cases es : eqStr xa ya with
      | some b =>
        rw [es] at e
        cases e
        obtain ⟨p, w, rfl, rfl, rfl⟩ := eqStr_inv es
        obtain rfl := r1.str_inv
        obtain rfl := r2.str_inv
        refine op_eq pins s σ H _ _ v u Q I rx ry ⟨rfl, ?_⟩
        rw [show decide (V.str p = V.str w) = decide (p = w) by simp]
        exact q ρ H .refl rh _ (.bl _)
      | none =>
      rw [es] at e
      dsimp only at e
      by_cases c : topSame h xa ya = true
      · rw [if_pos c] at e
        cases e
        exact op_same hk hu I rx ry r1 r2 rh c (q ρ H .refl rh _ (.bl true))
      · rw [if_neg c] at e
        cases ek : eqPy h xa ya with
        | none => rw [ek] at e; cases e
        | some b =>
        rw [ek] at e
        cases e
        obtain ⟨d, d', h1, h2, s1, s2, ee⟩ := eqPy_dp rh r1 r2 ek
        refine op_eqD hu pins s σ H _ _ v u Q I rx ry ⟨d, d', by rw [hk]; exact h1, by rw [hk]; exact h2, s1, s2, ?_⟩
        rw [ee]
        exact q ρ H .refl rh _ (.bl _)
    · unfold neTop at e
      cases es : eqStr xa ya with
      | some b =>
        rw [es] at e
        cases e
        obtain ⟨p, w, rfl, rfl, rfl⟩ := eqStr_inv es
        obtain rfl := r1.str_inv
        obtain rfl := r2.str_inv
        refine op_ne pins s σ H _ _ v u Q I rx ry ⟨rfl, ?_⟩
        rw [show decide (V.str p = V.str w) = decide (p = w) by simp]
        exact q ρ H .refl rh _ (.bl _)
      | none =>
      rw [es] at e
      dsimp only at e
      cases ek : eqPy h xa ya with
      | none => rw [ek] at e; cases e
      | some b =>
        rw [ek] at e
        cases e
        obtain ⟨d, d', h1, h2, s1, s2, ee⟩ := eqPy_dp rh r1 r2 ek
        refine op_neD hu pins s σ H _ _ v u Q I rx ry ⟨d, d', by rw [hk]; exact h1, by rw [hk]; exact h2, s1, s2, ?_⟩
        rw [ee]
        exact q ρ H .refl rh _ (.bl _)
    · cases e
end
end Mini
set_option autoImplicit false
set_option maxHeartbeats 4000000
/-! Mini, sixth part: own == and !=, isinstance, repr, the other built-ins. -/
namespace Mini
open PySem PySem.Spec L2
open PyProof.Rows hiding St
section
variable {T : Top} {cal : Nat → List AV → AH → R AV} {lvl : Nat} {X : Cx} {W : WX} {G : Gr}

theorem clsAt_some {P : Prog} {g : Nat} {c : MCls} (h : clsAt P g = some c) : P g = some (.cls c) := by
  unfold clsAt at h
  split at h
  · rename_i c' e; cases h; exact e
  · cases h
theorem RH.ins {ρ : List Addr} {h : AH} {H : Hp} (r : RH G ρ h H) {k c : Nat} {xs : List (Str × AV)} {a : Addr} (e : h[k]? = some (.ins c xs)) (ea : ρ[k]? = some a) : ∃ dx vs, H a = some (.ins (G.ad c) dx vs) ∧ RF G ρ H xs vs := by
  cases r.at' k _ a e ea with
  | ins z rr => exact ⟨_, _, z, rr⟩
theorem RH.dct {ρ : List Addr} {h : AH} {H : Hp} (r : RH G ρ h H) {k : Nat} {xs : List (Str × AV)} {a : Addr} (e : h[k]? = some (.dct xs)) (ea : ρ[k]? = some a) : ∃ vs, H a = some (.dK vs) ∧ RD G ρ H xs vs := by
  cases r.at' k _ a e ea with
  | dct z rr => exact ⟨_, z, rr⟩
theorem insOf_some {h : AH} {x : AV} {c : Nat} (e : insOf h x = some c) : ∃ k fs, x = .ref k ∧ h[k]? = some (.ins c fs) := by
  unfold insOf at e
  split at e
  · rename_i k
    split at e
    · rename_i c' fs hk
      cases e
      exact ⟨k, fs, rfl, hk⟩
    · cases e
  · cases e
theorem excAt_some {P : Prog} {g : Nat} {c : MExc} (h : excAt P g = some c) : P g = some (.exc c) := by
  unfold excAt at h
  split at h
  · rename_i c' e; cases h; exact e
  · cases h
theorem isExc_some {P : Prog} {g : Nat} (h : isExc P g = true) : ∃ c, P g = some (.exc c) := by
  obtain ⟨c, hc⟩ := Option.isSome_iff_exists.mp h
  exact ⟨c, excAt_some hc⟩
/-- what stands at an exception that is held -/
theorem RH.exn {ρ : List Addr} {h : AH} {H : Hp} (r : RH G ρ h H) {k c d : Nat} {fs : List (Str × AV)} {a : Addr} (e : h[k]? = some (.exn c (some d))) (ed : h[d]? = some (.xdc fs)) (ea : ρ[k]? = some a) :
    ∃ dx vs, ρ[d]? = some dx ∧ H a = some (exo a (G.ad c) (some dx)) ∧ H dx = some (exd dx vs) ∧ RF G ρ H fs vs := by
  cases r.at' k _ a e ea with
  | exn z rd =>
    cases r.at' d _ _ ed rd with
    | xdc z2 rf => exact ⟨_, _, rd, z, z2, rf⟩
theorem RH.exn0 {ρ : List Addr} {h : AH} {H : Hp} (r : RH G ρ h H) {k c : Nat} {a : Addr} (e : h[k]? = some (.exn c none)) (ea : ρ[k]? = some a) : H a = some (exo a (G.ad c) none) := by
  cases r.at' k _ a e ea with
  | exn0 z => exact z
theorem hdC_cls {K : PySem.W.Frag} {C : Addr} (h : PySem.W.hasDictIn K C = true) : (PySem.W.clsIn K C).isSome = true := by
  obtain ⟨cd, hc, _⟩ := PySem.W.any_some h
  rw [hc]; rfl
/-- what isinstance asks of an exception object -/
theorem exn_kit (top : TopOk T X.mg) (hk : X.K = T.G.K) {pins : List (Addr × Obj)} {σ : L2.St} {s : Shared} {H : Hp} (I : Inv X pins σ H s) {c : Nat} (hc : isExc T.Pr c = true) {a : Addr} {dx : Option Addr} (z : H a = some (exo a (T.G.ad c) dx)) (hd : ∀ b, dx = some b → ∃ vs, H b = some (exd b vs)) :
    ∃ P : Heap → Prop, PySem.W.KitX X.K (.ref a) (.ref (T.G.ad c)) P ∧ P s.heap ∧ Value.ref a ≠ .builtin "__main__.__loader__#opaque" := by
  obtain ⟨e, he⟩ := isExc_some hc
  have O := top.ex c e he
  obtain ⟨t1, ho⟩ := exo_at I.hok z
  have kit : ∀ od, PySem.W.KitX X.K (.ref a) (.ref (T.G.ad c)) (fun h => PySem.W.InstAt h a _ (T.G.ad c) od) := fun od => by
    rw [hk]
    exact PySem.W.kitx_exc (ox := { cls := .ref (T.G.ad c), dict := dx, data := .fields #[.ref t1, .none, .none, .none, .bool false, .none] }) (hdC_cls O.xf.hdC) O.xf.ga O.xf.gg O.xf.exC O.ca top.kn top.kt O.mo
  cases dx with
  | none => exact ⟨_, kit none, ⟨ho, rfl, rfl, trivial⟩, fun z => nomatch z⟩
  | some b =>
    obtain ⟨vs, hb⟩ := hd b rfl
    obtain ⟨mA, hn, _⟩ := exd_at I.hok hb
    obtain ⟨o, es, ep, h1, _⟩ := id hn
    exact ⟨_, kit (some o), ⟨ho, rfl, rfl, h1⟩, fun z => nomatch z⟩
/-- the class of a value, as the layer has it -/
theorem td_ty (top : TopOk T X.mg) {ρ : List Addr} {h : AH} {H : Hp} (rh : RH T.G ρ h H) {x : AV} {v : V} {t : TD} (r : RV T.G ρ H x v) (e : tdOf h x = some t) (ok : (isTD T.Pr t t).isSome = true) (nx : ∀ g, t ≠ .x g) : TyX T.G.K H v (tdV T.G t) := by
  cases r with
  | non => cases e; exact .base .non
  | bl b => cases e; exact .base (.bl b)
  | int i => cases e; exact .base (.int i)
  | str y => cases e; exact .base (.str y)
  | ty n => cases e
  | glo g => cases e
  | tup hs rr =>
    cases e
    rcases hs with z | ⟨o, its, n, hk, hc, _⟩
    · exact .base (.tup z)
    · exact .kTuple hk hc
  | ref ea =>
    unfold tdOf at e
    dsimp only at e
    split at e
    · rename_i xs hk
      cases e
      obtain ⟨vs, z, _⟩ := rh.lst hk ea
      exact .base (.lst z)
    · rename_i xs hk
      cases e
      cases rh.at' _ _ _ hk ea with
      | frz z _ => exact .base (.frz z)
      | kls z _ =>
        obtain ⟨o, its, n, h1, h2, _⟩ := z
        exact .kList h1 h2
    · rename_i xs hk
      cases e
      obtain ⟨vs, z, _⟩ := rh.dct hk ea
      exact .base (.dK z)
    · rename_i c fs hk
      cases e
      obtain ⟨dx, vs, z, _⟩ := rh.ins hk ea
      have hc : ∃ cc, clsAt T.Pr c = some cc := by
        dsimp only [isTD] at ok
        split at ok
        · rename_i q
          exact Option.isSome_iff_exists.mp (Bool.and_eq_true_iff.mp q).1
        · cases ok
      obtain ⟨cc, hc⟩ := hc
      have C := top.cl c cc (clsAt_some hc)
      exact .base (.ins z C.cls C.ca top.kn top.kt C.mo)
    · cases e; exact absurd rfl (nx _)
    · split at e
      · cases e; exact absurd rfl (nx _)
      · cases e
    all_goals cases e
/-- what isinstance asks of a value -/
theorem td_kit (top : TopOk T X.mg) (hk : X.K = T.G.K) {pins : List (Addr × Obj)} {σ : L2.St} {s : Shared} {ρ : List Addr} {h : AH} {H : Hp} (I : Inv X pins σ H s) (rh : RH T.G ρ h H) {x : AV} {v : V} {u : Value} {t : TD} (r : RV T.G ρ H x v) (ru : RelV v u) (e : tdOf h x = some t)
    (ok : (isTD T.Pr t t).isSome = true) : ∃ P : Heap → Prop, PySem.W.KitX X.K u (tdV T.G t) P ∧ P s.heap ∧ u ≠ .builtin "__main__.__loader__#opaque" := by
  have base : (∀ g, t ≠ .x g) → ∃ P : Heap → Prop, PySem.W.KitX X.K u (tdV T.G t) P ∧ P s.heap ∧ u ≠ .builtin "__main__.__loader__#opaque" := fun nx => by
    have ty := td_ty (X := X) top rh r e ok nx
    rw [← hk] at ty
    exact kit_of I ru ty
  cases t with
  | b T => exact base (fun _ z => nomatch z)
  | c g => exact base (fun _ z => nomatch z)
  | x g =>
    have hg : isExc T.Pr g = true := by
      dsimp only [isTD] at ok
      split at ok
      · rename_i q
        exact (Bool.and_eq_true_iff.mp q).1
      · cases ok
    cases r with
    | ref ea =>
      rename_i k a
      obtain rfl : u = .ref a := ru
      unfold tdOf at e
      dsimp only at e
      split at e
      all_goals first | (cases e; done) | skip
      · rename_i c hk'
        cases e
        exact exn_kit top hk I hg (rh.exn0 hk' ea) (fun b z => nomatch z)
      · rename_i c d hk'
        split at e
        · rename_i fs hd
          cases e
          obtain ⟨dx, vs, h1, h2, h3, _⟩ := rh.exn hk' hd ea
          exact exn_kit top hk I hg h2 (fun b z => by cases z; exact ⟨vs, h3⟩)
        · cases e
    | _ => cases e
theorem RV.cls {P : Prog} {ρ : List Addr} {H : Hp} {c : AV} {v : V} {u : TD} (r : RV G ρ H c v) (e : tdC P c = some u) : ClsV v (tdV G u) := by
  cases r <;> first | (cases e; constructor) | (unfold tdC at e; dsimp only at e; split at e <;> (cases e; constructor)) | cases e
theorem isTD_self {P : Prog} {t u : TD} {b : Bool} (h : isTD P t u = some b) : (isTD P t t).isSome = true := by
  have self : ∀ T : String, tnames.contains T = true → tnamesX.contains T = true := fun T h => by
    simp only [tnames, tnamesX, List.contains_cons, List.contains_nil, Bool.or_false, Bool.or_eq_true] at h ⊢
    rcases h with h | h | h | h | h | h | h <;> simp [h]
  have hb : ∀ T : String, tnames.contains T = true → (isTD P (.b T) (.b T)).isSome = true := fun T h => by
    dsimp only [isTD]
    rw [if_pos (by rw [h, self T h]; rfl)]; rfl
  have hc : ∀ g : Nat, isCls P g = true → (isTD P (.c g) (.c g)).isSome = true := fun T h => by
    dsimp only [isTD]
    rw [if_pos (by rw [h]; rfl)]; rfl
  have hx : ∀ g : Nat, isExc P g = true → (isTD P (.x g) (.x g)).isSome = true := fun T h => by
    dsimp only [isTD]
    rw [if_pos (by rw [h]; rfl)]; rfl
  cases t <;> cases u <;> (dsimp only [isTD] at h; split at h; (rename_i c; simp only [Bool.and_eq_true] at c; first | exact hb _ c.1 | exact hc _ c.1 | exact hx _ c.1 | exact hb _ c.2); cases h)
/-- the type of a value, as the machine finds it -/
theorem td_looks (top : TopOk T X.mg) (hk : X.K = T.G.K) {pins : List (Addr × Obj)} {σ : L2.St} {s : Shared} {ρ : List Addr} {h : AH} {H : Hp} (I : Inv X pins σ H s) (rh : RH T.G ρ h H) {x : AV} {v : V} {u : Value} {t : TD} (r : RV T.G ρ H x v) (ru : RelV v u) (e : tdOf h x = some t)
    (ok : (isTD T.Pr t t).isSome = true) : PySem.W.Looks (model X.prog X.w) s.heap (typeOf u) (tdV T.G t) := by
  obtain ⟨P, Z, p, _⟩ := td_kit top hk I rh r ru e ok
  exact Z.ty _ _ I.kIn p
/-- an own == or != -/
theorem op_own (rd : Rdy T cal lvl X W) (o : CmpOp) (nm : Str) (ho : (cmpInfo o).2.1 = nm) (hco : ∀ a b, compareOp o a b = richCompare o a b) (f : MCls → Option Nat)
    (hf : ∀ g c e, T.Pr g = some (.cls c) → f c = some e → PySem.W.findIn T.G.K (.ref (T.G.ad g)) nm = some (some (.ref (T.G.ad e))) ∧ PySem.W.isFn T.G.K (.ref (T.G.ad e)) = true) (hdef : ∀ g c e, T.Pr g = some (.cls c) → f c = some e → ∃ d, T.Pr e = some (.def_ d) ∧ d.np = 2) :
    OpR X (compareOp o) (r2 T.G fun x y h => match ownA T.Pr cal f x y h with
      | some r => r
      | none => none) := by
  intro pins s σ H x y v u Q I rx ry hh
  obtain ⟨ρ, h, xa, ya, z, h', r1, r2, rh, e, q⟩ := hh
  have e' : ∃ c g t, insOf h xa = some c ∧ (clsAt T.Pr c).bind f = some g ∧ tdOf h ya = some t ∧ (isTD T.Pr t t).isSome = true ∧ cal g [xa, ya] h = .ok z h' := by
    replace e : (match ownA T.Pr cal f xa ya h with
      | some r => r
      | none => none) = some (z, h') := e
    unfold ownA at e
    cases hc : insOf h xa with
    | none => rw [hc] at e; cases e
    | some c =>
      rw [hc] at e
      dsimp only [Option.map] at e
      cases hg : (clsAt T.Pr c).bind f with
      | none => rw [hg] at e; cases e
      | some g =>
        cases ht : tdOf h ya with
        | none => rw [hg, ht] at e; cases e
        | some t =>
          rw [hg, ht] at e
          dsimp only at e
          split at e
          · rename_i ok
            refine ⟨c, g, t, rfl, hg, rfl, ok, ?_⟩
            cases hcal : cal g [xa, ya] h with
            | ok a k => rw [hcal] at e; cases e; rfl
            | exc _ _ _ => rw [hcal] at e; cases e
            | bad => rw [hcal] at e; cases e
          · cases e
  obtain ⟨c, g, t, hc, hg, ht, ok, hcal⟩ := e'
  obtain ⟨k, fs, rfl, hk⟩ := insOf_some hc
  cases hcc : clsAt T.Pr c with
  | none => rw [hcc] at hg; cases hg
  | some cc =>
    rw [hcc] at hg
    have hg' : f cc = some g := hg
    have hP := clsAt_some hcc
    obtain ⟨h1, h2⟩ := hf c cc g hP hg'
    obtain ⟨d, hd, hnp⟩ := hdef c cc g hP hg'
    have C := rd.top.cl c cc hP
    obtain ⟨a, rfl, ea⟩ := r1.ref_inv
    obtain ⟨dx, vs, hi, rf⟩ := rh.ins hk ea
    obtain ⟨fd, F, hb⟩ := rd.tab.fn g d hd
    obtain rfl : v = .ref a := rx
    rw [hco]
    obtain ⟨mA, J, _⟩ := ins_get I.hok hi
    obtain ⟨od, J, _⟩ := J.look
    obtain ⟨m, hF⟩ := I.fr
    have L := td_looks rd.top rd.k I rh r2 ry ht ok
    refine PySem.W.cmp_K (op := o) (tb := tdV T.G t) rd.room.units0 hF I.ok.mod.kin J L (by rw [rd.k]; exact C.nf t ok) (f := T.G.ad g) (by rw [ho, rd.k]; exact h1) (by rw [rd.k]; exact h2) ?_
    have sp : spC T.G cal g d.np [.ref a, y] H Q (WE W σ) := by
      refine ⟨hnp.symm, ρ, [.ref k, ya], h, .cons r1 (.cons r2 .nil), rh, ?_⟩
      rw [hcal]
      intro ρ' H' e' rh' w rw'
      exact q ρ' H' e' rh' w rw'
    have F' : FnG X.prog X.w X.K X.mg X.base lvl (T.G.ad g) fd d.params (spC T.G cal g d.np) := by rw [rd.k]; exact F
    have hl : [Value.ref a, u].length = d.params.length := by rw [rd.top.np g d hd, hnp]; rfl
    refine thn (run_G F' rd.gd (rd.room.mono (Nat.le_succ _)) rd.tk I (kw := []) (bs := [.ref a, u]) (.of_eq (hb [.ref a, u] [] [] _ (bindK_nil hl) rfl)) (.cons (show RelV (.ref a) (.ref a) from rfl) (.cons ry .nil)) sp) fun w s' hw => ?_
    obtain ⟨z', H', I', rz, qz⟩ := hw
    have hne : w ≠ .notImplemented := fun e => by subst e; have ab := rz.abs; cases ab
    cases w <;> first | exact absurd rfl hne | exact ⟨z', H', I', rz, qz⟩
end
end Mini
set_option autoImplicit false
set_option maxHeartbeats 4000000
/-! Mini, seventh part: built-in functions. -/
namespace Mini
open PySem PySem.Spec L2
open PyProof.Rows hiding St
section
variable {T : Top} {cal : Nat → List AV → AH → R AV} {lvl : Nat} {X : Cx} {W : WX} {G : Gr}

def rB (G : Gr) (f : List AV → AH → O AV) : List V → Hp → VK → Prop := fun vs H Q => ∃ ρ h xs z h', RVs G ρ H xs vs ∧ RH G ρ h H ∧ f xs h = some (z, h') ∧
  ∀ ρ' H', Ext G ρ H ρ' H' → RH G ρ' h' H' → ∀ v, RV G ρ' H' z v → Q v H'
/-- no address of data is that of sys.modules -/
theorem toPyD_reads (top : TopOk T X.mg) (hk : X.K = T.G.K) {pins : List (Addr × Obj)} {σ : L2.St} {s : Shared} {ρ : List Addr} {h : AH} {H : Hp} (I : Inv X pins σ H s) (rh : RH T.G ρ h H) :
    ∀ (n : Nat) (x : AV) (v : V) (u : Value) (d : PyData), RV T.G ρ H x v → RelV v u → toPyD h n x = some d → ∃ as, Reads s.heap u d as ∧ sysModules ∉ as := by
  obtain ⟨oS, esS, nS, kS, dS⟩ := top.sys
  have hS : s.heap.get? sysModules = some oS := I.kIn _ _ (by rw [hk]; exact kS)
  have nseq : ∀ {a : Addr} {o : Obj} {its : Array Value} {n : Nat}, s.heap.get? a = some o → o.data = .seq its n → sysModules ≠ a := fun {a o its n} h1 h2 e => by
    subst e
    rw [hS] at h1
    cases h1
    rw [dS] at h2
    cases h2
  intro n
  induction n with
  | zero =>
    intro x v u d r ru e
    cases r with
    | non => cases e; cases ru; exact ⟨_, .none, by simp⟩
    | bl b => cases e; cases ru; exact ⟨_, .bool b, by simp⟩
    | int b => cases e; obtain ⟨t, rfl⟩ := ru; exact ⟨_, .int b t, by simp⟩
    | str b => cases e; obtain ⟨t, rfl⟩ := ru; exact ⟨_, .str b t, by simp⟩
    | _ => cases e
  | succ n ih =>
    have all : ∀ {xs : List AV} {vs : List V} {us : List Value} {ds : List PyData}, RVs T.G ρ H xs vs → Vals vs us → optAll (toPyD h n) xs = some ds → ∃ as, ReadsAll s.heap us ds as ∧ sysModules ∉ as := by
      intro xs
      induction xs with
      | nil =>
        intro vs us ds r ru e
        cases r; cases ru; cases e
        exact ⟨_, .nil, by simp⟩
      | cons x xs ih2 =>
        intro vs us ds r ru e
        cases r with
        | cons r1 r2 =>
          cases ru with
          | cons u1 u2 =>
            unfold optAll at e
            split at e
            · rename_i d ds' h1 h2
              cases e
              obtain ⟨as, q1, q2⟩ := ih _ _ _ _ r1 u1 h1
              obtain ⟨bs, q3, q4⟩ := ih2 r2 u2 h2
              exact ⟨_, .cons q1 q3, by simp [q2, q4]⟩
            · cases e
    intro x v u d r ru e
    cases r with
    | non => cases e; cases ru; exact ⟨_, .none, by simp⟩
    | bl b => cases e; cases ru; exact ⟨_, .bool b, by simp⟩
    | int b => cases e; obtain ⟨t, rfl⟩ := ru; exact ⟨_, .int b t, by simp⟩
    | str b => cases e; obtain ⟨t, rfl⟩ := ru; exact ⟨_, .str b t, by simp⟩
    | ty b => cases e
    | glo b => cases e
    | tup hs rr =>
      rename_i a vs xs
      dsimp only [toPyD] at e
      cases q : optAll (toPyD h n) xs with
      | none => rw [q] at e; cases e
      | some ds =>
        rw [q] at e
        cases e
        cases ru
        have hs := hs.sq
        rw [← hk] at hs
        obtain ⟨its, rv, ⟨o, ho, hc, n', hd⟩, _⟩ := I.tuple hs
        obtain ⟨as, hr, hn⟩ := all rr rv q
        exact ⟨_, .tuple ho hc hd (by simpa using hr), hn⟩
    | ref ea =>
      rename_i k a
      dsimp only [toPyD] at e
      cases ru
      have go : ∀ xs, seqOf h (.ref k) = some xs → (optAll (toPyD h n) xs).map PyData.list = some d → ∃ as, Reads s.heap (.ref a) d as ∧ sysModules ∉ as := fun xs hs e => by
        obtain ⟨vs, z, rr⟩ := rh.seq hs ea
        cases q : optAll (toPyD h n) xs with
        | none => rw [q] at e; cases e
        | some ds =>
          rw [q] at e
          cases e
          rw [← hk] at z
          obtain ⟨its, rv, ⟨o, n', ho, hc, _, hd⟩, _⟩ := I.list z
          obtain ⟨as, hr, hn⟩ := all rr rv q
          exact ⟨_, .list ho hc hd (by simpa using hr), by simp only [List.mem_cons, not_or]; exact ⟨nseq ho hd, hn⟩⟩
      split at e
      · rename_i xs hk'
        exact go xs (by unfold seqOf; dsimp only; rw [hk']) e
      · rename_i xs hk'
        exact go xs (by unfold seqOf; dsimp only; rw [hk']) e
      · rename_i kvs hk'
        obtain ⟨ws, z, rd⟩ := rh.dct hk' ea
        cases q : optAll (fun p : Str × AV => (toPyD h n p.2).map fun d => (PyData.str p.1, d)) kvs with
        | none => rw [q] at e; cases e
        | some ds =>
          rw [q] at e
          cases e
          obtain ⟨_, hsys, vs, kv, o, es, ep, ho, hx, hd, _, hp, _⟩ := (show ObjOk X.prog X.w H s.heap a (.dK ws) from I.hok a _ z)
          have go2 : ∀ {kvs : List (Str × AV)} {ws : List (L2.Key × V)} {vs : List (L2.Key × Value)} {es : List DictEntry} {ds : List (PyData × PyData)}, RD T.G ρ H kvs ws → KV ws vs → Pairs (mixKind X.prog X.w) es vs →
              optAll (fun p : Str × AV => (toPyD h n p.2).map fun d => (PyData.str p.1, d)) kvs = some ds → (∃ as, ReadsAll s.heap (es.map (·.key)) (ds.map (·.1)) as ∧ sysModules ∉ as) ∧ ∃ bs, ReadsAll s.heap (es.map (·.val)) (ds.map (·.2)) bs ∧ sysModules ∉ bs := by
            intro kvs
            induction kvs with
            | nil =>
              intro ws vs es ds r1 r2 r3 e
              cases r1; cases r2; cases r3; cases e
              exact ⟨⟨_, .nil, by simp⟩, _, .nil, by simp⟩
            | cons p kvs ih2 =>
              intro ws vs es ds r1 r2 r3 e
              cases r1 with
              | cons s1 s2 =>
                rename_i f x v ws'
                cases r2 with
                | cons t1 t2 =>
                  rename_i kv vs'
                  cases r3 with
                  | cons u1 u2 u3 =>
                    rename_i en es'
                    unfold optAll at e
                    split at e
                    · rename_i d ds' h1 h2
                      cases e
                      dsimp only at h1
                      cases q1 : toPyD h n x with
                      | none => rw [q1] at h1; cases h1
                      | some dx =>
                        rw [q1] at h1
                        cases h1
                        obtain ⟨⟨as, a1, a2⟩, bs, b1, b2⟩ := ih2 s2 t2 u3 h2
                        obtain ⟨cs, c1, c2⟩ := ih _ _ _ _ s1 t1.2 q1
                        have hkey : ∃ t, en.key = .str f t := by
                          have e1 : kv.1 = Sum.inr f := t1.1.symm
                          rw [e1] at u1
                          exact Value.isStrOf_shape (x := f) (v := en.key) u1
                        obtain ⟨t, hkey⟩ := hkey
                        refine ⟨⟨[] ++ as, ?_, by simpa using a2⟩, cs ++ bs, ?_, by simp [c2, b2]⟩
                        · rw [List.map_cons, List.map_cons, hkey]
                          exact .cons (.str f t) a1
                        · rw [List.map_cons, List.map_cons, u2]
                          exact .cons c1 b1
                    · cases e
          obtain ⟨⟨as, a1, a2⟩, bs, b1, b2⟩ := go2 rd kv hp q
          refine ⟨_, .dict ho hx.1 hd a1 b1, ?_⟩
          have hne : sysModules ≠ a := fun e => by
            have : (a == sysModules) = true := by rw [e]; simp
            rw [this] at hsys; cases hsys
          simp only [List.mem_cons, List.mem_append, not_or]
          simp [hne, a2, b2]
      · cases e
theorem call_repr (rd : Rdy T cal lvl X W) : CallR X (.builtin "repr") (rB T.G (biA T.Pr .repr)) := by
  intro pins s σ H vs us Q I r hh
  obtain ⟨ρ, h, xs, z, h', rv, rh, e, q⟩ := hh
  have e' : ∃ x d, xs = [x] ∧ toPyD h 60 x = some d ∧ d.showable = true ∧ d.shown.length ≤ sizeLine ∧ d.depth ≤ 64 ∧ z = .str d.shown ∧ h' = h := by
    replace e : biRepr xs h = some (z, h') := e
    unfold biRepr at e
    split at e
    · rename_i x
      split at e
      · rename_i d hd
        split at e
        · rename_i c
          unfold showOk at c
          simp only [Bool.and_eq_true, decide_eq_true_eq] at c
          cases e
          exact ⟨x, d, rfl, hd, c.1.1, c.1.2, c.2, rfl, rfl⟩
        · cases e
      · cases e
    · cases e
  obtain ⟨x, d, rfl, hd, hsh, hlen, hdep, rfl, rfl⟩ := e'
  cases rv with
  | cons r1 r2 =>
    cases r2
    obtain ⟨u, rfl, ru⟩ := vals1 r
    obtain ⟨as, hr, hn⟩ := toPyD_reads rd.top rd.k I rh 60 x _ u d r1 ru hd
    have fin : ∀ h2 t2 t3, (∀ b o, s.heap.get? b = some o → h2.get? b = some o) → EP X pins σ Q (.str d.shown t2) { s with heap := h2, toks := t3 } := fun h2 t2 t3 k =>
      ⟨.str d.shown, H, I.kept k, ⟨_, rfl⟩, q ρ H .refl rh _ (.str _)⟩
    have hu : X.A.units + 200 < cLine := by have := rd.room.un; omega
    cases hr with
    | none => exact PySem.P.repr_of_none (fin _ _ _ fun _ _ e => e)
    | bool b =>
      refine PySem.P.repr_of_bool ?_
      exact fin _ _ _ fun _ _ e => e
    | int i t =>
      have hz : i.natAbs.log2 < 1920 := of_decide_eq_true (by simpa [PyData.showable] using hsh)
      exact PySem.P.repr_of_int hz (fin _ _ _ fun _ _ e => e)
    | str y t => exact PySem.P.repr_of_str (fin _ _ _ fun _ _ e => e) (by simpa [PyData.shown] using hlen)
    | list h1 h2 h3 h4 => exact repr_of_reads' (.list h1 h2 h3 h4) hsh (fun _ => hn) rd.gd (by omega) (fun _ _ e => e) (fun h2 t2 t3 k => fin h2 t2 t3 k) hlen
    | tuple h1 h2 h3 h4 => exact repr_of_reads' (.tuple h1 h2 h3 h4) hsh (fun _ => hn) rd.gd (by omega) (fun _ _ e => e) (fun h2 t2 t3 k => fin h2 t2 t3 k) hlen
    | dict h1 h2 h3 h4 h5 => exact repr_of_reads' (.dict h1 h2 h3 h4 h5) hsh (fun _ => hn) rd.gd (by omega) (fun _ _ e => e) (fun h2 t2 t3 k => fin h2 t2 t3 k) hlen
end
end Mini
set_option autoImplicit false
set_option maxHeartbeats 4000000
/-! Mini, eighth part: the other built-ins, subscripts, fields, methods, stores. -/
namespace Mini
open PySem PySem.Spec L2
open PyProof.Rows hiding St
section
variable {T : Top} {cal : Nat → List AV → AH → R AV} {lvl : Nat} {X : Cx} {W : WX} {G : Gr}

theorem RVs.one {ρ : List Addr} {H : Hp} {x : AV} {vs : List V} (r : RVs G ρ H [x] vs) : ∃ v, vs = [v] ∧ RV G ρ H x v := by
  cases r with
  | cons a b => cases b; exact ⟨_, rfl, a⟩
theorem RVs.two {ρ : List Addr} {H : Hp} {x y : AV} {vs : List V} (r : RVs G ρ H [x, y] vs) : ∃ v w, vs = [v, w] ∧ RV G ρ H x v ∧ RV G ρ H y w := by
  cases r with
  | cons a b => cases b with
    | cons c d => cases d; exact ⟨_, _, rfl, a, c⟩
/-- the new object's number -/
theorem RV.fresh {ρ : List Addr} {h : AH} {H H' : Hp} {p : Addr} (rh : RH G ρ h H) : RV G (ρ ++ [p]) H' (.ref h.length) (.ref p) := .ref (by
  rw [List.getElem?_append_right (by rw [rh.len]; exact Nat.le_refl _), rh.len]; simp)
theorem call_lenA (hk : X.K = G.K) : CallR X (.builtin "len") (rB G biLen) := by
  intro pins s σ H vs us Q I r hh
  obtain ⟨ρ, h, xs, z, h', rv, rh, e, q⟩ := hh
  unfold biLen at e
  split at e
  · rename_i x
    cases es : seqOf h x with
    | none => rw [es] at e; cases e
    | some ys =>
      rw [es] at e
      cases e
      obtain ⟨v, rfl, r1⟩ := rv.one
      obtain ⟨a, ws, rfl, hs, rr⟩ := r1.items rh es
      rw [← hk] at hs
      refine call_len_seq pins s σ H _ us Q I r ⟨a, ws, rfl, hs, ?_⟩
      rw [← rr.length]
      exact q ρ H .refl rh _ (.int _)
  · cases e
theorem call_absA : CallR X (.builtin "abs") (rB G biAbs) := by
  intro pins s σ H vs us Q I r hh
  obtain ⟨ρ, h, xs, z, h', rv, rh, e, q⟩ := hh
  unfold biAbs at e
  split at e
  · cases e
    obtain ⟨v, rfl, r1⟩ := rv.one
    obtain rfl := r1.int_inv
    exact call_abs pins s σ H _ us Q I r ⟨_, rfl, q ρ H .refl rh _ (.int _)⟩
  · cases e
theorem call_minA (hc : X.calm = true) : CallR X (.builtin "min") (rB G biMin) := by
  intro pins s σ H vs us Q I r hh
  obtain ⟨ρ, h, xs, z, h', rv, rh, e, q⟩ := hh
  unfold biMin at e
  split at e
  · cases e
    obtain ⟨v, w, rfl, r1, r2⟩ := rv.two
    obtain rfl := r1.int_inv
    obtain rfl := r2.int_inv
    exact call_min2 hc pins s σ H _ us Q I r ⟨_, _, rfl, q ρ H .refl rh _ (.int _)⟩
  · cases e
theorem call_maxA (hc : X.calm = true) : CallR X (.builtin "max") (rB G biMax) := by
  intro pins s σ H vs us Q I r hh
  obtain ⟨ρ, h, xs, z, h', rv, rh, e, q⟩ := hh
  unfold biMax at e
  split at e
  · cases e
    obtain ⟨v, w, rfl, r1, r2⟩ := rv.two
    obtain rfl := r1.int_inv
    obtain rfl := r2.int_inv
    exact call_max2 hc pins s σ H _ us Q I r ⟨_, _, rfl, q ρ H .refl rh _ (.int _)⟩
  · cases e
theorem call_gcdA : CallR X (.builtin "math.gcd") (rB G biGcd) := by
  intro pins s σ H vs us Q I r hh
  obtain ⟨ρ, h, xs, z, h', rv, rh, e, q⟩ := hh
  unfold biGcd at e
  split at e
  · cases e
    obtain ⟨v, w, rfl, r1, r2⟩ := rv.two
    obtain rfl := r1.int_inv
    obtain rfl := r2.int_inv
    exact cr_gcd pins s σ H _ us Q I r ⟨_, _, rfl, q ρ H .refl rh _ (.int _)⟩
  · cases e
theorem call_intA : CallR X (.type "int") (rB G biInt) := by
  intro pins s σ H vs us Q I r hh
  obtain ⟨ρ, h, xs, z, h', rv, rh, e, q⟩ := hh
  unfold biInt at e
  split at e
  · cases e
    obtain ⟨v, rfl, r1⟩ := rv.one
    obtain rfl := r1.int_inv
    exact call_int1 pins s σ H _ us Q I r (.inl ⟨_, rfl, q ρ H .refl rh _ (.int _)⟩)
  · cases e
    obtain ⟨v, rfl, r1⟩ := rv.one
    obtain rfl := r1.bl_inv
    exact call_int1 pins s σ H _ us Q I r (.inr ⟨_, rfl, q ρ H .refl rh _ (.int _)⟩)
  · cases e
theorem call_tupleA (hk : X.K = G.K) : CallR X (.type "tuple") (rB G biTuple) := by
  intro pins s σ H vs us Q I r hh
  obtain ⟨ρ, h, xs, z, h', rv, rh, e, q⟩ := hh
  unfold biTuple at e
  split at e
  · rename_i x
    cases es : seqOf h x with
    | none => rw [es] at e; cases e
    | some ys =>
      rw [es] at e
      cases e
      obtain ⟨v, rfl, r1⟩ := rv.one
      have r1' := r1
      cases r1 with
      | tup h1 rr =>
        cases es
        exact call_tuple_of pins s σ H _ us Q I r ⟨_, _, rfl, .inr ⟨by rw [hk]; exact h1.sq, q ρ H .refl rh _ r1'⟩⟩
      | ref ea =>
        obtain ⟨ws, hs, rr⟩ := rh.seq es ea
        rw [← hk] at hs
        refine call_tuple_of pins s σ H _ us Q I r ⟨_, ws, rfl, .inl ⟨hs, fun l hl => ?_⟩⟩
        have ex : Ext G ρ H ρ (upd H l (.tup ws)) := by
          have := Ext.new (G := G) (ρ := ρ) (u := .tup ws) hl []
          simpa using this
        exact q ρ _ ex ⟨rh.len, fun k o b h1 h2 => (rh.at' k o b h1 h2).stay ex fun u hu => by rw [upd_ne (ne_of_none hu hl)]; exact hu, rh.nd⟩ _ (.tup (.inl upd_same) (rr.ext ex))
      | _ => cases es
  · cases e
theorem call_listA (hk : X.K = G.K) : CallR X (.type "list") (rB G biList) := by
  intro pins s σ H vs us Q I r hh
  obtain ⟨ρ, h, xs, z, h', rv, rh, e, q⟩ := hh
  unfold biList at e
  split at e
  · rename_i x
    cases es : seqOf h x with
    | none => rw [es] at e; cases e
    | some ys =>
      rw [es] at e
      cases e
      obtain ⟨v, rfl, r1⟩ := rv.one
      obtain ⟨a, ws, rfl, hs, rr⟩ := r1.items rh es
      rw [← hk] at hs
      refine call_list_of pins s σ H _ us Q I r ⟨a, ws, rfl, hs, fun l hl => ?_⟩
      have ex : Ext G ρ H (ρ ++ [l]) (upd H l (.lst ws)) := Ext.new hl [l]
      exact q _ _ ex (rh.new hl rfl (.lst upd_same (rr.ext ex))) _ (.fresh rh)
  · cases e
theorem bools {ρ : List Addr} {H : Hp} : ∀ {xs : List AV} {vs : List V} {bs : List Bool}, RVs G ρ H xs vs → boolsOf xs = some bs → vs = bs.map V.bl
  | [], _, bs, .nil, e => by cases e; rfl
  | x :: xs, _, bs, .cons r t, e => by
    cases r with
    | bl b =>
      unfold boolsOf at e
      cases q : boolsOf xs with
      | none => rw [q] at e; cases e
      | some cs => rw [q] at e; cases e; rw [bools t q]; rfl
    | _ => cases e
/-- a list of what is in a tuple or list, for all and any: only of lists -/
theorem call_allA (hk : X.K = G.K) (hc : X.calm = true) : CallR X (.builtin "all") (rB G biAll) := by
  intro pins s σ H vs us Q I r hh
  obtain ⟨ρ, h, xs, z, h', rv, rh, e, q⟩ := hh
  unfold biAll at e
  split at e
  · rename_i k
    cases es : (seqOf h (.ref k)).bind boolsOf with
    | none => rw [es] at e; cases e
    | some bs =>
      rw [es] at e
      cases e
      obtain ⟨v, rfl, r1⟩ := rv.one
      obtain ⟨a, rfl, ea⟩ := r1.ref_inv
      cases e2 : seqOf h (.ref k) with
      | none => rw [e2] at es; cases es
      | some ys =>
        rw [e2] at es
        obtain ⟨ws, hs, rr⟩ := rh.seq e2 ea
        rw [bools rr es, ← hk] at hs
        exact cr_all hc pins s σ H _ us Q I r ⟨a, bs, rfl, hs, q ρ H .refl rh _ (.bl _)⟩
  · cases e
theorem call_anyA (hk : X.K = G.K) (hc : X.calm = true) : CallR X (.builtin "any") (rB G biAny) := by
  intro pins s σ H vs us Q I r hh
  obtain ⟨ρ, h, xs, z, h', rv, rh, e, q⟩ := hh
  unfold biAny at e
  split at e
  · rename_i k
    cases es : (seqOf h (.ref k)).bind boolsOf with
    | none => rw [es] at e; cases e
    | some bs =>
      rw [es] at e
      cases e
      obtain ⟨v, rfl, r1⟩ := rv.one
      obtain ⟨a, rfl, ea⟩ := r1.ref_inv
      cases e2 : seqOf h (.ref k) with
      | none => rw [e2] at es; cases es
      | some ys =>
        rw [e2] at es
        obtain ⟨ws, hs, rr⟩ := rh.seq e2 ea
        rw [bools rr es, ← hk] at hs
        exact cr_any hc pins s σ H _ us Q I r ⟨a, bs, rfl, hs, q ρ H .refl rh _ (.bl _)⟩
  · cases e
theorem isInst1_kit (top : TopOk T X.mg) {h : AH} {x : AV} {t : TD} (ht : tdOf h x = some t) {ρ : List Addr} {H : Hp} {c : AV} {v : V} {a : Bool} (r : RV T.G ρ H c v) (h1 : isInst1 T.Pr h x c = some a) : ∃ u, ClsV v u ∧ PySem.W.kitOne T.G.K (tdV T.G t) u = some a := by
  unfold isInst1 at h1
  rw [ht] at h1
  cases hc : tdC T.Pr c with
  | none => rw [hc] at h1; cases h1
  | some u =>
    rw [hc] at h1
    exact ⟨tdV T.G u, r.cls hc, top.kit t u a h1⟩
theorem isInsts_kit (top : TopOk T X.mg) {h : AH} {x : AV} {t : TD} (ht : tdOf h x = some t) {ρ : List Addr} {H : Hp} : ∀ {cs : List AV} {vs : List V} {b : Bool}, RVs T.G ρ H cs vs → isInsts T.Pr h x cs = some b →
    ∃ us, Paired ClsV vs us ∧ PySem.W.kitAny T.G.K (tdV T.G t) us = some b
  | [], _, b, .nil, e => by cases e
  | [c], _, b, .cons r .nil, e => by
    obtain ⟨u, h1, h2⟩ := isInst1_kit top ht r (show isInst1 T.Pr h x c = some b from e)
    exact ⟨[u], .cons h1 .nil, kitAny_cons h2 (fun e => by subst e; rfl) fun e => e⟩
  | c :: c2 :: cs, _, b, .cons r rr, e => by
    have e' : (match isInst1 T.Pr h x c, isInsts T.Pr h x (c2 :: cs) with
      | some a, some b => some (a || b)
      | _, _ => none) = some b := e
    split at e'
    · rename_i a b' h1 h2
      cases e'
      obtain ⟨us, p, k⟩ := isInsts_kit top ht rr h2
      obtain ⟨u, h3, h4⟩ := isInst1_kit top ht r h1
      refine ⟨u :: us, .cons h3 p, kitAny_cons h4 (fun e => ?_) fun e => ?_⟩
      · subst e; simpa using k
      · subst e; rfl
    · cases e'
theorem call_isinstA (rd : Rdy T cal lvl X W) : CallR X (.builtin "isinstance") (rB T.G (biIsinst T.Pr)) := by
  intro pins s σ H vs us Q I r hh
  obtain ⟨ρ, h, xs, z, h', rv, rh, e, q⟩ := hh
  unfold biIsinst at e
  split at e
  · rename_i x cs
    cases es : isInsts T.Pr h x cs with
    | none => rw [es] at e; cases e
    | some b =>
      rw [es] at e
      cases e
      obtain ⟨v, w, rfl, r1, r2⟩ := rv.two
      have ht : ∃ t, tdOf h x = some t ∧ (isTD T.Pr t t).isSome = true := by
        cases cs with
        | nil => cases es
        | cons c cs =>
          have one : ∀ a, isInst1 T.Pr h x c = some a → ∃ t, tdOf h x = some t ∧ (isTD T.Pr t t).isSome = true := fun a h1 => by
            unfold isInst1 at h1
            split at h1
            · rename_i t u ht hu
              exact ⟨t, ht, isTD_self h1⟩
            · cases h1
          cases cs with
          | nil => exact one _ es
          | cons c2 cs =>
            have e' : (match isInst1 T.Pr h x c, isInsts T.Pr h x (c2 :: cs) with
              | some a, some b => some (a || b)
              | _, _ => none) = some b := es
            split at e'
            · rename_i a b' h1 h2
              exact one _ h1
            · cases e'
      obtain ⟨t, ht, ok⟩ := ht
      obtain ⟨u1, u2, rfl, ru1, ru2⟩ := vals2 r
      obtain ⟨PP, Z, pp, hx⟩ := td_kit rd.top rd.k I rh r1 ru1 ht ok
      cases r2 with
      | tup h2 rr =>
        rename_i a ws
        cases (show u2 = Value.ref a from ru2)
        obtain ⟨us', p, k⟩ := isInsts_kit rd.top ht rr es
        rw [← rd.k] at k
        rcases h2 with h2 | ⟨o, its, n, hko, hc, hd, _, rv⟩
        · obtain ⟨_, its, rv, o, h1, h2, n, h3⟩ := (show ObjOk X.prog X.w H s.heap a (.tup ws) from I.hok a _ h2)
          have e3 := ClsV.all p rv
          subst e3
          obtain ⟨oc, od, dt, sl⟩ := o
          simp only at h2 h3
          subst h2 h3
          exact PySem.W.kia_tup Z I.kIn pp h1 k hx fun tk => ⟨.bl b, H, I.tok tk, rfl, q ρ H .refl rh _ (.bl _)⟩
        · obtain ⟨oc, od, dt, sl⟩ := o
          simp only at hc hd
          subst hc hd
          have e3 := ClsV.all p rv
          refine PySem.W.kia_tup (its := us') (dd := od) (n := n) (sl := sl) Z I.kIn pp (I.kIn _ _ (?_ : X.K.lookup a = _)) k hx fun tk => ⟨.bl b, H, I.tok tk, rfl, q ρ H .refl rh _ (.bl _)⟩
          rw [rd.k, hko, ← e3]
  · rename_i x c _
    cases es : isInst1 T.Pr h x c with
    | none => rw [es] at e; cases e
    | some b =>
      rw [es] at e
      cases e
      obtain ⟨v, w, rfl, r1, r2⟩ := rv.two
      unfold isInst1 at es
      split at es
      · rename_i t u ht hu
        obtain ⟨u1, u2, rfl, ru1, ru2⟩ := vals2 r
        obtain ⟨PP, Z, pp, hx⟩ := td_kit rd.top rd.k I rh r1 ru1 ht (isTD_self es)
        have e2 := (r2.cls hu).eq ru2
        subst e2
        exact PySem.W.kia_one Z I.kIn pp (by rw [rd.k]; exact rd.top.kit _ _ _ es) hx fun tk => ⟨.bl b, H, I.tok tk, rfl, q ρ H .refl rh _ (.bl _)⟩
      · cases es
  · cases e
end
end Mini
set_option autoImplicit false
set_option maxHeartbeats 4000000
/-! Mini, ninth part: subscripts, fields, methods, stores by values. -/
namespace Mini
open PySem PySem.Spec L2
open PyProof.Rows hiding St
section
variable {T : Top} {cal : Nat → List AV → AH → R AV} {lvl : Nat} {X : Cx} {W : WX} {G : Gr}
theorem RD.get {ρ : List Addr} {H : Hp} : ∀ {xs : List (Str × AV)} {vs : List (L2.Key × V)} {f : Str} {x : AV}, RD G ρ H xs vs → xs.lookup f = some x → ∃ v, valV vs (Sum.inr f) = some v ∧ RV G ρ H x v
  | _, _, f, x, .nil, e => by simp at e
  | (g, y) :: xs, (_, v) :: vs, f, x, .cons r t, e => by
    rw [List.lookup] at e
    unfold valV
    rw [List.find?_cons]
    cases q : (f == g) with
    | true =>
      rw [q] at e
      simp only [Option.some.injEq] at e
      subst e
      have hg : f = g := by simpa using q
      subst hg
      simp only [decide_true]
      exact ⟨v, rfl, r⟩
    | false =>
      rw [q] at e
      have hg : ¬ (g = f) := fun z => by subst z; simp at q
      have hd : decide ((Sum.inr g : L2.Key) = Sum.inr f) = false := decide_eq_false fun z => hg (Sum.inr.inj z)
      simp only [hd]
      exact RD.get t e
theorem RD.any {ρ : List Addr} {H : Hp} : ∀ {xs : List (Str × AV)} {vs : List (L2.Key × V)} {f : Str}, RD G ρ H xs vs → (xs.any fun kv => decide (kv.1 = f)) = (vs.any fun kv => decide (kv.1 = Sum.inr f))
  | _, _, f, .nil => rfl
  | (g, y) :: xs, (_, v) :: vs, f, .cons r t => by
    rw [List.any_cons, List.any_cons, RD.any t]
    congr 1
    exact (key_rr g f).symm
theorem RD.map {ρ : List Addr} {H : Hp} {x : AV} {v : V} (rv : RV G ρ H x v) {f : Str} : ∀ {xs : List (Str × AV)} {vs : List (L2.Key × V)}, RD G ρ H xs vs →
    RD G ρ H (xs.map fun kv => if kv.1 = f then (kv.1, x) else kv) (vs.map fun kv => if kv.1 = Sum.inr f then (kv.1, v) else kv)
  | _, _, .nil => .nil
  | (g, y) :: xs, (_, u) :: vs, .cons r t => by
    rw [List.map_cons, List.map_cons]
    by_cases h : g = f
    · subst h
      rw [if_pos rfl, if_pos rfl]
      exact .cons rv (RD.map rv t)
    · rw [if_neg h, if_neg (fun z => h (Sum.inr.inj z))]
      exact .cons r (RD.map rv t)
theorem RD.snoc {ρ : List Addr} {H : Hp} {x : AV} {v : V} (rv : RV G ρ H x v) {f : Str} : ∀ {xs : List (Str × AV)} {vs : List (L2.Key × V)}, RD G ρ H xs vs → RD G ρ H (xs ++ [(f, x)]) (vs ++ [(Sum.inr f, v)])
  | _, _, .nil => .cons rv .nil
  | _, _, .cons r t => .cons r (RD.snoc rv t)
theorem RD.put {ρ : List Addr} {H : Hp} {x : AV} {v : V} (rv : RV G ρ H x v) {f : Str} {xs : List (Str × AV)} {vs : List (L2.Key × V)} (r : RD G ρ H xs vs) : RD G ρ H (putA xs f x) (L2.putK vs (Sum.inr f) v) := by
  unfold putA L2.putK
  rw [r.any]
  split
  · exact r.map rv
  · exact r.snoc rv
theorem RF.put {ρ : List Addr} {H : Hp} {x : AV} {v : V} (rv : RV G ρ H x v) {f : Str} : ∀ {xs : List (Str × AV)} {vs : List (Str × V)}, RF G ρ H xs vs → RF G ρ H (putFA f x xs) (putF f v vs)
  | _, _, .nil => .cons rv .nil
  | (g, y) :: xs, (_, u) :: vs, .cons r t => by
    unfold putFA putF
    by_cases h : g = f
    · rw [if_pos h, if_pos h]; exact .cons rv t
    · rw [if_neg h, if_neg h]; exact .cons r (RF.put rv t)
theorem atI_rel {ρ : List Addr} {H : Hp} {xs : List AV} {vs : List V} (r : RVs G ρ H xs vs) {i : Int} {x : AV} (e : atI xs i = some x) : ∃ v, atI vs i = some v ∧ RV G ρ H x v := by
  unfold atI at e ⊢
  rw [← r.length]
  cases q : ixN xs.length i with
  | none => rw [q] at e; cases e
  | some j => rw [q] at e; exact r.get e
/-- o[i] -/
theorem ix_A (hk : X.K = G.K) (hu : X.A.units + 1 < cLine) : IxR X (r2 G idxA) := by
  intro value slice pins s σ H x y v u Q I rx ry hh hs
  obtain ⟨ρ, h, xa, ya, z, h', r1, r2, rh, e, q⟩ := hh
  unfold idxA at e
  split at e
  · rename_i zz
    split at e
    · rename_i k
      unfold idxD at e
      split at e
      · rename_i kvs hk'
        cases el : kvs.lookup zz with
        | none => rw [el] at e; cases e
        | some w =>
          rw [el] at e
          cases e
          obtain ⟨a, rfl, ea⟩ := r1.ref_inv
          obtain rfl := r2.str_inv
          obtain ⟨ws, zd, rd⟩ := rh.dct hk' ea
          obtain ⟨wv, ew, rw'⟩ := rd.get el
          obtain rfl : v = .ref a := rx
          have g : DGet H a (V.str zz) (some wv) := by
            have := DGet.k (k := Sum.inr zz) zd
            rw [ew] at this
            exact this
          exact tail_any (dict_typeIs I g) PySem.F.slot_dict_getitem.lookup (d_getItem hu I g ry fun w' s3 I3 rw3 => ⟨wv, H, I3, rw3, q ρ H .refl rh _ rw'⟩) hs
      · cases e
    · cases e
  · rename_i i
    unfold idxS at e
    cases es : seqOf h xa with
    | none => rw [es] at e; cases e
    | some xs =>
      rw [es] at e
      dsimp only at e
      cases ei : atI xs i with
      | none => rw [ei] at e; cases e
      | some w =>
        rw [ei] at e
        cases e
        obtain rfl := r2.int_inv
        obtain ⟨a, vs, rfl, hs', rr⟩ := r1.items rh es
        obtain ⟨wv, ew, rw'⟩ := atI_rel rr ei
        rw [← hk] at hs'
        rcases hs' with hs' | hs'
        · exact ix_list value slice pins s σ H _ _ v u Q I rx ry ⟨a, vs, i, wv, rfl, rfl, hs', ew, q ρ H .refl rh _ rw'⟩ hs
        · exact ix_tup value slice pins s σ H _ _ v u Q I rx ry ⟨a, vs, i, wv, rfl, rfl, hs', ew, q ρ H .refl rh _ rw'⟩ hs
  · cases e
/-- o[i] = v -/
def rSet (G : Gr) (f : AV → AV → AV → AH → O Unit) : TSet := fun o i v H Q => ∃ ρ h oa ia va h', RV G ρ H oa o ∧ RV G ρ H ia i ∧ RV G ρ H va v ∧ RH G ρ h H ∧ f oa ia va h = some ((), h') ∧
  ∀ ρ' H', Ext G ρ H ρ' H' → RH G ρ' h' H' → Q H'
theorem set_A (hk : X.K = G.K) (hu : X.A.units + 1 < cLine) : PSet X (rSet G setIA) := by
  intro pins s σ H o i v ov iv u Q I ro ri rv hh
  obtain ⟨ρ, h, oa, ia, va, h', r1, r2, r3, rh, e, q⟩ := hh
  unfold setIA at e
  split at e
  · rename_i k zz
    split at e
    · rename_i kvs hk'
      split at e
      · rename_i hl
        cases e
        obtain ⟨a, rfl, ea⟩ := r1.ref_inv
        obtain rfl := r2.str_inv
        obtain ⟨ws, zd, rd⟩ := rh.dct hk' ea
        have hlen : ws.length < sizeLine := small1000 (by rw [← rd.length]; omega)
        have P := DPut.k (k := Sum.inr zz) (v := v) zd hlen
        have hw := (rh.at' k _ a hk' ea).is rfl
        obtain ⟨w0, hw0, _, hn1, hn2⟩ := hw
        have ex : Ext G ρ H ρ (upd H a (.dK (L2.putK ws (Sum.inr zz) v))) := Ext.put hw0 hn1 hn2
        obtain ⟨rh', ex'⟩ := rh.put (o' := .dct (putA kvs zz va)) (u := .dK (L2.putK ws (Sum.inr zz) v)) hk' ea rfl rfl (.dct upd_same ((rd.put r3).ext ex))
        exact set_dict hu pins s σ H _ _ v ov iv u Q I ro ri rv ⟨a, _, rfl, P, q ρ _ ex' rh'⟩
      · cases e
    · cases e
  · cases e
/-- xs.append(y) -/
def rM (G : Gr) (f : AV → List AV → AH → O AV) : V → List V → Hp → VK → Prop := fun x vs H Q => ∃ ρ h xa xs z h', RV G ρ H xa x ∧ RVs G ρ H xs vs ∧ RH G ρ h H ∧ f xa xs h = some (z, h') ∧
  ∀ ρ' H', Ext G ρ H ρ' H' → RH G ρ' h' H' → ∀ v, RV G ρ' H' z v → Q v H'
theorem mt_appendA : MtR X "list.append" (rM G metAppend) := by
  intro pins s σ H x vs v us Q I rx rv hh
  obtain ⟨ρ, h, xa, xs, z, h', r1, r2, rh, e, q⟩ := hh
  unfold metAppend at e
  split at e
  · rename_i k y
    split at e
    · rename_i ys hk'
      split at e
      · rename_i hl
        cases e
        obtain ⟨a, rfl, ea⟩ := r1.ref_inv
        obtain ⟨yv, rfl, ry⟩ := r2.one
        obtain ⟨ws, zd, rr⟩ := rh.lst hk' ea
        obtain ⟨w0, hw0, _, hn1, hn2⟩ := (rh.at' k _ a hk' ea).is rfl
        have ex : Ext G ρ H ρ (upd H a (.lst (ws ++ [yv]))) := Ext.put hw0 hn1 hn2
        obtain ⟨rh', ex'⟩ := rh.put (o' := .lst (ys ++ [y])) (u := .lst (ws ++ [yv])) hk' ea rfl rfl (.lst upd_same ((rr.append (.cons ry .nil)).ext ex))
        exact mt_append pins s σ H _ _ v us Q I rx rv ⟨a, ws, yv, rfl, rfl, zd, by rw [← rr.length]; exact hl, q ρ _ ex' rh' _ .non⟩
      · cases e
    · cases e
  · cases e
/-- o.f -/
theorem fld_A (rd : Rdy T cal lvl X W) {f : Str} (hf : f ∈ T.flds) {pins : List (Addr × Obj)} {s : Shared} {σ : L2.St} {H : Hp} {ρ : List Addr} {h h' : AH} {xa z : AV} {x : V} {u : Value} {Q : VK} {b : Bool} {E : Value → Shared → Prop} {A : Around}
    (I : Inv X pins σ H s) (rx : RelV x u) (r1 : RV T.G ρ H xa x) (rh : RH T.G ρ h H) (e : fldA T.Pr xa f h = some (z, h'))
    (q : ∀ ρ' H', Ext T.G ρ H ρ' H' → RH T.G ρ' h' H' → ∀ v, RV T.G ρ' H' z v → Q v H') : wpAny (model X.prog X.w) A (getAttr u f b) (EP X pins σ Q) E s := by
  unfold fldA at e
  split at e
  · rename_i k
    split at e
    · rename_i c fs hk'
      split at e
      · rename_i w hl
        split at e
        rotate_left
        · cases e
        rename_i hcl
        cases e
        obtain ⟨a, rfl, ea⟩ := r1.ref_inv
        obtain ⟨dx, vs, zi, rf⟩ := rh.ins hk' ea
        obtain ⟨wv, ew, rw'⟩ := rf.get hl
        obtain ⟨cc, hcc⟩ := Option.isSome_iff_exists.mp hcl
        have C := rd.top.cl c cc (clsAt_some hcc)
        obtain rfl : u = .ref a := rx
        exact getattr_ok I zi (by rw [rd.k]; exact C.cls) (by rw [rd.k]; exact C.no f hf) ew fun u' s2 I2 ru => ⟨wv, H, I2, ru, q ρ H .refl rh _ rw'⟩
      · cases e
    · rename_i c d hk'
      split at e
      · rename_i fs hd
        split at e
        · rename_i w hl
          split at e
          rotate_left
          · cases e
          rename_i hcl
          cases e
          obtain ⟨a, rfl, ea⟩ := r1.ref_inv
          obtain ⟨dx, vs, e1, e2, e3, rf⟩ := rh.exn hk' hd ea
          obtain ⟨wv, ew, rw'⟩ := rf.get hl
          obtain ⟨ee, hee⟩ := isExc_some hcl
          have O := rd.top.ex c ee hee
          obtain rfl : u = .ref a := rx
          obtain ⟨t1, ho⟩ := exo_at I.hok e2
          obtain ⟨mA, hns, hr⟩ := exd_at I.hok e3
          obtain ⟨od, ho2, hl2⟩ := lookIn_ns hns
          obtain ⟨u, hu, ru⟩ := RelO.some_of (v := wv) (o := mA f) (by rw [← ew]; exact hr f)
          have J : PySem.W.InstAt s.heap a { cls := .ref (T.G.ad c), dict := some dx, data := .fields #[.ref t1, .none, .none, .none, .bool false, .none] } (T.G.ad c) (some od) := ⟨ho, rfl, rfl, ho2⟩
          have X1 := I.kIn
          rw [rd.k] at X1
          exact HandSPX.exc_get X1 J O.xf.ga O.xf.gg O.xf.exC (PySem.W.findObj_own O.xf.hdC (O.no f hf) rfl (by rw [hl2, hu])) (handed_of ru) ⟨wv, H, I.tok _, ru, q ρ H .refl rh _ rw'⟩
        · cases e
      · cases e
    · cases e
  · cases e
/-- o.f = v -/
theorem setf_A (rd : Rdy T cal lvl X W) {f : Str} (hf : f ∈ T.flds) {pins : List (Addr × Obj)} {s : Shared} {σ : L2.St} {H : Hp} {ρ : List Addr} {h h' : AH} {xa ya : AV} {x y : V} {u w : Value} {Q : Unit → Shared → Prop} {E : Value → Shared → Prop} {A : Around}
    (I : Inv X pins σ H s) (rx : RelV x u) (ry : RelV y w) (r1 : RV T.G ρ H xa x) (r2 : RV T.G ρ H ya y) (rh : RH T.G ρ h H) (e : setFA T.Pr xa f ya h = some ((), h'))
    (q : ∀ s' ρ' H', Ext T.G ρ H ρ' H' → RH T.G ρ' h' H' → Inv X pins σ H' s' → Q () s') : wpAny (model X.prog X.w) A (setAttr u f w) Q E s := by
  unfold setFA at e
  split at e
  · rename_i k
    split at e
    · rename_i c fs hk'
      split at e
      · rename_i hl
        cases e
        obtain ⟨a, rfl, ea⟩ := r1.ref_inv
        obtain ⟨dx, vs, zi, rf⟩ := rh.ins hk' ea
        obtain ⟨cc, hcc⟩ := Option.isSome_iff_exists.mp hl.2
        have C := rd.top.cl c cc (clsAt_some hcc)
        obtain rfl : u = .ref a := rx
        obtain ⟨w0, hw0, _, hn1, hn2⟩ := (rh.at' k _ a hk' ea).is rfl
        have ex : Ext T.G ρ H ρ (upd H a (.ins (T.G.ad c) dx (putF f y vs))) := Ext.put hw0 hn1 hn2
        obtain ⟨rh', ex'⟩ := rh.put (o' := .ins c (putFA f ya fs)) (u := .ins (T.G.ad c) dx (putF f y vs)) hk' ea rfl rfl (.ins upd_same ((rf.put r2).ext ex))
        exact setattr_ok I zi (by rw [rd.k]; exact C.cls) (by rw [rd.k]; exact C.no f hf) (by rw [← rf.length]; omega) ry fun s' I' => q s' ρ _ ex' rh' I'
      · cases e
    · rename_i c hk'
      split at e
      · rename_i hcl
        cases e
        obtain ⟨a, rfl, ea⟩ := r1.ref_inv
        have e2 := rh.exn0 hk' ea
        obtain ⟨ee, hee⟩ := isExc_some hcl
        have O := rd.top.ex c ee hee
        obtain rfl : u = .ref a := rx
        refine ost_new (C := T.G.ad c) (by rw [rd.k]; exact O.oex) I e2 (by rw [rd.k]; exact O.no f hf) ry fun dx s' hn hne I' => ?_
        have ex1 : Ext T.G ρ H (ρ ++ [dx]) (upd H dx (exd dx [(f, y)])) := Ext.new hn [dx]
        have rh1 := rh.new (o := .xdc [(f, ya)]) (u := exd dx [(f, y)]) hn rfl (.xdc upd_same (.cons (r2.ext ex1) .nil))
        have hk1 : (h ++ [AO.xdc [(f, ya)]])[k]? = some (.exn c none) := by rw [List.getElem?_append_left (List.getElem?_eq_some_iff.mp hk').1]; exact hk'
        have ea1 := ex1.at ea
        have edx : (ρ ++ [dx])[h.length]? = some dx := by rw [← rh.len]; simp
        obtain ⟨rh2, ex2⟩ := rh1.put (o' := .exn c (some h.length)) (u := exo a (T.G.ad c) (some dx)) hk1 ea1 rfl rfl (.exn upd_same edx)
        exact q s' _ _ (ex1.trans ex2) rh2 I'
      · cases e
    · rename_i c d hk'
      split at e
      · rename_i fs hd
        split at e
        · rename_i hcl
          cases e
          obtain ⟨a, rfl, ea⟩ := r1.ref_inv
          obtain ⟨dx, vs, e1, e2, e3, rf⟩ := rh.exn hk' hd ea
          obtain ⟨ee, hee⟩ := isExc_some hcl.2
          have O := rd.top.ex c ee hee
          obtain rfl : u = .ref a := rx
          refine ost_old (C := T.G.ad c) (by rw [rd.k]; exact O.oex) I e2 e3 (by rw [← rf.length]; omega) (by rw [rd.k]; exact O.no f hf) ry fun s' I' => ?_
          obtain ⟨w0, hw0, _, hn1, hn2⟩ := (rh.at' d _ dx hd e1).is rfl
          have ex : Ext T.G ρ H ρ (upd H dx (exd dx ((f, y) :: vs))) := Ext.put hw0 hn1 hn2
          obtain ⟨rh', ex'⟩ := rh.put (o' := .xdc ((f, ya) :: fs)) (u := exd dx ((f, y) :: vs)) hd e1 rfl rfl (.xdc upd_same ((RF.cons r2 rf).ext ex))
          exact q s' ρ _ ex' rh' I'
        · cases e
      · cases e
    · cases e
  · cases e
end
end Mini
set_option autoImplicit false
set_option maxHeartbeats 4000000
/-! Mini, tenth part: expressions, rule by rule. -/
namespace Mini
open PySem PySem.Spec L2
open PyProof.Rows hiding St

theorem _root_.L2.PE.imp {X : Cx} {e : Expr} {t t' : TE} (h : PE X e t) (k : ∀ σ H Q, t' σ H Q → t σ H Q) : PE X e t' := ⟨fun pins s σ H Q I q => h.run pins s σ H Q I (k σ H Q q)⟩
theorem _root_.L2.PT.imp {X : Cx} {e : Expr} {t t' : TT} (h : PT X e t) (k : ∀ σ H Q, t' σ H Q → t σ H Q) : PT X e t' := ⟨fun pins s σ H Q I q => h.run pins s σ H Q I (k σ H Q q)⟩
theorem _root_.L2.PW.imp {X : Cx} {e : Expr} {t t' : TT} (h : PW X e t) (k : ∀ σ H Q, t' σ H Q → t σ H Q) : PW X e t' := ⟨fun wh pins s σ H Q I q => h.run wh pins s σ H Q I (k σ H Q q)⟩
theorem _root_.L2.PA.imp {X : Cx} {es : List Expr} {t t' : L2.TA} (h : PA X es t) (k : ∀ σ H Q, t' σ H Q → t σ H Q) : PA X es t' := ⟨fun pos pins s σ H Q I q => h.run pos pins s σ H Q I (k σ H Q q)⟩
theorem _root_.L2.PS.imp {X : Cx} {e : Stmt} {t t' : TS} (h : PS X e t) (k : ∀ D σ H, t' D σ H → t D σ H) : PS X e t' := ⟨fun pins s σ H Q I q => h.run pins s σ H Q I (k Q σ H q)⟩
theorem _root_.L2.PSs.imp {X : Cx} {e : List Stmt} {t t' : TS} (h : PSs X e t) (k : ∀ D σ H, t' D σ H → t D σ H) : PSs X e t' := ⟨fun pins s σ H Q I q => h.run pins s σ H Q I (k Q σ H q)⟩

section
variable (T : Top) (cal : Nat → List AV → AH → R AV) (W : WX)
/-- the states that stand for σ, H, and what is wanted of a run from them -/
def Rdg {α : Type} (run : Sg → AH → R α) (σ : L2.St) (H : Hp) (Q : α → AH → List Addr → Hp → Prop) : Prop :=
  ∃ ρ σA h, RG T.G ρ H σA σ ∧ RH T.G ρ h H ∧ Out T.G (WE W σ) ρ H (run σA h) Q
def rdE (m : ME) : TE := fun σ H Q => Rdg T W (evE T.Pr cal m) σ H fun x _ ρ' H' => ∀ v, RV T.G ρ' H' x v → Q v H'
def rdEs (ms : MEs) : L2.TA := fun σ H Q => Rdg T W (evEs T.Pr cal ms) σ H fun xs _ ρ' H' => ∀ vs, RVs T.G ρ' H' xs vs → Q vs H'
/-- a test: its value is a bool -/
def rdT (m : ME) : TT := fun σ H Q => Rdg T W (evE T.Pr cal m) σ H fun x _ ρ' H' => ∃ b, x = .bl b ∧ Q b H'
end
section
variable {T : Top} {cal : Nat → List AV → AH → R AV} {lvl : Nat} {X : Cx} {W : WX}
variable {a b c e : Expr} {ma mb mc m : ME} {pos : Pos}

theorem je_var (rd : Rdy T cal lvl X W) {i : Nat} {x : Str} (hN : X.N[i]? = some x) (hv : Vis X.env.scope x) (hd : (x == ("__debug__" : Str)) = false) (hcd : (x == ("__classdict__" : Str)) = false) : PE X (.Name x pos) (rdE T cal W (.var i)) :=
  (pe_var hN hv hd hcd).imp fun σ H Q h => by
    obtain ⟨ρ, σA, k, rs, rh, o⟩ := h
    unfold evE getS at o
    split at o
    · rename_i v e
      split at e
      · rename_i w e2
        cases e
        obtain ⟨u, h1, h2⟩ := rs.2 i _ e2
        exact ⟨u, h1, o ρ H .refl rh u h2⟩
      · cases e
    · exact o.elim
theorem je_int {i : Int} {j : Nat} : PE X (.Constant (.int i) j pos) (rdE T cal W (.int i)) := pe_int.imp fun σ H Q ⟨ρ, σA, k, rs, rh, o⟩ => o ρ H .refl rh _ (.int i)
theorem je_str {i : Str} {j : Nat} : PE X (.Constant (.str i) j pos) (rdE T cal W (.str i)) := pe_str.imp fun σ H Q ⟨ρ, σA, k, rs, rh, o⟩ => o ρ H .refl rh _ (.str i)
theorem je_bl {i : Bool} {j : Nat} : PE X (.Constant (.bool i) j pos) (rdE T cal W (.bl i)) := pe_bl.imp fun σ H Q ⟨ρ, σA, k, rs, rh, o⟩ => o ρ H .refl rh _ (.bl i)
theorem je_non {j : Nat} : PE X (.Constant .none j pos) (rdE T cal W .non) := pe_non.imp fun σ H Q ⟨ρ, σA, k, rs, rh, o⟩ => o ρ H .refl rh _ .non
/-- a class or def as a value, a constant of the module -/
theorem je_glo (rd : Rdy T cal lvl X W) {g : Nat} {x : Str} (hx : T.nm g = x) (hg : Gl X x) (hd : (x == ("__debug__" : Str)) = false) (hm : (∃ v, T.Pr g = some (.val v)) ∨ X.mg x = some (.ref (T.G.ad g))) : PE X (.Name x pos) (rdE T cal W (.glo g)) := by
  subst hx
  cases hp : T.Pr g with
  | none => exact ⟨fun pins s σ H Q I h => by
      obtain ⟨ρ, σA, k, rs, rh, o⟩ := h
      unfold evE at o
      rw [hp] at o
      exact o.elim⟩
  | some w =>
    have other : (∀ v, w ≠ .val v) → PE X (.Name (T.nm g) pos) (rdE T cal W (.glo g)) := fun hn => by
      have hm' : X.mg (T.nm g) = some (.ref (T.G.ad g)) := hm.elim (fun ⟨v, hv⟩ => absurd (Option.some.inj (hp.symm.trans hv)) (hn v)) id
      refine (pe_glob (v := .ref (T.G.ad g)) hg hm' rfl hd).imp fun σ H Q ⟨ρ, σA, k, rs, rh, o⟩ => ?_
      unfold evE at o
      rw [hp] at o
      cases w with
      | val v => exact absurd rfl (hn v)
      | def_ d => exact o ρ H .refl rh _ (.glo g)
      | cls c => exact o ρ H .refl rh _ (.glo g)
      | exc c => exact o ρ H .refl rh _ (.glo g)
    cases w with
    | val v =>
      obtain ⟨u, vv, h1, h2, h3⟩ := rd.top.val g v hp
      refine (pe_glob hg h1 h2 hd).imp fun σ H Q ⟨ρ, σA, k, rs, rh, o⟩ => ?_
      unfold evE at o
      rw [hp] at o
      exact o ρ H .refl rh _ (h3 ρ H)
    | def_ d => exact other (fun _ z => nomatch z)
    | cls c => exact other (fun _ z => nomatch z)
    | exc c => exact other (fun _ z => nomatch z)
/-- a built-in class as a value -/
theorem je_ty (rd : Rdy T cal lvl X W) {n : String} {x : Str} (hg : Gl X x) (hm : x ∈ bnames) (hv : bootBuiltins x = some (.type n)) (hn : x ≠ "__name__") (hd : (x == ("__debug__" : Str)) = false) : PE X (.Name x pos) (rdE T cal W (.ty n)) :=
  (pe_bltn (v := .ty n) hg (rd.top.un x hm) hv rfl hn hd).imp fun σ H Q ⟨ρ, σA, k, rs, rh, o⟩ => o ρ H .refl rh _ (.ty n)
/-- what two expressions in a row give -/
theorem two_r {α : Type} {σ : L2.St} {H : Hp} {f : AV → AV → AH → R α} {Q : α → AH → List Addr → Hp → Prop} {R' : V → V → Hp → Prop}
    (h : Rdg T W (fun σA h => (evE T.Pr cal ma σA h).bind fun x h1 => (evE T.Pr cal mb σA h1).bind fun y h2 => f x y h2) σ H Q)
    (k : ∀ ρ h H' x y v u, RV T.G ρ H' x v → RV T.G ρ H' y u → RH T.G ρ h H' → Out T.G (WE W σ) ρ H' (f x y h) Q → R' v u H') :
    rdE T cal W ma σ H fun v H1 => rdE T cal W mb σ H1 fun u H2 => R' v u H2 := by
  obtain ⟨ρ, σA, h, rs, rh, o⟩ := h
  refine ⟨ρ, σA, h, rs, rh, o.bind.imp fun x h1 ρ1 H1 e1 rh1 o1 v rv => ?_⟩
  refine ⟨ρ1, σA, h1, rs.ext e1, rh1, o1.bind.imp fun y h2 ρ2 H2 e2 rh2 o2 u ru => ?_⟩
  exact k ρ2 h2 H2 x y v u (rv.ext e2) ru rh2 o2
theorem one_r {α : Type} {σ : L2.St} {H : Hp} {f : Sg → AV → AH → R α} {Q : α → AH → List Addr → Hp → Prop} {R' : V → Hp → Prop}
    (h : Rdg T W (fun σA h => (evE T.Pr cal ma σA h).bind (f σA)) σ H Q)
    (k : ∀ ρ σA h H' x v, RG T.G ρ H' σA σ → RV T.G ρ H' x v → RH T.G ρ h H' → Out T.G (WE W σ) ρ H' (f σA x h) Q → R' v H') :
    rdE T cal W ma σ H R' := by
  obtain ⟨ρ, σA, h, rs, rh, o⟩ := h
  exact ⟨ρ, σA, h, rs, rh, o.bind.imp fun x h1 ρ1 H1 e1 rh1 o1 v rv => k ρ1 σA h1 H1 x v (rs.ext e1) rv rh1 o1⟩
theorem je_bop (rd : Rdy T cal lvl X W) {o : Bop} (ha : PE X a (rdE T cal W ma)) (hb : PE X b (rdE T cal W mb)) : PE X (.BinOp a (opOf o) b pos) (rdE T cal W (.bop o ma mb)) :=
  (pe_op (op_bop rd.k o) ha hb).imp fun σ H Q h => two_r (f := fun x y h => .of (bopA o x y h)) h fun ρ h H' x y v u rx ry rh o => by
    obtain ⟨z, h', e, q⟩ := o.of
    exact ⟨ρ, h, x, y, z, h', rx, ry, rh, e, q⟩
theorem je_neg (ha : PE X a (rdE T cal W ma)) : PE X (.UnaryOp .USub a pos) (rdE T cal W (.neg ma)) :=
  (pe_un un_neg ha).imp fun σ H Q h => one_r (f := fun _ => kNeg) h fun ρ σA h H' x v rs rx rh o => by
    cases rx with
    | int i => exact ⟨i, rfl, o ρ H' .refl rh _ (.int _)⟩
    | _ => exact o.elim
/-- comparisons -/
theorem op_cmpA (rd : Rdy T cal lvl X W) (o : Cop) : OpR X (compareOp (copOf o)) (r2 T.G (cmpA T.Pr cal o)) := by
  intro pins s σ H x y v u Q I rx ry hh
  obtain ⟨ρ, h, xa, ya, z, h', r1, r2, rh, e, q⟩ := hh
  have plain : cmpP o xa ya h = some (z, h') → wpAny (model X.prog X.w) X.A (compareOp (copOf o) v u) (EP X pins σ Q) X.xe s := fun e => op_cmpP rd.k rd.hu o pins s σ H x y v u Q I rx ry ⟨ρ, h, xa, ya, z, h', r1, r2, rh, e, q⟩
  unfold cmpA at e
  split at e
  · exact plain e
  · rename_i hne
    split at e
    · exact plain (by unfold cmpP; split; (· exact (hne _ _ rfl rfl).elim); exact e)
    · exact plain (by unfold cmpP; split; (· exact (hne _ _ rfl rfl).elim); exact e)
    · split at e
      · rename_i r er
        exact op_own rd .Eq "__eq__" rfl (fun _ _ => rfl) (·.eq) (fun g c e hP he => (rd.top.cl g c hP).eq e he) (fun g c e hP he => rd.top.cl3 g c e hP (.inl he)) pins s σ H x y v u Q I rx ry ⟨ρ, h, xa, ya, z, h', r1, r2, rh, by
          show (match ownA T.Pr cal (·.eq) xa ya h with | some r => r | none => none) = _
          rw [er]; exact e, q⟩
      · exact plain (by unfold cmpP; split; (· exact (hne _ _ rfl rfl).elim); exact e)
    · split at e
      · rename_i r er
        exact op_own rd .NotEq "__ne__" rfl (fun _ _ => rfl) (·.ne) (fun g c e hP he => (rd.top.cl g c hP).ne e he) (fun g c e hP he => rd.top.cl3 g c e hP (.inr he)) pins s σ H x y v u Q I rx ry ⟨ρ, h, xa, ya, z, h', r1, r2, rh, by
          show (match ownA T.Pr cal (·.ne) xa ya h with | some r => r | none => none) = _
          rw [er]; exact e, q⟩
      · exact plain (by unfold cmpP; split; (· exact (hne _ _ rfl rfl).elim); exact e)
    · cases e
theorem cmp_r {o : Cop} {σ : L2.St} {H : Hp} {Q : VK} (h : rdE T cal W (.cmp o ma mb) σ H Q) : tOp (r2 T.G (cmpA T.Pr cal o)) (rdE T cal W ma) (rdE T cal W mb) σ H Q :=
  two_r (f := fun x y h => .of (cmpA T.Pr cal o x y h)) h fun ρ h H' x y v u rx ry rh o => by
    obtain ⟨z, h', e, q⟩ := o.of
    exact ⟨ρ, h, x, y, z, h', rx, ry, rh, e, q⟩
theorem je_cmp (rd : Rdy T cal lvl X W) {o : Cop} (ha : PE X a (rdE T cal W ma)) (hb : PE X b (rdE T cal W mb)) (hm : behindInMarks (copOf o) b = false) : PE X (.Compare a [copOf o] [b] pos) (rdE T cal W (.cmp o ma mb)) :=
  (pe_cmpR (op_cmpA rd o) ha hb hm).imp fun σ H Q h => cmp_r h
theorem rdT_E {σ : L2.St} {H : Hp} {Q : Bool → Hp → Prop} (h : rdT T cal W m σ H Q) : rdE T cal W m σ H fun v H' => ∃ b, v = .bl b ∧ Q b H' := by
  obtain ⟨ρ, σA, h, rs, rh, o⟩ := h
  refine ⟨ρ, σA, h, rs, rh, o.imp fun x h1 ρ1 H1 e1 rh1 o1 v rv => ?_⟩
  obtain ⟨b, rfl, q⟩ := o1
  obtain rfl := rv.bl_inv
  exact ⟨b, rfl, q⟩
theorem jt_cmp (rd : Rdy T cal lvl X W) {o : Cop} (ha : PE X a (rdE T cal W ma)) (hb : PE X b (rdE T cal W mb)) (hm : behindInMarks (copOf o) b = false) : PT X (.Compare a [copOf o] [b] pos) (rdT T cal W (.cmp o ma mb)) :=
  (pt_cmpR (op_cmpA rd o) ha hb hm).imp fun σ H Q h => cmp_r (rdT_E h)
/-- a test by its value -/
theorem jt_val (h : PE X e (rdE T cal W m)) (he : ∀ whole, isTrue e X.env whole = (do let v ← whole; standAt e.pos; holding [v] (truthy v))) : PT X e (rdT T cal W m) := (pt_val h he).imp fun σ H Q h => rdT_E h
theorem chain_r {o o' : Cop} {σ : L2.St} {H : Hp} {Q : VK} (h : rdE T cal W (.cmp2 o o' ma mb mc) σ H Q) : tChain (r2 T.G (cmpA T.Pr cal o)) (r2 T.G (cmpA T.Pr cal o')) (rdE T cal W ma) (rdE T cal W mb) (rdE T cal W mc) σ H Q := by
  obtain ⟨ρ, σA, h, rs, rh, o⟩ := h
  refine ⟨ρ, σA, h, rs, rh, o.bind.imp fun x h1 ρ1 H1 e1 rh1 o1 v rv => ?_⟩
  refine ⟨ρ1, σA, h1, rs.ext e1, rh1, o1.bind.imp fun y h2 ρ2 H2 e2 rh2 o2 u ru => ?_⟩
  obtain ⟨z, h3, e3, q3⟩ := o2.bind.of
  refine ⟨ρ2, h2, x, y, z, h3, rv.ext e2, ru, rh2, e3, fun ρ3 H3 e4 rh3 w rw' => ?_⟩
  have o3 := q3 ρ3 H3 e4 rh3
  cases rw' with
  | bl k =>
    refine ⟨k, rfl, ?_⟩
    cases k with
    | true =>
      rw [if_pos rfl]
      refine ⟨ρ3, σA, h3, (rs.ext e1).ext (e2.trans e4), rh3, o3.bind.imp fun z4 h4 ρ4 H4 e5 rh4 o4 w4 rw4 => ?_⟩
      obtain ⟨z5, h5, e6, q5⟩ := o4.of
      exact ⟨ρ4, h4, y, z4, z5, h5, (ru.ext e4).ext e5, rw4, rh4, e6, q5⟩
    | false =>
      rw [if_neg Bool.false_ne_true]
      exact o3 ρ3 H3 .refl rh3 _ (.bl _)
  | _ => exact o3.elim
theorem je_cmp2 (rd : Rdy T cal lvl X W) {o o' : Cop} (ha : PE X a (rdE T cal W ma)) (hb : PE X b (rdE T cal W mb)) (hc : PE X c (rdE T cal W mc)) (hm : lastMarks [copOf o, copOf o'] [b, c] = false) :
    PE X (.Compare a [copOf o, copOf o'] [b, c] pos) (rdE T cal W (.cmp2 o o' ma mb mc)) :=
  (pe_chain (op_cmpA rd o) (op_cmpA rd o') ha hb hc hm).imp fun σ H Q h => chain_r h
theorem jt_cmp2 (rd : Rdy T cal lvl X W) {o o' : Cop} (ha : PE X a (rdE T cal W ma)) (hb : PE X b (rdE T cal W mb)) (hc : PE X c (rdE T cal W mc)) (hm : lastMarks [copOf o, copOf o'] [b, c] = false) :
    PT X (.Compare a [copOf o, copOf o'] [b, c] pos) (rdT T cal W (.cmp2 o o' ma mb mc)) :=
  (pt_chain (op_cmpA rd o) (op_cmpA rd o') ha hb hc hm).imp fun σ H Q h => chain_r (rdT_E h)
end
end Mini
set_option autoImplicit false
set_option maxHeartbeats 4000000
/-! Mini, eleventh part: and, or, not, displays, subscripts, fields, argument lists. -/
namespace Mini
open PySem PySem.Spec L2
open PyProof.Rows hiding St
section
variable {T : Top} {cal : Nat → List AV → AH → R AV} {lvl : Nat} {X : Cx} {W : WX}
variable {a b c e : Expr} {ma mb mc m : ME} {pos : Pos} {rest es : List Expr} {ms : MEs}

theorem je_and (ha : PE X a (rdE T cal W ma)) (hb : PE X (.BoolOp .And (b :: rest) pos) (rdE T cal W mb)) : PE X (.BoolOp .And (a :: b :: rest) pos) (rdE T cal W (.and_ ma mb)) :=
  (pe_and ha hb).imp fun σ H Q h => one_r (f := fun σA => kAnd (evE T.Pr cal mb σA)) h fun ρ σA h H' x v rs rx rh o => by
    cases rx with
    | bl k =>
      refine ⟨k, rfl, ?_⟩
      cases k with
      | true => rw [if_pos rfl]; exact ⟨ρ, σA, h, rs, rh, o⟩
      | false => rw [if_neg Bool.false_ne_true]; exact o ρ H' .refl rh _ (.bl _)
    | _ => exact o.elim
theorem je_or (ha : PE X a (rdE T cal W ma)) (hb : PE X (.BoolOp .Or (b :: rest) pos) (rdE T cal W mb)) : PE X (.BoolOp .Or (a :: b :: rest) pos) (rdE T cal W (.or_ ma mb)) :=
  (pe_or ha hb).imp fun σ H Q h => one_r (f := fun σA => kOr (evE T.Pr cal mb σA)) h fun ρ σA h H' x v rs rx rh o => by
    cases rx with
    | bl k =>
      refine ⟨k, rfl, ?_⟩
      cases k with
      | true => rw [if_pos rfl]; exact o ρ H' .refl rh _ (.bl _)
      | false => rw [if_neg Bool.false_ne_true]; exact ⟨ρ, σA, h, rs, rh, o⟩
    | _ => exact o.elim
theorem je_one {op : BoolOp} (ha : PE X a (rdE T cal W ma)) : PE X (.BoolOp op [a] pos) (rdE T cal W ma) := pe_one ha
theorem je_not (ha : PE X a (rdE T cal W ma)) : PE X (.UnaryOp .Not a pos) (rdE T cal W (.not_ ma)) :=
  (pe_not ha).imp fun σ H Q h => one_r (f := fun _ => kNot) h fun ρ σA h H' x v rs rx rh o => by
    cases rx with
    | bl k => exact ⟨k, rfl, o ρ H' .refl rh _ (.bl _)⟩
    | _ => exact o.elim
/-- a test's run, from its parts -/
theorem one_t {α : Type} {σ : L2.St} {H : Hp} {f : Sg → AV → AH → R α} {Q : α → AH → List Addr → Hp → Prop} {R' : Bool → Hp → Prop} (hb : ∀ s x h, (∀ b, x ≠ .bl b) → f s x h = .bad)
    (h : Rdg T W (fun σA h => (evE T.Pr cal ma σA h).bind (f σA)) σ H Q)
    (k : ∀ ρ σA h H' x, RG T.G ρ H' σA σ → RH T.G ρ h H' → Out T.G (WE W σ) ρ H' (f σA (.bl x) h) Q → R' x H') :
    rdT T cal W ma σ H R' := by
  obtain ⟨ρ, σA, h, rs, rh, o⟩ := h
  refine ⟨ρ, σA, h, rs, rh, o.bind.imp fun x h1 ρ1 H1 e1 rh1 o1 => ?_⟩
  cases x with
  | bl b => exact ⟨b, rfl, k ρ1 σA h1 H1 b (rs.ext e1) rh1 o1⟩
  | _ => rw [hb _ _ _ (by intro b z; cases z)] at o1; exact o1.elim
theorem jw_and (ha : PT X a (rdT T cal W ma)) (hb : PW X (.BoolOp .And (b :: rest) pos) (rdT T cal W mb)) : PW X (.BoolOp .And (a :: b :: rest) pos) (rdT T cal W (.and_ ma mb)) :=
  (pw_and ha hb).imp fun σ H Q h => one_t (f := fun σA => kAnd (evE T.Pr cal mb σA)) (fun s x h hx => by cases x <;> first | rfl | exact absurd rfl (hx _)) h fun ρ σA h H' x rs rh o => by
    cases x with
    | true => rw [if_pos rfl]; exact ⟨ρ, σA, h, rs, rh, o⟩
    | false =>
      rw [if_neg Bool.false_ne_true]
      obtain ⟨b, e, q⟩ := o ρ H' .refl rh
      cases e
      exact q
theorem jw_or (ha : PT X a (rdT T cal W ma)) (hb : PW X (.BoolOp .Or (b :: rest) pos) (rdT T cal W mb)) : PW X (.BoolOp .Or (a :: b :: rest) pos) (rdT T cal W (.or_ ma mb)) :=
  (pw_or ha hb).imp fun σ H Q h => one_t (f := fun σA => kOr (evE T.Pr cal mb σA)) (fun s x h hx => by cases x <;> first | rfl | exact absurd rfl (hx _)) h fun ρ σA h H' x rs rh o => by
    cases x with
    | true =>
      rw [if_pos rfl]
      obtain ⟨b, e, q⟩ := o ρ H' .refl rh
      cases e
      exact q
    | false => rw [if_neg Bool.false_ne_true]; exact ⟨ρ, σA, h, rs, rh, o⟩
theorem jw_one {op : BoolOp} (ha : PT X a (rdT T cal W ma)) : PW X (.BoolOp op [a] pos) (rdT T cal W ma) := by
  cases op with
  | And => exact pw_and1 ha
  | Or => exact pw_or1 ha
theorem jt_not (ha : PT X a (rdT T cal W ma)) : PT X (.UnaryOp .Not a pos) (rdT T cal W (.not_ ma)) :=
  (pt_not ha).imp fun σ H Q h => one_t (f := fun _ => kNot) (fun s x h hx => by cases x <;> first | rfl | exact absurd rfl (hx _)) h fun ρ σA h H' x rs rh o => by
    obtain ⟨b, e, q⟩ := o ρ H' .refl rh
    cases e
    exact q
theorem je_ite (hc : PT X c (rdT T cal W mc)) (ha : PE X a (rdE T cal W ma)) (hb : PE X b (rdE T cal W mb)) : PE X (.IfExp c a b pos) (rdE T cal W (.ite mc ma mb)) :=
  (pe_ifExp hc ha hb).imp fun σ H Q h => one_t (f := fun σA => kIte (evE T.Pr cal ma σA) (evE T.Pr cal mb σA)) (fun s x h hx => by cases x <;> first | rfl | exact absurd rfl (hx _)) h fun ρ σA h H' x rs rh o => by
    cases x with
    | true => rw [if_pos rfl]; exact ⟨ρ, σA, h, rs, rh, o⟩
    | false => rw [if_neg Bool.false_ne_true]; exact ⟨ρ, σA, h, rs, rh, o⟩
/-! ### argument lists -/
theorem ja_nil : PA X [] (rdEs T cal W .nil) := pa_nil.imp fun σ H Q ⟨ρ, σA, h, rs, rh, o⟩ => o ρ H .refl rh _ .nil
theorem ja_cons (ha : PE X e (rdE T cal W m)) (hr : PA X es (rdEs T cal W ms)) (hs : starEach (e :: es) X.env = (false, eval e X.env) :: starEach es X.env) : PA X (e :: es) (rdEs T cal W (.cons m ms)) :=
  (pa_cons ha hr hs).imp fun σ H Q h => one_r (f := fun σA x h1 => (evEs T.Pr cal ms σA h1).bind fun vs h2 => .ok (x :: vs) h2) h fun ρ σA h H' x v rs rx rh o => by
    refine ⟨ρ, σA, h, rs, rh, o.bind.imp fun xs h1 ρ1 H1 e1 rh1 o1 vs rvs => ?_⟩
    exact o1 ρ1 H1 .refl rh1 _ (.cons (rx.ext e1) rvs)
theorem args_r {α : Type} {σ : L2.St} {H : Hp} {f : Sg → List AV → AH → R α} {Q : α → AH → List Addr → Hp → Prop} {R' : List V → Hp → Prop}
    (h : Rdg T W (fun σA h => (evEs T.Pr cal ms σA h).bind (f σA)) σ H Q)
    (k : ∀ ρ σA h H' xs vs, RG T.G ρ H' σA σ → RVs T.G ρ H' xs vs → RH T.G ρ h H' → Out T.G (WE W σ) ρ H' (f σA xs h) Q → R' vs H') :
    rdEs T cal W ms σ H R' := by
  obtain ⟨ρ, σA, h, rs, rh, o⟩ := h
  exact ⟨ρ, σA, h, rs, rh, o.bind.imp fun x h1 ρ1 H1 e1 rh1 o1 v rv => k ρ1 σA h1 H1 x v (rs.ext e1) rv rh1 o1⟩
theorem je_tup {x1 : Nat} (h : PA X es (rdEs T cal W ms)) : PE X (.Tuple es x1 pos) (rdE T cal W (.tup ms)) :=
  (pe_tup h).imp fun σ H Q h => args_r (f := fun _ => kTup) h fun ρ σA h H' xs vs rs rx rh o => by
    unfold kTup at o
    split at o
    · rename_i hl
      refine ⟨by rw [← rx.length]; exact hl, fun p hp => ?_⟩
      have ex : Ext T.G ρ H' ρ (upd H' p (.tup vs)) := by
        have := Ext.new (G := T.G) (ρ := ρ) (u := .tup vs) hp []
        simpa using this
      exact o ρ _ ex ⟨rh.len, fun k o b h1 h2 => (rh.at' k o b h1 h2).stay ex fun u hu => by rw [upd_ne (ne_of_none hu hp)]; exact hu, rh.nd⟩ _ (.tup (.inl upd_same) (rx.ext ex))
    · exact o.elim
theorem je_lst (h : PA X es (rdEs T cal W ms)) : PE X (.List es pos) (rdE T cal W (.lst ms)) :=
  (pe_lst h).imp fun σ H Q h => args_r (f := fun _ => kLst) h fun ρ σA h H' xs vs rs rx rh o => by
    unfold kLst at o
    split at o
    · rename_i hl
      refine ⟨by rw [← rx.length]; exact hl, fun p hp => ?_⟩
      have ex : Ext T.G ρ H' (ρ ++ [p]) (upd H' p (.lst vs)) := Ext.new hp [p]
      exact o _ _ ex (rh.new hp rfl (.lst upd_same (rx.ext ex))) _ (.fresh rh)
    · exact o.elim
theorem je_idx (rd : Rdy T cal lvl X W) (ha : PE X a (rdE T cal W ma)) (hb : PE X b (rdE T cal W mb)) (hs : PlainIx b) : PE X (.Subscript a b pos) (rdE T cal W (.idx ma mb)) :=
  (pe_ix (ix_A rd.k (by have := rd.hu; omega)) ha hb hs).imp fun σ H Q h => two_r (f := fun x y h => .of (idxA x y h)) h fun ρ h H' x y v u rx ry rh o => by
    obtain ⟨z, h', e, q⟩ := o.of
    exact ⟨ρ, h, x, y, z, h', rx, ry, rh, e, q⟩
theorem je_fld (rd : Rdy T cal lvl X W) {f : Str} (hf : f ∈ T.flds) (ha : PE X a (rdE T cal W ma)) (hb : attributeBase a f X.env (eval a X.env) = eval a X.env) : PE X (.Attribute a f pos) (rdE T cal W (.fld ma f)) := by
  refine ⟨fun pins s σ H Q I h => ?_⟩
  have h2 : rdE T cal W ma σ H fun v H' => ∃ ρ h1 x, RV T.G ρ H' x v ∧ RH T.G ρ h1 H' ∧ Out T.G (WE W σ) ρ H' (.of (fldA T.Pr x f h1)) (fun x _ ρ' H' => ∀ v, RV T.G ρ' H' x v → Q v H') :=
    one_r (f := fun _ x h1 => .of (fldA T.Pr x f h1)) h fun ρ σA h1 H' x v rs rx rh o => ⟨ρ, h1, x, rx, rh, o⟩
  refine attr_of hb (thn (ha.run pins s σ H _ I h2) fun u s1 ⟨v, H1, I1, rv, ρ, h1, x, rx, rh, o⟩ => ?_)
  obtain ⟨z, h', e, q⟩ := o.of
  exact fld_A rd hf I1 rv rx rh e q
end
end Mini
set_option autoImplicit false
set_option maxHeartbeats 4000000
/-! Mini, twelfth part: calls. -/
namespace Mini
open PySem PySem.Spec L2
open PyProof.Rows hiding St
/-- binding goes along with relations -/
theorem findK_rel {α β : Type} {R : α → β → Prop} {k : Str} : ∀ {ks : List Str} {zs : List α} {ws : List β} {x : α}, Paired R zs ws → findK k ks zs = some x → ∃ y, findK k ks ws = some y ∧ R x y
  | [], zs, ws, x, _, e => by cases zs <;> cases e
  | _ :: _, [], ws, x, _, e => by cases e
  | y :: ks, z :: zs, w :: ws, x, .cons r t, e => by
    unfold findK at e ⊢
    by_cases h : y = k
    · rw [if_pos h] at e ⊢
      cases e
      exact ⟨w, rfl, r⟩
    · rw [if_neg h] at e ⊢
      exact findK_rel t e
theorem optAll_rel {α β γ : Type} {R : α → β → Prop} {f : γ → Option α} {g : γ → Option β} (h : ∀ c x, f c = some x → ∃ y, g c = some y ∧ R x y) : ∀ {cs : List γ} {xs : List α}, optAll f cs = some xs → ∃ ys, optAll g cs = some ys ∧ Paired R xs ys
  | [], xs, e => by cases e; exact ⟨[], rfl, .nil⟩
  | c :: cs, xs, e => by
    unfold optAll at e
    split at e
    · rename_i d ds h1 h2
      cases e
      obtain ⟨y, e1, r1⟩ := h c d h1
      obtain ⟨ys, e2, r2⟩ := optAll_rel h h2
      exact ⟨y :: ys, by unfold optAll; rw [e1, e2], .cons r1 r2⟩
    · cases e
theorem paired_append {α β : Type} {R : α → β → Prop} : ∀ {xs zs : List α} {ys ws : List β}, Paired R xs ys → Paired R zs ws → Paired R (xs ++ zs) (ys ++ ws)
  | _, _, _, _, .nil, s => s
  | _, _, _, _, .cons r t, s => .cons r (paired_append t s)
theorem bindK_rel {α β : Type} {R : α → β → Prop} {ps ks : List Str} {vs zs bs : List α} {us ws : List β} (r1 : Paired R vs us) (r2 : Paired R zs ws) (e : bindK ps vs ks zs = some bs) : ∃ cs, bindK ps us ks ws = some cs ∧ Paired R bs cs := by
  unfold bindK at e ⊢
  split at e
  · rename_i c
    rw [if_pos ⟨by rw [← Paired.length r1]; exact c.1, by rw [← Paired.length r2]; exact c.2⟩]
    rw [← Paired.length r1]
    cases q : optAll (fun p => findK p ks zs) (ps.drop vs.length) with
    | none => rw [q] at e; cases e
    | some xs =>
      rw [q] at e
      cases e
      obtain ⟨ys, e2, r3⟩ := optAll_rel (g := fun p => findK p ks ws) (fun c x h => findK_rel r2 h) q
      exact ⟨us ++ ys, by rw [e2]; rfl, paired_append r1 r3⟩
  · cases e
theorem optAll_length {α γ : Type} {f : γ → Option α} : ∀ {cs : List γ} {xs : List α}, optAll f cs = some xs → xs.length = cs.length
  | [], xs, e => by cases e; rfl
  | c :: cs, xs, e => by
    unfold optAll at e
    split at e
    · rename_i d ds h1 h2
      cases e
      rw [List.length_cons, List.length_cons, optAll_length h2]
    · cases e
theorem bindK_length {α : Type} {ps ks : List Str} {vs zs bs : List α} (e : bindK ps vs ks zs = some bs) : bs.length = ps.length := by
  unfold bindK at e
  split at e
  · rename_i c
    cases q : optAll (fun p => findK p ks zs) (ps.drop vs.length) with
    | none => rw [q] at e; cases e
    | some xs =>
      rw [q] at e
      cases e
      rw [List.length_append, optAll_length q, List.length_drop]
      omega
  · cases e
/-- with one more ahead -/
theorem bindK_cons {α : Type} {p : Str} {ps ks : List Str} {x : α} {vs zs bs : List α} (e : bindK ps vs ks zs = some bs) : bindK (p :: ps) (x :: vs) ks zs = some (x :: bs) := by
  unfold bindK at e ⊢
  split at e
  · rename_i c
    rw [if_pos ⟨by simp only [List.length_cons]; omega, c.2⟩]
    rw [List.length_cons, List.drop_succ_cons]
    cases q : optAll (fun p => findK p ks zs) (ps.drop vs.length) with
    | none => rw [q] at e; cases e
    | some xs => rw [q] at e; cases e; rfl
  · cases e
section
variable {T : Top} {cal : Nat → List AV → AH → R AV} {lvl : Nat} {X : Cx} {W : WX} {G : Gr}
theorem RVs.paired {ρ : List Addr} {H : Hp} : ∀ {xs : List AV} {vs : List V}, RVs G ρ H xs vs → Paired (RV G ρ H) xs vs
  | _, _, .nil => .nil
  | _, _, .cons r t => .cons r (RVs.paired t)
theorem RVs.of {ρ : List Addr} {H : Hp} : ∀ {xs : List AV} {vs : List V}, Paired (RV G ρ H) xs vs → RVs G ρ H xs vs
  | _, _, .nil => .nil
  | _, _, .cons r t => .cons r (RVs.of t)
/-- a thing that is not of the store is laid -/
theorem RH.beside {ρ : List Addr} {h : AH} {H : Hp} (r : RH G ρ h H) {p : Addr} {u : HO} (hp : H p = none) : RH G ρ h (upd H p u) ∧ Ext G ρ H ρ (upd H p u) := by
  have ex : Ext G ρ H ρ (upd H p u) := by
    have := Ext.new (G := G) (ρ := ρ) (u := u) hp []
    simpa using this
  exact ⟨⟨r.len, fun k o b h1 h2 => (r.at' k o b h1 h2).stay ex fun v hv => by rw [upd_ne (ne_of_none hv hp)]; exact hv, r.nd⟩, ex⟩
/-- a new exception object, then __init__ -/
theorem run_mkE {C fI : Addr} {k : Nat} {fd : FuncData} {ps : List Str} {sp : Sp} {pins : List (Addr × Obj)} {σ : L2.St} {H : Hp} {s : Shared} {Q : VK} {us : List Value} {kw : List (Str × Value)} {vs : List V} {bs : List Value}
    (O : OexC X.K C) (iC : PySem.W.findIn X.K (.ref C) "__init__" = some (some (.ref fI))) (tI : PySem.W.typeIn X.K (.ref fI) = some (.type "function")) (F : FnG X.prog X.w X.K X.mg X.base k fI fd ps sp) (hg : X.A.guards = some []) (hr : Room (k + 1) X.A) (tk : Takes X W)
    (I : Inv X pins σ H s) (b : ∀ (s : Shared) (x : Value), BindsTo s fd ⟨x :: us, kw⟩ (ps.zip (x :: bs))) (r : Vals vs bs) (hus : us.length ≤ sizeLine)
    (h : ∀ x, H x = none → sp (.ref x :: vs) (upd H x (exo x C none)) (fun v H2 => v = .non ∧ Q (.ref x) H2) (WE W σ)) :
    wpAny (model X.prog X.w) X.A (call (.ref C) us kw) (EP X pins σ Q) X.xe s := by
  obtain ⟨nm, q, N, bs', bm, sn, sub, ab, col, dd, k0, k1, k2, k3, k5, hC, hbm⟩ := O.cls
  obtain ⟨hp, g, dr, tk', os⟩ := s
  have hsz : hp.objs.size ≤ hp.objs.size + 1 := Nat.le_succ _
  have hn : H (hp.objs.size + 1) = none := I.hok.fresh hsz
  have hq := h (hp.objs.size + 1) hn
  have kk : ∀ b o, hp.get? b = some o → ((hp.push (PySem.W.kdv_tup us)).push (PySem.HandSPX.excO C hp.objs.size)).get? b = some o := fun b o e => Heap.get?_push_of_some _ (Heap.get?_push_of_some _ e)
  have hget : ((hp.push (PySem.W.kdv_tup us)).push (PySem.HandSPX.excO C hp.objs.size)).get? (hp.objs.size + 1) = some (PySem.HandSPX.excO C hp.objs.size) := by heap_get
  have I2 : Inv X pins σ (upd H (hp.objs.size + 1) (exo (hp.objs.size + 1) C none)) ⟨(hp.push (PySem.W.kdv_tup us)).push (PySem.HandSPX.excO C hp.objs.size), g, dr, tk', os⟩ :=
    I.laid (t' := tk') (a := hp.objs.size + 1) (o := exo (hp.objs.size + 1) C none) (h' := (hp.push (PySem.W.kdv_tup us)).push (PySem.HandSPX.excO C hp.objs.size)) kk hsz (exo_ok hget)
  have r2 : Vals (V.ref (hp.objs.size + 1) :: vs) (Value.ref (hp.objs.size + 1) :: bs) := .cons rfl r
  refine wpAny_call (kw_call_own PySem.F.excBase_ValueError (fun Y => PySem.HandSPX.refsVE_contains Y bm hbm) (I.kIn _ _ hC) (PySem.W.looks_findIn I.kIn iC) (fun self => PySem.W.bind_fn I.kIn self tI) hus
    (codeAny_mono (F.run _ X.stack _ _ ⟨Value.ref (hp.objs.size + 1) :: us, kw⟩ (Value.ref (hp.objs.size + 1) :: bs) _ _ (WE W σ) (guards_make hg _ _ _) (hr.make C us kw) (I2.env0.make C us kw) (b _ _) r2 hq) fun r s' hq' => ?_))
  cases r with
  | error er => exact passAt tk σ pins _ _ er s' I2 hq'
  | ok fl =>
    cases fl with
    | ret u =>
      obtain ⟨v, H', I3, rv, ev, q3⟩ := I2.after hq'
      subst ev
      exact ⟨rv, ⟨V.ref (hp.objs.size + 1), H', I3, rfl, q3⟩⟩
    | next => exact False.elim hq'
    | brk => exact False.elim hq'
    | cont => exact False.elim hq'
/-- a call by values -/
theorem run_call (rd : Rdy T cal lvl X W) {pins : List (Addr × Obj)} {s : Shared} {σ : L2.St} {H : Hp} {ρ : List Addr} {h : AH} {g : Nat} {xs zs bs : List AV} {vs vz : List V} {us ws : List Value} {ks ps : List Str} {Q : VK}
    (I : Inv X pins σ H s) (r : Vals vs us) (rz : Vals vz ws) (rx : RVs T.G ρ H xs vs) (rxz : RVs T.G ρ H zs vz) (rh : RH T.G ρ h H) (hp : paramsOf T.Pr g = some ps) (hb : bindK ps xs ks zs = some bs) (hkw : kwOk ps xs.length ks = true)
    (o : Out T.G (WE W σ) ρ H (callG T.Pr cal g bs h) fun x _ ρ' H' => ∀ v, RV T.G ρ' H' x v → Q v H') : wpAny (model X.prog X.w) X.A (call (.ref (T.G.ad g)) us (ks.zip ws)) (EP X pins σ Q) X.xe s := by
  obtain ⟨vb, e1, r1⟩ := bindK_rel rx.paired rxz.paired hb
  obtain ⟨ub, e2, r2⟩ := bindK_rel (R := RelV) r rz e1
  have rb := RVs.of r1
  rw [rx.length, Paired.length r] at hkw
  unfold callG at o
  unfold paramsOf at hp
  cases hg : T.Pr g with
  | none => rw [hg] at o; exact o.elim
  | some w =>
    rw [hg] at o hp
    cases w with
    | val v => exact o.elim
    | def_ d =>
      cases hp
      obtain ⟨fd, F, hbd⟩ := rd.tab.fn g d hg
      have F' : FnG X.prog X.w X.K X.mg X.base lvl (T.G.ad g) fd d.params (spC T.G cal g d.np) := by rw [rd.k]; exact F
      refine run_G F' rd.gd (rd.room.mono (Nat.le_succ _)) rd.tk I (.of_eq (hbd us ks ws ub e2 hkw)) r2 ⟨?_, ρ, bs, h, rb, rh, o⟩
      rw [← rd.top.np g d hg, ← bindK_length e1]
    | cls c =>
      obtain ⟨d, p, ps', hd, hps⟩ := rd.top.cl2 g c hg
      dsimp only at hp
      rw [hd] at hp
      cases hp
      have hps1 : List.drop 1 d.params = ps' := by rw [hps]; rfl
      rw [hps1] at hb e1 e2 hkw
      have C := rd.top.cl g c hg
      obtain ⟨fd, F, hbd⟩ := rd.tab.fn c.init d hd
      have F' : FnG X.prog X.w X.K X.mg X.base lvl (T.G.ad c.init) fd d.params (spC T.G cal c.init d.np) := by rw [rd.k]; exact F
      refine run_mkG (by rw [rd.k]; exact C.mkr) F' rd.gd rd.room rd.tk I (bs := ub) (fun s x _ => .of_eq (hbd (x :: us) ks ws (x :: ub) (by rw [hps]; exact bindK_cons e2) (by rw [hps, List.length_cons]; unfold kwOk at hkw ⊢; rw [List.drop_succ_cons]; exact hkw))) r2 fun x dx hx hdx hne => ?_
      obtain ⟨rh1, ex1⟩ := rh.beside (u := .own x) hdx
      have hx1 : upd H dx (.own x) x = none := by rw [upd_ne (Ne.symm hne)]; exact hx
      have ex2 : Ext T.G ρ (upd H dx (.own x)) (ρ ++ [x]) (upd (upd H dx (.own x)) x (.ins (T.G.ad g) dx [])) := Ext.new hx1 [x]
      have rh2 := rh1.new (o := .ins g []) (u := .ins (T.G.ad g) dx []) hx1 rfl (.ins upd_same .nil)
      have ex := ex1.trans ex2
      have rx0 : RV T.G (ρ ++ [x]) (upd (upd H dx (.own x)) x (.ins (T.G.ad g) dx [])) (.ref h.length) (.ref x) := .fresh rh
      refine ⟨?_, ρ ++ [x], .ref h.length :: bs, h ++ [.ins g []], .cons rx0 (rb.ext ex), rh2, ?_⟩
      · rw [← rd.top.np c.init d hd, hps, List.length_cons, List.length_cons, ← bindK_length e1]
      · dsimp only at o
        cases hc : cal c.init (.ref h.length :: bs) (h ++ [.ins g []]) with
        | bad => rw [hc] at o; exact o.elim
        | exc c' fs h' =>
          rw [hc] at o
          exact fun ρ' H' cls d' e rh' x' => o ρ' H' cls d' (ex.trans e) rh' x'
        | ok a h' =>
          rw [hc] at o
          cases a with
          | non =>
            intro ρ' H' e rh' v rv
            cases rv
            exact ⟨rfl, o ρ' H' (ex.trans e) rh' _ (rx0.ext e)⟩
          | _ => exact o.elim
    | exc ee =>
      cases hi : ee.init with
      | none =>
        dsimp only at hp
        rw [hi] at hp
        cases hp
      | some i =>
        obtain ⟨d, p, ps', hd, hps⟩ := rd.top.ex2 g ee i hg hi
        dsimp only at hp o
        rw [hi] at hp o
        dsimp only at hp o
        rw [hd] at hp
        cases hp
        have hps1 : List.drop 1 d.params = ps' := by rw [hps]; rfl
        rw [hps1] at hb e1 e2 hkw
        by_cases hle : bs.length ≤ 1000
        · rw [if_pos hle] at o
          have O := rd.top.ex g ee hg
          obtain ⟨i1, i2⟩ := O.init i hi
          obtain ⟨fd, F, hbd⟩ := rd.tab.fn i d hd
          have F' : FnG X.prog X.w X.K X.mg X.base lvl (T.G.ad i) fd d.params (spC T.G cal i d.np) := by rw [rd.k]; exact F
          have hul : us.length ≤ sizeLine := by
            have h1 := bindK_length e2
            have h2 : bs.length = ub.length := by rw [Paired.length r1, Paired.length r2]
            have h3 : us.length ≤ ub.length := by
              unfold bindK at e2
              split at e2
              · rename_i c; omega
              · cases e2
            rw [sizeLine_eq]; omega
          refine run_mkE (by rw [rd.k]; exact O.oex) (by rw [rd.k]; exact i1) (by rw [rd.k]; exact i2) F' rd.gd rd.room rd.tk I (bs := ub) (fun s x => .of_eq (hbd (x :: us) ks ws (x :: ub) (by rw [hps]; exact bindK_cons e2) (by rw [hps, List.length_cons]; unfold kwOk at hkw ⊢; rw [List.drop_succ_cons]; exact hkw))) r2 hul fun x hx => ?_
          have ex : Ext T.G ρ H (ρ ++ [x]) (upd H x (exo x (T.G.ad g) none)) := Ext.new hx [x]
          have rh2 := rh.new (o := .exn g none) (u := exo x (T.G.ad g) none) hx rfl (.exn0 upd_same)
          have rx0 : RV T.G (ρ ++ [x]) (upd H x (exo x (T.G.ad g) none)) (.ref h.length) (.ref x) := .fresh rh
          refine ⟨?_, ρ ++ [x], .ref h.length :: bs, h ++ [.exn g none], .cons rx0 (rb.ext ex), rh2, ?_⟩
          · rw [← rd.top.np i d hd, hps, List.length_cons, List.length_cons, ← bindK_length e1]
          · cases hc : cal i (.ref h.length :: bs) (h ++ [.exn g none]) with
            | bad => rw [hc] at o; exact o.elim
            | exc c' fs h' =>
              rw [hc] at o
              exact fun ρ' H' cls d' e rh' x' => o ρ' H' cls d' (ex.trans e) rh' x'
            | ok a h' =>
              rw [hc] at o
              cases a with
              | non =>
                intro ρ' H' e rh' v rv
                cases rv
                exact ⟨rfl, o ρ' H' (ex.trans e) rh' _ (rx0.ext e)⟩
              | _ => exact o.elim
        · rw [if_neg hle] at o
          exact o.elim
end
/-! ### call expressions -/
section
variable {T : Top} {cal : Nat → List AV → AH → R AV} {lvl : Nat} {X : Cx} {W : WX}
variable {a e : Expr} {ma m : ME} {pos p : Pos} {es : List Expr} {ms mk : MEs} {kws : List Keyword}
/-- the keywords' values -/
theorem jk_nil : PK X [] (rdEs T cal W .nil) := ⟨fun pos pins s σ H Q I ⟨ρ, σA, h, rs, rh, o⟩ => pk_nil.run pos pins s σ H Q I (o ρ H .refl rh _ .nil)⟩
theorem jk_cons {nm : Option Str} {kpos : Pos} (ha : PE X e (rdE T cal W m)) (hr : PK X kws (rdEs T cal W ms)) : PK X (⟨nm, e, kpos⟩ :: kws) (rdEs T cal W (.cons m ms)) := by
  refine ⟨fun pos pins s σ H Q I h => (pk_cons (nm := nm) (kpos := kpos) ha hr).run pos pins s σ H Q I ?_⟩
  exact one_r (f := fun σA x h1 => (evEs T.Pr cal ms σA h1).bind fun vs h2 => .ok (x :: vs) h2) h fun ρ σA h H' x v rs rx rh o => by
    refine ⟨ρ, σA, h, rs, rh, o.bind.imp fun xs h1 ρ1 H1 e1 rh1 o1 vs rvs => ?_⟩
    exact o1 ρ1 H1 .refl rh1 _ (.cons (rx.ext e1) rvs)
/-- how a def or class of the program is found by its name -/
structure Named (T : Top) (X : Cx) (g : Nat) (x : Str) : Prop where
  gl : Gl X x
  mg : X.mg x = some (.ref (T.G.ad g))
  db : (x == ("__debug__" : Str)) = false
  kp : PySem.W.keepIn T.G.K (.ref (T.G.ad g)) = true
theorem Named.kx (rd : Rdy T cal lvl X W) {g : Nat} {x : Str} (N : Named T X g x) : PySem.W.keepIn X.K (.ref (T.G.ad g)) = true := by rw [rd.k]; exact N.kp
theorem run_callP (rd : Rdy T cal lvl X W) {pins : List (Addr × Obj)} {s : Shared} {σ : L2.St} {H : Hp} {ρ : List Addr} {h : AH} {g : Nat} {xs : List AV} {vs : List V} {us : List Value} {Q : VK}
    (I : Inv X pins σ H s) (r : Vals vs us) (rx : RVs T.G ρ H xs vs) (rh : RH T.G ρ h H)
    (o : Out T.G (WE W σ) ρ H (callP T.Pr cal g xs h) fun x _ ρ' H' => ∀ v, RV T.G ρ' H' x v → Q v H') : wpAny (model X.prog X.w) X.A (call (.ref (T.G.ad g)) us) (EP X pins σ Q) X.xe s := by
  unfold callP at o
  split at o
  · rename_i ps hps
    split at o
    · rename_i hl
      exact run_call rd (ks := []) (ws := []) (vz := []) (zs := []) I r .nil rx .nil rh hps (bindK_nil hl) rfl o
    · exact o.elim
  · exact o.elim
/-- f(e, ..), C(e, ..) -/
theorem je_call (rd : Rdy T cal lvl X W) {g : Nat} {x : Str} (N : Named T X g x) (ha : PA X (e :: es) (rdEs T cal W ms))
    (he : starEach (e :: es) X.env = (false, eval e X.env) :: starEach es X.env) (hpl : (backTo pos (starEach es X.env)).any (·.1) = false) : PE X (.Call (.Name x p) (e :: es) [] pos) (rdE T cal W (.call g ms)) := by
  refine ⟨fun pins s σ H Q I h => ?_⟩
  have h2 : rdEs T cal W ms σ H fun vs H' => ∃ ρ h1 xs, RVs T.G ρ H' xs vs ∧ RH T.G ρ h1 H' ∧ Out T.G (WE W σ) ρ H' (callP T.Pr cal g xs h1) (fun x _ ρ' H' => ∀ v, RV T.G ρ' H' x v → Q v H') :=
    args_r (f := fun _ => callP T.Pr cal g) h fun ρ σA h1 H' xs vs rs rv rh o => ⟨ρ, h1, xs, rv, rh, o⟩
  refine wpAny_Call_Name_kw (ld_glob I N.gl N.mg ?_ N.db)
  refine PySem.W.callWith_K (h₀ := X.base) I.ok.mod.kin (N.kx rd) (thn (ha.run pos pins s σ H _ I h2) fun us s1 ⟨vs, H1, I1, r, ρ, h1, xs, rv, rh, o⟩ => ⟨I1.kIn, ?_⟩) he hpl
  exact run_callP rd I1 r rv rh o
theorem je_call0 (rd : Rdy T cal lvl X W) {g : Nat} {x : Str} (N : Named T X g x) : PE X (.Call (.Name x p) [] [] pos) (rdE T cal W (.call g .nil)) := by
  refine ⟨fun pins s σ H Q I h => ?_⟩
  obtain ⟨ρ, σA, h1, rs, rh, o⟩ := h
  refine wpAny_Call_Name_kw (ld_glob I N.gl N.mg ?_ N.db)
  exact PySem.W.callWith_K0 I.kIn (N.kx rd) (run_callP rd I .nil .nil rh o)
theorem run_callKw (rd : Rdy T cal lvl X W) {pins : List (Addr × Obj)} {s : Shared} {σ : L2.St} {H : Hp} {ρ : List Addr} {h : AH} {g : Nat} {xs zs : List AV} {vs vz : List V} {us ws : List Value} {ks : List Str} {Q : VK}
    (I : Inv X pins σ H s) (r : Vals vs us) (rz : Vals vz ws) (rx : RVs T.G ρ H xs vs) (rxz : RVs T.G ρ H zs vz) (rh : RH T.G ρ h H)
    (o : Out T.G (WE W σ) ρ H (callKw T.Pr cal g ks xs zs h) fun x _ ρ' H' => ∀ v, RV T.G ρ' H' x v → Q v H') : wpAny (model X.prog X.w) X.A (call (.ref (T.G.ad g)) us (ks.zip ws)) (EP X pins σ Q) X.xe s := by
  unfold callKw at o
  split at o
  · rename_i ps hps
    split at o
    · rename_i bs hb
      by_cases hkw : kwOk ps xs.length ks = true
      · rw [if_pos hkw] at o
        exact run_call rd I r rz rx rxz rh hps hb hkw o
      · rw [if_neg hkw] at o
        exact o.elim
    · exact o.elim
  · exact o.elim
/-- f(e, .., k = v, ..), C(..) -/
theorem je_callk (rd : Rdy T cal lvl X W) {g : Nat} {x : Str} {ks : List Str} (N : Named T X g x) (ha : PA X (e :: es) (rdEs T cal W ms)) (hk : PK X kws (rdEs T cal W mk))
    (he : starEach (e :: es) X.env = (false, eval e X.env) :: starEach es X.env) (hall : (backToKw pos (keywordEach kws X.env)).all (·.1.isSome) = true) (hks : (backToKw pos (keywordEach kws X.env)).filterMap (·.1) = ks)
    (hpl : ((backTo pos (starEach (e :: es) X.env)).any (·.1) || (backToKw pos (keywordEach kws X.env)).any (·.1.isNone)) = false) : PE X (.Call (.Name x p) (e :: es) kws pos) (rdE T cal W (.callk g ms ks mk)) := by
  refine ⟨fun pins s σ H Q I h => ?_⟩
  have h2 : rdEs T cal W ms σ H fun vs H' => rdEs T cal W mk σ H' fun vz H2 => ∃ ρ h1 xs zs, RVs T.G ρ H2 xs vs ∧ RVs T.G ρ H2 zs vz ∧ RH T.G ρ h1 H2 ∧ Out T.G (WE W σ) ρ H2 (callKw T.Pr cal g ks xs zs h1) (fun x _ ρ' H' => ∀ v, RV T.G ρ' H' x v → Q v H') :=
    args_r (f := fun σA vs h1 => (evEs T.Pr cal mk σA h1).bind fun kvs h2 => callKw T.Pr cal g ks vs kvs h2) h fun ρ σA h1 H' xs vs rs rv rh o => by
      refine ⟨ρ, σA, h1, rs, rh, o.bind.imp fun zs h3 ρ1 H1 e1 rh1 o1 vz rvz => ⟨ρ1, h3, xs, zs, rv.ext e1, rvz, rh1, o1⟩⟩
  refine wpAny_Call_Name_kw (ld_glob I N.gl N.mg ?_ N.db)
  refine PySem.W.callWith_KW (h₀ := X.base) I.ok.mod.kin (N.kx rd) hall (thn (ha.run pos pins s σ H _ I h2) fun us s1 ⟨vs, H1, I1, r, q⟩ => ?_) hpl he
  refine thn (hk.run pos pins s1 σ H1 _ I1 q) fun ws s2 ⟨vz, H2, I2, rz, ρ, h1, xs, zs, rv, rvz, rh, o⟩ => ⟨I2.kIn, ?_⟩
  rw [hks]
  exact run_callKw rd I2 r rz rv rvz rh o
theorem je_callk0 (rd : Rdy T cal lvl X W) {g : Nat} {x : Str} {ks : List Str} (N : Named T X g x) (hk : PK X kws (rdEs T cal W mk))
    (hall : (backToKw pos (keywordEach kws X.env)).all (·.1.isSome) = true) (hks : (backToKw pos (keywordEach kws X.env)).filterMap (·.1) = ks)
    (hpl : ((backTo pos (starEach [] X.env)).any (·.1) || (backToKw pos (keywordEach kws X.env)).any (·.1.isNone)) = false) : PE X (.Call (.Name x p) [] kws pos) (rdE T cal W (.callk g .nil ks mk)) := by
  refine ⟨fun pins s σ H Q I h => ?_⟩
  have h2 : rdEs T cal W mk σ H fun vz H2 => ∃ ρ h1 zs, RVs T.G ρ H2 zs vz ∧ RH T.G ρ h1 H2 ∧ Out T.G (WE W σ) ρ H2 (callKw T.Pr cal g ks [] zs h1) (fun x _ ρ' H' => ∀ v, RV T.G ρ' H' x v → Q v H') :=
    args_r (f := fun σA kvs h2 => callKw T.Pr cal g ks [] kvs h2) h fun ρ σA h1 H' zs vz rs rv rh o => ⟨ρ, h1, zs, rv, rh, o⟩
  refine wpAny_Call_Name_kw (ld_glob I N.gl N.mg ?_ N.db)
  refine PySem.W.callWith_KW0 (h₀ := X.base) I.ok.mod.kin (N.kx rd) hall ?_ hpl
  refine thn (hk.run pos pins s σ H _ I h2) fun ws s2 ⟨vz, H2, I2, rz, ρ, h1, zs, rvz, rh, o⟩ => ⟨I2.kIn, ?_⟩
  rw [hks]
  exact run_callKw rd I2 (us := []) (vs := []) .nil rz .nil rvz rh o
/-- a method's call, its callee to be found -/
theorem call_attr {M : Model} {A : Around} {env : Env} {o : Expr} {name : Str} {apos pos : Pos} {args : List Expr} {Q : Value → Shared → Prop} {E : Value → Shared → Prop} {s : Shared}
    (hbase : attributeBase o name env (eval o env) = eval o env) (hfew : methodCallForm (args.length + ([] : List Keyword).length) (backTo pos (starEach args env)) (backToKw pos (keywordEach [] env)) = true) (hline : (apos.endLine == pos.line) = true)
    (h : wpAny M A (eval o env) (fun ov s₁ => ∀ pl, wpAny M A (getMethod ov name pl) (fun fx s₂ => wpAny M A (callWith pos fx.1 fx.2 (backTo pos (starEach args env)) (backToKw pos (keywordEach [] env))) Q E s₂) E s₁) E s) :
    wpAny M A (eval (.Call (.Attribute o name apos) args [] pos) env) Q E s := by
  rw [arm_eval_Call, hbase]
  refine wpAny_bind (wpAny_mono h (fun ov s₁ h₁ => ?_) fun _ _ e => e)
  refine wpAny_bind (wpAny_standAt ?_)
  have hpos : methodCallPos true o env apos pos = pure pos := by unfold methodCallPos; simp [hline]
  unfold methodCall
  rw [hfew]
  refine wpAny_bind (wpAny_holding (wpAny_mono (h₁ _) (fun fx s₂ h₂ => ?_) fun _ _ e => e))
  exact wpAny_bind (wpAny_of_eq hpos h₂)
/-- Base.__init__(self, ..), Base without an __init__ of its own -/
theorem je_einit (rd : Rdy T cal lvl X W) {g : Nat} {x : Str} {ee : MExc} {p1 p2 : Pos} (N : Named T X g x) (hg : T.Pr g = some (.exc ee)) (hb : ee.base = none) (hi : ee.init = none) (ha : PA X (e :: es) (rdEs T cal W ms))
    (hbase : attributeBase (.Name x p1) "__init__" X.env (eval (.Name x p1) X.env) = eval (.Name x p1) X.env) (hfew : methodCallForm ((e :: es).length + ([] : List Keyword).length) (backTo pos (starEach (e :: es) X.env)) (backToKw pos (keywordEach [] X.env)) = true) (hline : (p2.endLine == pos.line) = true)
    (he : starEach (e :: es) X.env = (false, eval e X.env) :: starEach es X.env) (hpl : (backTo pos (starEach es X.env)).any (·.1) = false) : PE X (.Call (.Attribute (.Name x p1) "__init__" p2) (e :: es) [] pos) (rdE T cal W (.einit g ms)) := by
  refine ⟨fun pins s σ H Q I h => ?_⟩
  have h2 : rdEs T cal W ms σ H fun vs H' => ∃ ρ h1 xs, RVs T.G ρ H' xs vs ∧ RH T.G ρ h1 H' ∧ Out T.G (WE W σ) ρ H' (kEinit T.Pr g xs h1) (fun x _ ρ' H' => ∀ v, RV T.G ρ' H' x v → Q v H') :=
    args_r (f := fun _ => kEinit T.Pr g) h fun ρ σA h1 H' xs vs rs rv rh o => ⟨ρ, h1, xs, rv, rh, o⟩
  have O := rd.top.ex g ee hg
  obtain ⟨v1, v2, v3⟩ := O.vin hi hb
  have X1 := I.kIn
  rw [rd.k] at X1
  refine call_attr hbase hfew hline (ld_glob I N.gl N.mg (fun pl => ?_) N.db)
  refine PySem.W.method_cls (K := T.G.K) X1 v3 (PySem.W.cls_value X1 v2 v1 (by decide +kernel) ?_)
  show wpAny _ _ (callWith pos (Value.builtin "ValueError.__init__") [] (backTo pos (starEach (e :: es) X.env)) []) _ _ _
  refine PyProof.Rows.callWith_method1 (thn (ha.run pos pins _ σ H _ (I.tok _) h2) fun us s1 ⟨vs, H1, I1, r1, ρ, h1, xs, rv, rh, o⟩ => ?_) he hpl
  unfold kEinit at o
  split at o
  · rename_i k ws
    split at o
    · rename_i c e' hk' he'
      split at o
      · rename_i cc
        cases rv with
        | cons rv1 rv2 =>
          rename_i v vs
          obtain ⟨a, rfl, ea⟩ := rv1.ref_inv
          cases r1 with
          | cons ra rr =>
            obtain rfl := (show _ = Value.ref a from ra)
            obtain ⟨e2, he2⟩ := isExc_some cc.1
            have O2 := rd.top.ex c e2 he2
            refine oinit_ok (by rw [rd.k]; exact O2.oex) I1 (rh.exn0 hk' ea) (by rw [← Paired.length rr, ← rv2.length, sizeLine_eq]; omega) fun s' J => ⟨.non, H1, J, rfl, o ρ H1 .refl rh _ .non⟩
      · exact o.elim
    · exact o.elim
  · exact o.elim
/-! ### built-ins -/
/-- the name of a built-in, what it is -/
def biName : Bi → Str
  | .len => "len" | .abs => "abs" | .min2 => "min" | .max2 => "max" | .repr => "repr" | .isinst => "isinstance" | .tuple => "tuple" | .list => "list" | .int => "int" | .all => "all" | .any => "any" | .gcd => "gcd" | .bitlen => "bit_length"
def biVal : Bi → Value
  | .len => .builtin "len" | .abs => .builtin "abs" | .min2 => .builtin "min" | .max2 => .builtin "max" | .repr => .builtin "repr" | .isinst => .builtin "isinstance" | .tuple => .type "tuple" | .list => .type "list" | .int => .type "int"
  | .all => .builtin "all" | .any => .builtin "any" | .gcd => .builtin "math.gcd" | .bitlen => .none
theorem call_bi (rd : Rdy T cal lvl X W) (b : Bi) (h : b ≠ .bitlen) : CallR X (biVal b) (rB T.G (biA T.Pr b)) := by
  cases b with
  | len => exact call_lenA rd.k
  | abs => exact call_absA
  | min2 => exact call_minA rd.calm
  | max2 => exact call_maxA rd.calm
  | repr => exact call_repr rd
  | isinst => exact call_isinstA rd
  | tuple => exact call_tupleA rd.k
  | list => exact call_listA rd.k
  | int => exact call_intA
  | all => exact call_allA rd.k rd.calm
  | any => exact call_anyA rd.k rd.calm
  | gcd => exact call_gcdA
  | bitlen => exact absurd rfl h
theorem bi_r {b : Bi} {σ : L2.St} {H : Hp} {Q : VK} (h : rdE T cal W (.bi b ms) σ H Q) : tCB (rB T.G (biA T.Pr b)) (rdEs T cal W ms) σ H Q :=
  args_r (f := fun _ vs h1 => .of (biA T.Pr b vs h1)) h fun ρ σA h1 H' xs vs rs rv rh o => by
    obtain ⟨z, h', e, q⟩ := o.of
    exact ⟨ρ, h1, xs, z, h', rv, rh, e, q⟩
/-- a built-in under its own name -/
theorem je_bi (rd : Rdy T cal lvl X W) {b : Bi} {x : Str} (hb : b ≠ .bitlen) (hx : biName b = x) (hg : Gl X x) (hm : (b ≠ .gcd ∧ x ∈ bnames) ∨ (b = .gcd ∧ X.mg x = some (.builtin "math.gcd"))) (hd : (x == ("__debug__" : Str)) = false) (ha : PA X (e :: es) (rdEs T cal W ms))
    (he : starEach (e :: es) X.env = (false, eval e X.env) :: starEach es X.env) (hpl : (backTo pos (starEach es X.env)).any (·.1) = false) : PE X (.Call (.Name x p) (e :: es) [] pos) (rdE T cal W (.bi b ms)) := by
  have C := call_bi rd b hb
  rcases hm with ⟨hne, hm⟩ | ⟨rfl, hm⟩
  · have M := rd.top.un x hm
    subst hx
    cases b with
    | len => exact (pe_callB (id := "len") C hg M (by decide +kernel) ha (by decide) hd he hpl).imp fun σ H Q h => bi_r h
    | abs => exact (pe_callB (id := "abs") C hg M (by decide +kernel) ha (by decide) hd he hpl).imp fun σ H Q h => bi_r h
    | min2 => exact (pe_callB (id := "min") C hg M (by decide +kernel) ha (by decide) hd he hpl).imp fun σ H Q h => bi_r h
    | max2 => exact (pe_callB (id := "max") C hg M (by decide +kernel) ha (by decide) hd he hpl).imp fun σ H Q h => bi_r h
    | repr => exact (pe_callB (id := "repr") C hg M (by decide +kernel) ha (by decide) hd he hpl).imp fun σ H Q h => bi_r h
    | isinst => exact (pe_callB (id := "isinstance") C hg M (by decide +kernel) ha (by decide) hd he hpl).imp fun σ H Q h => bi_r h
    | tuple => exact (pe_callTy (T := "tuple") C hg M (by decide +kernel) ha (by decide) hd he hpl).imp fun σ H Q h => bi_r h
    | list => exact (pe_callTy (T := "list") C hg M (by decide +kernel) ha (by decide) hd he hpl).imp fun σ H Q h => bi_r h
    | int => exact (pe_callTy (T := "int") C hg M (by decide +kernel) ha (by decide) hd he hpl).imp fun σ H Q h => bi_r h
    | all => exact (pe_callB (id := "all") C hg M (by decide +kernel) ha (by decide) hd he hpl).imp fun σ H Q h => bi_r h
    | any => exact (pe_callB (id := "any") C hg M (by decide +kernel) ha (by decide) hd he hpl).imp fun σ H Q h => bi_r h
    | gcd => exact absurd rfl hne
    | bitlen => exact absurd rfl hb
  · exact (pe_callBfun (id := "math.gcd") C hg hm ha hd he hpl).imp fun σ H Q h => bi_r h
/-- xs.append(e) -/
theorem je_append {o : Expr} {mo : ME} {apos cpos : Pos} (ho : PE X o (rdE T cal W mo)) (ha : PA X [e] (rdEs T cal W ms)) (hbase : attributeBase o "append" X.env (eval o X.env) = eval o X.env)
    (hs : starEach [e] X.env = (false, eval e X.env) :: starEach [] X.env) (hline : (apos.endLine == cpos.line) = true) (hk : X.K = T.G.K) :
    PE X (.Call (.Attribute o "append" apos) [e] [] cpos) (rdE T cal W (.met .append mo ms)) := by
  refine (pe_bm PySem.F.plainAttrs_list PySem.F.slot_list_append PySem.F.type_list_append (mt_appendA (G := T.G)) ho ha hbase ?_ hline hs rfl).imp fun σ H Q h => ?_
  · rw [hs]; rfl
  · refine one_r (f := fun σA => kMet .append (evEs T.Pr cal ms σA)) h fun ρ σA h1 H' x v rs rx rh o => ?_
    unfold kMet at o
    split at o
    · rename_i ht
      have ty : tyV X.K "list" v H' := by
        unfold metTy at ht
        split at ht
        · rename_i k
          obtain ⟨xs, hx⟩ := Option.isSome_iff_exists.mp ht
          obtain ⟨a, rfl, ea⟩ := rx.ref_inv
          obtain ⟨vs, z, _⟩ := rh.seq hx ea
          exact .inl ⟨rfl, vs, by rw [hk]; exact z⟩
        · cases ht
      refine ⟨ty, ρ, σA, h1, rs, rh, o.bind.imp fun xs h3 ρ1 H1 e1 rh1 o1 vs rvs => ?_⟩
      obtain ⟨z, h', e, q⟩ := o1.of
      exact ⟨ρ1, h3, x, xs, z, h', rx.ext e1, rvs, rh1, e, q⟩
    · exact o.elim
end
end Mini
set_option autoImplicit false
set_option maxHeartbeats 4000000
/-! Mini, thirteenth part: what is wanted of statements; targets; what is walked; the for loop. -/
namespace Mini
open PySem PySem.Spec L2
open PyProof.Rows hiding St
section
variable (G : Gr)
def OutS (W : WX) (ρ : List Addr) (H : Hp) (r : RS) (D : Ends) : Prop := match r with
  | .nx σA h => ∀ ρ' H' σ', Ext G ρ H ρ' H' → RH G ρ' h H' → RG G ρ' H' σA σ' → D.nx σ' H'
  | .rt x h => ∀ ρ' H' v, Ext G ρ H ρ' H' → RH G ρ' h H' → RV G ρ' H' x v → D.rt v H'
  | .bk σA h => ∀ ρ' H' σ', Ext G ρ H ρ' H' → RH G ρ' h H' → RG G ρ' H' σA σ' → D.bk σ' H'
  | .ct σA h => ∀ ρ' H' σ', Ext G ρ H ρ' H' → RH G ρ' h H' → RG G ρ' H' σA σ' → D.ct σ' H'
  | .exc c fs σA h => ∀ ρ' H' σ' cls d, Ext G ρ H ρ' H' → RH G ρ' h H' → RG G ρ' H' σA σ' → RX G ρ' H' c fs cls d → W cls d σ' H'
  | .bad => False
end
section
variable {G : Gr} {W : WX} {ρ ρ' : List Addr} {H H' : Hp} {r : RS} {D D' : Ends}
theorem OutS.later (e : Ext G ρ H ρ' H') (h : OutS G W ρ H r D) : OutS G W ρ' H' r D := by
  cases r with
  | nx σ k => exact fun ρ2 H2 s2 e2 rh rs => h ρ2 H2 s2 (e.trans e2) rh rs
  | rt x k => exact fun ρ2 H2 s2 e2 rh rs => h ρ2 H2 s2 (e.trans e2) rh rs
  | bk σ k => exact fun ρ2 H2 s2 e2 rh rs => h ρ2 H2 s2 (e.trans e2) rh rs
  | ct σ k => exact fun ρ2 H2 s2 e2 rh rs => h ρ2 H2 s2 (e.trans e2) rh rs
  | exc c fs σ k => exact fun ρ2 H2 s2 cls d e2 rh rs x => h ρ2 H2 s2 cls d (e.trans e2) rh rs x
  | bad => exact h
/-- a value's run inside a statement -/
theorem OutS.stm {α : Type} {x : R α} {σA : Sg} {σ : L2.St} {f : α → AH → RS} (rs : RG G ρ H σA σ) (h : OutS G W ρ H (x.stm σA f) D) : Out G (WE W σ) ρ H x fun a h' ρ' H' => OutS G W ρ' H' (f a h') D := by
  cases x with
  | ok a k => exact fun ρ2 H2 e2 rh => OutS.later e2 h
  | exc c fs k => exact fun ρ2 H2 cls d e2 rh x => h ρ2 H2 σ cls d e2 rh (rs.ext e2) x
  | bad => exact h
end
section
variable (T : Top) (cal : Nat → List AV → AH → R AV) (W : WX)
def RdgS (run : Sg → AH → RS) : TS := fun D σ H => ∃ ρ σA h, RG T.G ρ H σA σ ∧ RH T.G ρ h H ∧ OutS T.G W ρ H (run σA h) D
def rdS (m : MS) : TS := RdgS T W (evS T.Pr cal m)
def rdSs (m : MSs) : TS := RdgS T W (evSs T.Pr cal m)
/-! ### targets -/
def setManyV : L2.St → List Nat → List V → L2.St
  | σ, i :: is, v :: vs => setManyV (σ.set i (some v)) is vs
  | σ, _, _ => σ
def rdG (K : PySem.W.Frag) : MT → TG
  | .name i => gName i
  | .tup is => fun v σ H Q => ∃ a vs, v = .ref a ∧ SqT K H a vs ∧ vs.length = is.length ∧ Q (setManyV σ is vs) H
/-! ### what is walked -/
inductive RIt (G : Gr) (ρ : List Addr) (H : Hp) : MIt → It → Prop
  | tup {xs : List AV} {vs : List V} {a : Addr} : TA G.K H a vs → RVs G ρ H xs vs → RIt G ρ H (.tup xs) (Itt G.K a)
  | lst {k : Nat} {a : Addr} : ρ[k]? = some a → RIt G ρ H (.lst k) (Itl G.K a)
  | rng (n : Nat) : RIt G ρ H (.rng n) (Itr 0 n)
def rdI (m : MI) : TI := fun σ H R => Rdg T W (evI T.Pr cal m) σ H fun it _ ρ' H' => ∀ J, RIt T.G ρ' H' it J → R J H'
end
section
variable {T : Top} {cal : Nat → List AV → AH → R AV} {lvl : Nat} {X : Cx} {W : WX} {G : Gr}
theorem RG.many {ρ : List Addr} {H : Hp} : ∀ {is : List Nat} {σA σA' : Sg} {σ : L2.St} {xs : List AV} {vs : List V}, RG G ρ H σA σ → RVs G ρ H xs vs → setMany σA is xs = some σA' → RG G ρ H σA' (setManyV σ is vs) ∧ vs.length = is.length
  | [], σA, σA', σ, [], _, r, .nil, e => by cases e; exact ⟨r, rfl⟩
  | [], σA, σA', σ, _ :: _, _, r, .cons _ _, e => by cases e
  | i :: is, σA, σA', σ, [], _, r, .nil, e => by cases e
  | i :: is, σA, σA', σ, x :: xs, v :: vs, r, .cons a b, e => by
    obtain ⟨h1, h2⟩ := RG.many (r.set i a) b (show setMany (σA.set i (some x)) is xs = some σA' from e)
    exact ⟨h1, by simp [h2]⟩
/-- targets that are names -/
structure NameOk (X : Cx) (i : Nat) (x : Str) : Prop where
  ix : X.N[i]? = some x
  loc : Loc X.env.scope x
  fn : X.fn x = true ∨ X.env.scope.names.lookup x = some .local
theorem pg_nameA (hN : X.N.Nodup) {i : Nat} {x : Str} {pos : Pos} (h : NameOk X i x) : PG X (.Name x pos) (rdG X.K (.name i)) := pg_name hN h.ix h.loc h.fn
inductive NamesOk (X : Cx) : List Nat → List Expr → Prop
  | nil : NamesOk X [] []
  | cons {i : Nat} {x : Str} {pos : Pos} {is : List Nat} {es : List Expr} : NameOk X i x → NamesOk X is es → NamesOk X (i :: is) (.Name x pos :: es)
theorem NamesOk.length : ∀ {is : List Nat} {es : List Expr}, NamesOk X is es → es.length = is.length
  | _, _, .nil => rfl
  | _, _, .cons _ t => by simp [NamesOk.length t]
theorem NamesOk.each : ∀ {is : List Nat} {es : List Expr}, NamesOk X is es → (assignEach es X.env).length = is.length ∧ (assignEach es X.env).findIdx? (·.1) = none
  | _, _, .nil => ⟨rfl, rfl⟩
  | _, _, .cons (x := x) (pos := pos) (es := es) _ t => by
    obtain ⟨h1, h2⟩ := NamesOk.each t
    have e : assignEach (.Name x pos :: es) X.env = (false, assign (.Name x pos) X.env) :: assignEach es X.env := rfl
    rw [e]
    refine ⟨by simp [h1], ?_⟩
    rw [List.findIdx?_cons]
    simp only [Bool.false_eq_true, if_false, h2, Option.map_none]
theorem pgs_names (hN : X.N.Nodup) : ∀ {is : List Nat} {es : List Expr}, NamesOk X is es → PGs X es (fun vs σ H Q => vs.length = is.length ∧ Q (setManyV σ is vs) H)
  | _, _, .nil => ⟨fun pins s σ H vs us Q I r h => by
      obtain ⟨h1, h2⟩ := h
      cases r with
      | nil => exact pgs_nil.run pins s σ H [] [] Q I .nil ⟨rfl, h2⟩
      | cons _ _ => cases h1⟩
  | i :: is, _, .cons (x := x) (pos := pos) (es := es) h1 t => ⟨fun pins s σ H vs us Q I r h => by
      refine (pgs_cons (pg_name hN h1.ix h1.loc h1.fn) (pgs_names hN t)).run pins s σ H vs us Q I r ?_
      obtain ⟨h2, h3⟩ := h
      cases vs with
      | nil => cases h2
      | cons v vs => exact ⟨v, vs, rfl, by simpa using h2, h3⟩⟩
theorem pg_tupA (hN : X.N.Nodup) (hc : X.calm = true) {is : List Nat} {es : List Expr} {k : Nat} {pos : Pos} (h : NamesOk X is es) : PG X (.Tuple es k pos) (rdG X.K (.tup is)) := by
  obtain ⟨h1, h2⟩ := h.each
  refine ⟨fun pins s σ H v u Q I r q => (pg_tup (n := is.length) hc (pgs_names hN h) h1 h2).run pins s σ H v u Q I r ?_⟩
  obtain ⟨a, vs, e, hs, hl, q⟩ := q
  exact ⟨a, vs, e, hs, hl, hl, q⟩
/-- a target stores what the run stores -/
theorem put_r {ρ : List Addr} {h : AH} {H : Hp} {σA σA' : Sg} {σ : L2.St} {t : MT} {x : AV} {v : V} {Q : L2.St → Hp → Prop} (rs : RG G ρ H σA σ) (rv : RV G ρ H x v) (e : putT σA h t x = some σA') (q : ∀ σ', RG G ρ H σA' σ' → Q σ' H) : rdG G.K t v σ H Q := by
  cases t with
  | name i =>
    cases e
    exact q _ (rs.set i rv)
  | tup is =>
    unfold putT at e
    cases rv with
    | tup ht rr =>
      obtain ⟨h1, h2⟩ := rs.many rr e
      exact ⟨_, _, rfl, ht.sq, h2, q _ h1⟩
    | _ => cases e
/-! ### sources -/
theorem pi_seqA (rd : Rdy T cal lvl X W) {tg l : Expr} {m : ME} (hl : PE X l (rdE T cal W m)) : PI X tg l (rdI T cal W (.seq m)) := by
  refine ⟨fun pins s σ H R I h => ?_⟩
  have h2 : rdE T cal W m σ H fun v H' => ∃ ρ h1 x, RV T.G ρ H' x v ∧ RH T.G ρ h1 H' ∧ Out T.G (WE W σ) ρ H' (kSeq x h1) (fun it _ ρ' H' => ∀ J, RIt T.G ρ' H' it J → R J H') :=
    one_r (f := fun _ => kSeq) h fun ρ σA h1 H' x v rs rx rh o => ⟨ρ, h1, x, rx, rh, o⟩
  refine thn (hl.run pins s σ H _ I h2) fun v s1 ⟨x, H1, I1, r1, ρ, h1, xa, rx, rh, o⟩ => ?_
  unfold kSeq at o
  split at o
  rotate_left
  · exact o.elim
  rename_i it e
  have o1 := o ρ H1 .refl rh
  cases rx with
  | tup ht rr =>
    rename_i a vs xs
    cases e
    cases r1
    obtain ⟨its, rv, p, hz⟩ := I1.tuple (by rw [rd.k]; exact ht.sq)
    refine wpAny_pyIter_tuple (show s1.heap.IsTuple a its.toArray from p) ?_
    have TT : Turn X.prog X.w X.K tg (Itt T.G.K a) [s1.heap.objs.size] s1.heap.objs.size (fun i h => h.IsTupleIter s1.heap.objs.size a i) := by rw [rd.k]; exact turn_tuple a _
    refine ⟨s1.heap.objs.size, [s1.heap.objs.size], _, _, H1, rfl, I1.kept (t' := s1.toks) fun b o e => Heap.get?_push_of_some _ e, TT, ⟨_, Heap.get?_push_size _ rfl, rfl, rfl⟩, fun b hb => ?_, o1 _ (.tup ht rr)⟩
    have e : b = s1.heap.objs.size := by simpa using hb
    subst e
    exact I1.fpOk (Nat.le_refl _) (I1.hok.fresh (Nat.le_refl _))
  | ref ea =>
    rename_i k a
    unfold itOf at e
    dsimp only at e
    split at e
    · rename_i hs
      cases e
      obtain ⟨xs, hx⟩ := Option.isSome_iff_exists.mp hs
      obtain ⟨vs, hq, _⟩ := rh.seq hx ea
      cases r1
      obtain ⟨its, rv, p, hz⟩ := I1.list (by rw [rd.k]; exact hq)
      refine wpAny_pyIter_list p.isList ?_
      have TT : Turn X.prog X.w X.K tg (Itl T.G.K a) [s1.heap.objs.size] s1.heap.objs.size (fun i h => h.IsListIter s1.heap.objs.size a i) := by rw [rd.k]; exact turn_list a _
      refine ⟨s1.heap.objs.size, [s1.heap.objs.size], _, _, H1, rfl, I1.kept (t' := s1.toks) fun b o e => Heap.get?_push_of_some _ e, TT, ⟨_, Heap.get?_push_size _ rfl, rfl, rfl⟩, fun b hb => ?_, o1 _ (.lst ea)⟩
      have e : b = s1.heap.objs.size := by simpa using hb
      subst e
      exact I1.fpOk (Nat.le_refl _) (I1.hok.fresh (Nat.le_refl _))
    · cases e
  | _ => cases e
theorem pi_rangeA (rd : Rdy T cal lvl X W) {tg a : Expr} {p pos : Pos} {m : ME} (hg : Gl X "range") (ha : PE X a (rdE T cal W m)) (hs : starEach [a] X.env = [(false, eval a X.env)]) : PI X tg (.Call (.Name "range" p) [a] [] pos) (rdI T cal W (.range m)) := by
  have hp : PA X [a] (tCons (rdE T cal W m) tNil) := pa_cons ha pa_nil (by rw [hs]; rfl)
  refine ⟨fun pins s σ H R I h => (pi_range1 hg (rd.top.un "range" (by decide +kernel)) hp hs).run pins s σ H R I ?_⟩
  refine one_r (f := fun _ => kRange) h fun ρ σA h1 H' x v rs rx rh o => ?_
  cases rx with
  | int i =>
    dsimp only [kRange] at o
    split at o
    · rename_i hi
      exact ⟨i, rfl, hi.1, hi.2, o ρ H' .refl rh _ (.rng _)⟩
    · exact o.elim
  | _ => exact o.elim
/-! ### the loop -/
/-- what a loop asks, as tFor has it -/
def LoopW (J : It) (g : TG) (tb : TS) (D : Ends) (σ : L2.St) (H : Hp) : Prop := ∃ Wn : Nat → Nat → L2.St → Hp → Prop, (∃ m, Wn 0 m σ H) ∧ ∀ i m σ H, Wn i m σ H →
  (J.stop i H ∧ D.nx σ H) ∨ (J.go i H ∧ ∃ N : L2.St → Hp → Prop, (∀ σ' H', N σ' H' → ∃ m', m' < m ∧ Wn (i + 1) m' σ' H') ∧ ∀ x H', J.yld i H x H' → g x σ H' fun σ2 H2 => tb { D with nx := N, ct := N, bk := D.nx } σ2 H2)
/-- one turn -/
theorem turn_r {ρ : List Addr} {h : AH} {H : Hp} {σA : Sg} {σ : L2.St} {t : MT} {f : Sg → AH → RS} {x : AV} {v : V} {D : Ends} {N : L2.St → Hp → Prop} {next : Sg → AH → RS}
    (rs : RG T.G ρ H σA σ) (rv : RV T.G ρ H x v) (rh : RH T.G ρ h H)
    (o : OutS T.G W ρ H (match kTurn t f x σA h with
      | .nx σ' h' => next σ' h'
      | .ct σ' h' => next σ' h'
      | .bk σ' h' => .nx σ' h'
      | r => r) D)
    (hN : ∀ ρ' σA' h' σ' H', Ext T.G ρ H ρ' H' → RG T.G ρ' H' σA' σ' → RH T.G ρ' h' H' → OutS T.G W ρ' H' (next σA' h') D → N σ' H') : rdG T.G.K t v σ H fun σ2 H2 => RdgS T W f { D with nx := N, ct := N, bk := D.nx } σ2 H2 := by
  unfold kTurn at o
  cases e : putT σA h t x with
  | none => rw [e] at o; exact o.elim
  | some σA' =>
    rw [e] at o
    refine put_r rs rv e fun σ' rs' => ⟨ρ, σA', h, rs', rh, ?_⟩
    dsimp only at o
    cases hf : f σA' h with
    | nx s k => rw [hf] at o; exact fun ρ' H' σ2 e2 rh2 rs2 => hN ρ' s k σ2 H' e2 rs2 rh2 (OutS.later e2 o)
    | ct s k => rw [hf] at o; exact fun ρ' H' σ2 e2 rh2 rs2 => hN ρ' s k σ2 H' e2 rs2 rh2 (OutS.later e2 o)
    | bk s k => rw [hf] at o; exact o
    | rt x k => rw [hf] at o; exact o
    | exc c fs s k => rw [hf] at o; exact o
    | bad => rw [hf] at o; exact o
theorem loop_r {ρ : List Addr} {h : AH} {H : Hp} {σA : Sg} {σ : L2.St} {t : MT} {f : Sg → AH → RS} {it : MIt} {J : It} {D : Ends}
    (rs : RG T.G ρ H σA σ) (rh : RH T.G ρ h H) (ri : RIt T.G ρ H it J) (o : OutS T.G W ρ H (walkI (kTurn t f) it σA h) D) : LoopW J (rdG T.G.K t) (RdgS T W f) D σ H := by
  cases ri with
  | tup ht rr =>
    rename_i xs vs a
    refine ⟨fun i m σ H => ∃ ρ σA h, TA T.G.K H a vs ∧ RVs T.G ρ H xs vs ∧ RG T.G ρ H σA σ ∧ RH T.G ρ h H ∧ i ≤ xs.length ∧ m = xs.length - i ∧ OutS T.G W ρ H (walkT (kTurn t f) (xs.drop i) σA h) D, ⟨_, ρ, σA, h, ht, rr, rs, rh, Nat.zero_le _, rfl, o⟩, ?_⟩
    rintro i m σ H ⟨ρ, σA, h, ht, rr, rs, rh, hi, rfl, o⟩
    by_cases hlt : i < xs.length
    · have hd : xs.drop i = xs[i] :: xs.drop (i + 1) := List.drop_eq_getElem_cons hlt
      rw [hd] at o
      obtain ⟨v, hv, rv⟩ := rr.get (List.getElem?_eq_getElem hlt)
      refine .inr ⟨⟨vs, v, ht.sq, hv⟩, fun σ' H' => ∃ ρ σA h, TA T.G.K H' a vs ∧ RVs T.G ρ H' xs vs ∧ RG T.G ρ H' σA σ' ∧ RH T.G ρ h H' ∧ i + 1 ≤ xs.length ∧ OutS T.G W ρ H' (walkT (kTurn t f) (xs.drop (i + 1)) σA h) D, ?_, ?_⟩
      · rintro σ' H' ⟨ρ, σA, h, h1, h2, h3, h4, h5, h6⟩
        exact ⟨xs.length - (i + 1), by omega, ρ, σA, h, h1, h2, h3, h4, h5, rfl, h6⟩
      · rintro x H' ⟨rfl, hy⟩
        have hx := hy vs ht.sq
        rw [hv] at hx
        cases hx
        exact turn_r rs rv rh o fun ρ' σA' h' σ' H' e rs' rh' o' => ⟨ρ', σA', h', e.tup _ _ ht, rr.ext e, rs', rh', hlt, o'⟩
    · have hd : xs.drop i = [] := List.drop_of_length_le (by omega)
      rw [hd] at o
      exact .inl ⟨⟨vs, ht.sq, by rw [← rr.length]; omega⟩, o ρ H σ .refl rh rs⟩
  | lst ea =>
    rename_i k a
    cases hs : seqOf h (.ref k) with
    | none => dsimp only [walkI] at o; rw [hs] at o; exact o.elim
    | some xs0 =>
      dsimp only [walkI] at o
      rw [hs] at o
      refine ⟨fun i m σ H => ∃ ρ σA h, ρ[k]? = some a ∧ RG T.G ρ H σA σ ∧ RH T.G ρ h H ∧ OutS T.G W ρ H (walkL (kTurn t f) k m i σA h) D, ⟨_, ρ, σA, h, ea, rs, rh, o⟩, ?_⟩
      rintro i m σ H ⟨ρ, σA, h, ea, rs, rh, o⟩
      cases hs : seqOf h (.ref k) with
      | none => cases m <;> (dsimp only [walkL] at o; rw [hs] at o; exact o.elim)
      | some xs =>
        obtain ⟨vs, hq, rr⟩ := rh.seq hs ea
        cases m with
        | zero =>
          dsimp only [walkL] at o
          rw [hs] at o
          dsimp only at o
          split at o
          · rename_i hl
            exact .inl ⟨⟨vs, hq, by rw [← rr.length]; exact hl⟩, o ρ H σ .refl rh rs⟩
          · exact o.elim
        | succ m =>
          dsimp only [walkL] at o
          rw [hs] at o
          dsimp only at o
          cases hx : xs[i]? with
          | none =>
            rw [hx] at o
            have hl : xs.length ≤ i := List.getElem?_eq_none_iff.mp hx
            exact .inl ⟨⟨vs, hq, by rw [← rr.length]; exact hl⟩, o ρ H σ .refl rh rs⟩
          | some x =>
            rw [hx] at o
            dsimp only at o
            obtain ⟨v, hv, rv⟩ := rr.get hx
            refine .inr ⟨⟨vs, v, hq, hv⟩, fun σ' H' => ∃ ρ σA h, ρ[k]? = some a ∧ RG T.G ρ H' σA σ' ∧ RH T.G ρ h H' ∧ OutS T.G W ρ H' (walkL (kTurn t f) k m (i + 1) σA h) D, ?_, ?_⟩
            · rintro σ' H' q
              exact ⟨m, Nat.lt_succ_self _, q⟩
            · rintro y H' ⟨rfl, hy⟩
              have hx' := hy vs hq
              rw [hv] at hx'
              cases hx'
              exact turn_r rs rv rh o fun ρ' σA' h' σ' H' e rs' rh' o' => ⟨ρ', σA', h', e.at ea, rs', rh', o'⟩
  | rng n =>
    refine ⟨fun i m σ H => ∃ ρ σA h, i + m = n ∧ RG T.G ρ H σA σ ∧ RH T.G ρ h H ∧ OutS T.G W ρ H (walkR (kTurn t f) m (i : Int) σA h) D, ⟨n, ρ, σA, h, by omega, rs, rh, o⟩, ?_⟩
    rintro i m σ H ⟨ρ, σA, h, hm, rs, rh, o⟩
    cases m with
    | zero => exact .inl ⟨by show n ≤ i; omega, o ρ H σ .refl rh rs⟩
    | succ m =>
      refine .inr ⟨by show i < n; omega, fun σ' H' => ∃ ρ σA h, (i + 1) + m = n ∧ RG T.G ρ H' σA σ' ∧ RH T.G ρ h H' ∧ OutS T.G W ρ H' (walkR (kTurn t f) m ((i + 1 : Nat) : Int) σA h) D, ?_, ?_⟩
      · rintro σ' H' q
        exact ⟨m, Nat.lt_succ_self _, q⟩
      · rintro y H' ⟨rfl, rfl⟩
        refine turn_r (x := .int i) rs (by rw [Int.zero_add]; exact .int _) rh o fun ρ' σA' h' σ' H' e rs' rh' o' => ⟨ρ', σA', h', by omega, rs', rh', ?_⟩
        exact o'
end
end Mini
set_option autoImplicit false
set_option maxHeartbeats 4000000
/-! Mini, fourteenth part: list comprehensions, dict displays. -/
namespace Mini
open PySem PySem.Spec L2
open PyProof.Rows hiding St
abbrev W0 : WX := fun _ _ _ _ => False
section
variable {T : Top} {cal : Nat → List AV → AH → R AV} {lvl : Nat} {X : Cx} {W : WX} {G : Gr}
theorem Rdy.blk (rd : Rdy T cal lvl X W) (s : Shared) (H : Hp) (scope : Scope) (cenv : Env) (fp : List Addr) : Rdy T cal lvl (X.blk s H scope cenv fp) W0 :=
  ⟨rd.calm, rd.nd, rd.gd, rd.room, takes0, rd.k, rd.top, rd.tab⟩
/-! ### wiping -/
theorem wipe_get {σ : L2.St} : ∀ {vs : List Nat} {j : Nat}, (wipe σ vs)[j]? = if j ∈ vs ∧ j < σ.length then some none else σ[j]?
  | [], j => by simp [wipe]
  | v :: vs, j => by
    unfold wipe
    by_cases h : v = j
    · subst h
      by_cases hl : v < σ.length
      · rw [List.getElem?_set_self (by rw [wipe_length]; exact hl), if_pos ⟨by simp, hl⟩]
      · rw [if_neg (fun z => hl z.2), List.getElem?_eq_none (by simp [wipe_length]; omega), List.getElem?_eq_none (by omega)]
    · rw [List.getElem?_set_ne h, wipe_get]
      have : (j ∈ v :: vs ∧ j < σ.length) ↔ (j ∈ vs ∧ j < σ.length) := by
        simp only [List.mem_cons]
        constructor
        · rintro ⟨h1 | h1, h2⟩
          · exact absurd h1.symm h
          · exact ⟨h1, h2⟩
        · exact fun ⟨h1, h2⟩ => ⟨.inr h1, h2⟩
      simp only [this]
theorem wipe_set {σ : L2.St} {vs : List Nat} {i : Nat} {x : Option V} (h : i ∈ vs) : wipe (σ.set i x) vs = wipe σ vs := by
  refine List.ext_getElem? fun j => ?_
  rw [wipe_get, wipe_get, List.length_set]
  by_cases hj : j ∈ vs ∧ j < σ.length
  · rw [if_pos hj, if_pos hj]
  · rw [if_neg hj, if_neg hj]
    by_cases e : i = j
    · subst e
      have hl : ¬ i < σ.length := fun z => hj ⟨h, z⟩
      rw [List.getElem?_eq_none (by simp; omega), List.getElem?_eq_none (by omega)]
    · rw [List.getElem?_set_ne e]
theorem wipe_many {vs : List Nat} : ∀ {is : List Nat} {ws : List V} {σ : L2.St}, (∀ i ∈ is, i ∈ vs) → wipe (setManyV σ is ws) vs = wipe σ vs
  | [], _, σ, _ => by unfold setManyV; rfl
  | i :: is, [], σ, _ => by unfold setManyV; rfl
  | i :: is, w :: ws, σ, h => by
    unfold setManyV
    rw [wipe_many fun j hj => h j (List.mem_cons_of_mem _ hj), wipe_set (h i List.mem_cons_self)]
theorem wipe_wipe {σ : L2.St} {vs : List Nat} : wipe (wipe σ vs) vs = wipe σ vs := by
  refine List.ext_getElem? fun j => ?_
  rw [wipe_get, wipe_get, wipe_length]
  by_cases hj : j ∈ vs ∧ j < σ.length
  · simp [hj]
  · simp [hj]
def MT.slots : MT → List Nat
  | .name i => [i]
  | .tup is => is
theorem put_w {ρ : List Addr} {h : AH} {H : Hp} {σA σA' : Sg} {σ : L2.St} {t : MT} {x : AV} {v : V} {own : List Nat} {Q : L2.St → Hp → Prop} (ht : ∀ i ∈ t.slots, i ∈ own) (rs : RG G ρ H σA σ) (rv : RV G ρ H x v) (e : putT σA h t x = some σA')
    (q : ∀ σ', RG G ρ H σA' σ' → wipe σ' own = wipe σ own → Q σ' H) : rdG G.K t v σ H Q := by
  cases t with
  | name i =>
    cases e
    exact q _ (rs.set i rv) (wipe_set (ht i (by simp [MT.slots])))
  | tup is =>
    unfold putT at e
    cases rv with
    | tup h2 rr =>
      obtain ⟨h1, h3⟩ := rs.many rr e
      exact ⟨_, _, rfl, h2.sq, h3, q _ h1 (wipe_many ht)⟩
    | _ => cases e
/-- what a comprehension's loop asks -/
def CompW (J : It) (g : TG) (te : TE) (vs : List Nat) (σ : L2.St) (D : Addr) (Q : VK) (H0 : Hp) : Prop := ∃ Wn : Nat → Nat → Hp → Prop, (∃ m, Wn 0 m H0) ∧ ∀ i m H, Wn i m H →
  (J.stop i H ∧ Q (.ref D) H) ∨ (J.go i H ∧ ∃ Nx : Hp → Prop, (∀ H', Nx H' → ∃ m', m' < m ∧ Wn (i + 1) m' H') ∧ ∀ x H', J.yld i H x H' → g x (wipe σ vs) H' fun σ2 H2 => wipe σ2 vs = wipe σ vs ∧ tYes σ2 H2 fun b H3 =>
    if b = true then te σ2 H3 fun y H4 => ∃ acc, H4 D = some (.lst acc) ∧ acc.length < sizeLine ∧ Nx (upd H4 D (.lst (acc ++ [y]))) else Nx H3)
theorem kComp_nx {k : Nat} {ρ : List Addr} {H : Hp} {E : XK} {σA : Sg} {h : AH} {Q : AV → AH → List Addr → Hp → Prop} (o : Out G E ρ H (kComp k (.nx σA h)) Q) : Out G E ρ H (.ok (.ref k) h) Q := o
theorem cturn_r {ρ : List Addr} {h : AH} {H : Hp} {σA : Sg} {σ : L2.St} {t : MT} {own : List Nat} {m : ME} {x : AV} {v : V} {k : Nat} {D : Addr} {E : XK} {Q : AV → AH → List Addr → Hp → Prop} {Nx : Hp → Prop} {next : Sg → AH → RS}
    (ht : ∀ i ∈ t.slots, i ∈ own) (rs : RG T.G ρ H σA σ) (rv : RV T.G ρ H x v) (rh : RH T.G ρ h H) (ed : ρ[k]? = some D)
    (o : Out T.G E ρ H (kComp k (match compTurn k own t (evE T.Pr cal m) x σA h with
      | .nx σ' h' => next σ' h'
      | .ct σ' h' => next σ' h'
      | .bk σ' h' => .nx σ' h'
      | r => r)) Q)
    (hN : ∀ ρ' h' H', Ext T.G ρ H ρ' H' → RH T.G ρ' h' H' → Out T.G E ρ' H' (kComp k (next σA h')) Q → Nx H') :
    rdG T.G.K t v (wipe σ own) H fun σ2 H2 => wipe σ2 own = wipe σ own ∧ tYes σ2 H2 fun b H3 =>
      if b = true then rdE T cal W0 m σ2 H3 fun y H4 => ∃ acc, H4 D = some (.lst acc) ∧ acc.length < sizeLine ∧ Nx (upd H4 D (.lst (acc ++ [y]))) else Nx H3 := by
  unfold compTurn at o
  cases e : putT (wipeS σA own) h t x with
  | none => rw [e] at o; exact o.elim
  | some σ1 =>
    rw [e] at o
    refine put_w ht (rs.wipe own) rv e fun σ' rs' hw => ⟨by rw [hw, wipe_wipe], ?_⟩
    show rdE T cal W0 m σ' H fun y H4 => ∃ acc, H4 D = some (.lst acc) ∧ acc.length < sizeLine ∧ Nx (upd H4 D (.lst (acc ++ [y])))
    refine ⟨ρ, σ1, h, rs', rh, ?_⟩
    dsimp only at o
    cases hf : evE T.Pr cal m σ1 h with
    | bad => rw [hf] at o; exact o.elim
    | exc c fs h1 => rw [hf] at o; exact o.elim
    | ok y h1 =>
      rw [hf] at o
      dsimp only at o
      intro ρ1 H1 e1 rh1 yv ry
      cases hk : h1[k]? with
      | none => rw [hk] at o; exact o.elim
      | some ob =>
        rw [hk] at o
        cases ob with
        | lst acc =>
          dsimp only at o
          by_cases hl : acc.length < sizeLine
          · rw [if_pos hl] at o
            have ed1 := e1.at ed
            obtain ⟨vs, z, rr⟩ := rh1.lst hk ed1
            obtain ⟨w0, hw0, _, hn1, hn2⟩ := (rh1.at' k _ D hk ed1).is rfl
            have ex : Ext T.G ρ1 H1 ρ1 (upd H1 D (.lst (vs ++ [yv]))) := Ext.put hw0 hn1 hn2
            obtain ⟨rh2, ex2⟩ := rh1.put (o' := .lst (acc ++ [y])) (u := .lst (vs ++ [yv])) hk ed1 rfl rfl (.lst upd_same ((rr.append (.cons ry .nil)).ext ex))
            refine ⟨vs, z, by rw [← rr.length]; exact hl, hN ρ1 _ _ (e1.trans ex2) rh2 (Out.later (e1.trans ex2) o)⟩
          · rw [if_neg hl] at o; exact o.elim
        | _ => exact o.elim

theorem comp_r {ρ : List Addr} {h : AH} {H : Hp} {σA : Sg} {σ : L2.St} {t : MT} {own : List Nat} {m : ME} {it : MIt} {J : It} {k : Nat} {D : Addr} {E : XK} {Q : VK}
    (ht : ∀ i ∈ t.slots, i ∈ own) (rs : RG T.G ρ H σA σ) (rh : RH T.G ρ h H) (ri : RIt T.G ρ H it J) (ed : ρ[k]? = some D)
    (o : Out T.G E ρ H (kComp k (walkI (compTurn k own t (evE T.Pr cal m)) it σA h)) fun x _ ρ' H' => ∀ v, RV T.G ρ' H' x v → Q v H') : CompW J (rdG T.G.K t) (rdE T cal W0 m) own σ D Q H := by
  generalize hf : compTurn k own t (evE T.Pr cal m) = f at o
  cases ri with
  | tup ha rr =>
    rename_i xs vs a
    refine ⟨fun i n H => ∃ ρ h, TA T.G.K H a vs ∧ RVs T.G ρ H xs vs ∧ RG T.G ρ H σA σ ∧ RH T.G ρ h H ∧ ρ[k]? = some D ∧ i ≤ xs.length ∧ n = xs.length - i ∧ Out T.G E ρ H (kComp k (walkT f (xs.drop i) σA h)) fun x _ ρ' H' => ∀ v, RV T.G ρ' H' x v → Q v H', ⟨_, ρ, h, ha, rr, rs, rh, ed, Nat.zero_le _, rfl, o⟩, ?_⟩
    rintro i n H ⟨ρ, h, ha, rr, rs, rh, ed, hi, rfl, o⟩
    by_cases hlt : i < xs.length
    · have hd : xs.drop i = xs[i] :: xs.drop (i + 1) := List.drop_eq_getElem_cons hlt
      rw [hd] at o
      obtain ⟨v, hv, rv⟩ := rr.get (List.getElem?_eq_getElem hlt)
      refine .inr ⟨⟨vs, v, ha.sq, hv⟩, fun H' => ∃ ρ h, TA T.G.K H' a vs ∧ RVs T.G ρ H' xs vs ∧ RG T.G ρ H' σA σ ∧ RH T.G ρ h H' ∧ ρ[k]? = some D ∧ i + 1 ≤ xs.length ∧ Out T.G E ρ H' (kComp k (walkT f (xs.drop (i + 1)) σA h)) fun x _ ρ' H' => ∀ v, RV T.G ρ' H' x v → Q v H', ?_, ?_⟩
      · rintro H' ⟨ρ, h, h1, h2, h3, h4, h5, h6, h7⟩
        exact ⟨xs.length - (i + 1), by omega, ρ, h, h1, h2, h3, h4, h5, h6, rfl, h7⟩
      · rintro x H' ⟨rfl, hy⟩
        have hx := hy vs ha.sq
        rw [hv] at hx
        cases hx
        subst hf
        exact cturn_r ht rs rv rh ed o fun ρ' h' H' e rh' o' => ⟨ρ', h', e.tup _ _ ha, rr.ext e, rs.ext e, rh', e.at ed, hlt, o'⟩
    · have hd : xs.drop i = [] := List.drop_of_length_le (by omega)
      rw [hd] at o
      exact .inl ⟨⟨vs, ha.sq, by rw [← rr.length]; omega⟩, kComp_nx o ρ H .refl rh _ (.ref ed)⟩
  | lst ea =>
    rename_i l a
    cases hs : seqOf h (.ref l) with
    | none => dsimp only [walkI] at o; rw [hs] at o; exact o.elim
    | some xs0 =>
      dsimp only [walkI] at o
      rw [hs] at o
      refine ⟨fun i n H => ∃ ρ h, ρ[l]? = some a ∧ RG T.G ρ H σA σ ∧ RH T.G ρ h H ∧ ρ[k]? = some D ∧ Out T.G E ρ H (kComp k (walkL f l n i σA h)) fun x _ ρ' H' => ∀ v, RV T.G ρ' H' x v → Q v H', ⟨_, ρ, h, ea, rs, rh, ed, o⟩, ?_⟩
      rintro i n H ⟨ρ, h, ea, rs, rh, ed, o⟩
      cases hs : seqOf h (.ref l) with
      | none => cases n <;> (dsimp only [walkL] at o; rw [hs] at o; exact o.elim)
      | some xs =>
        obtain ⟨vs, hq, rr⟩ := rh.seq hs ea
        cases n with
        | zero =>
          dsimp only [walkL] at o
          rw [hs] at o
          dsimp only at o
          by_cases hl : xs.length ≤ i
          · rw [if_pos hl] at o
            exact .inl ⟨⟨vs, hq, by rw [← rr.length]; exact hl⟩, kComp_nx o ρ H .refl rh _ (.ref ed)⟩
          · rw [if_neg hl] at o; exact o.elim
        | succ n =>
          dsimp only [walkL] at o
          rw [hs] at o
          dsimp only at o
          cases hx : xs[i]? with
          | none =>
            rw [hx] at o
            have hl : xs.length ≤ i := List.getElem?_eq_none_iff.mp hx
            exact .inl ⟨⟨vs, hq, by rw [← rr.length]; exact hl⟩, kComp_nx o ρ H .refl rh _ (.ref ed)⟩
          | some x =>
            rw [hx] at o
            dsimp only at o
            obtain ⟨v, hv, rv⟩ := rr.get hx
            refine .inr ⟨⟨vs, v, hq, hv⟩, fun H' => ∃ ρ h, ρ[l]? = some a ∧ RG T.G ρ H' σA σ ∧ RH T.G ρ h H' ∧ ρ[k]? = some D ∧ Out T.G E ρ H' (kComp k (walkL f l n (i + 1) σA h)) fun x _ ρ' H' => ∀ v, RV T.G ρ' H' x v → Q v H', ?_, ?_⟩
            · rintro H' q
              exact ⟨n, Nat.lt_succ_self _, q⟩
            · rintro y H' ⟨rfl, hy⟩
              have hx' := hy vs hq
              rw [hv] at hx'
              cases hx'
              subst hf
              exact cturn_r ht rs rv rh ed o fun ρ' h' H' e rh' o' => ⟨ρ', h', e.at ea, rs.ext e, rh', e.at ed, o'⟩
  | rng n =>
    refine ⟨fun i m H => ∃ ρ h, i + m = n ∧ RG T.G ρ H σA σ ∧ RH T.G ρ h H ∧ ρ[k]? = some D ∧ Out T.G E ρ H (kComp k (walkR f m (i : Int) σA h)) fun x _ ρ' H' => ∀ v, RV T.G ρ' H' x v → Q v H', ⟨n, ρ, h, by omega, rs, rh, ed, o⟩, ?_⟩
    rintro i m H ⟨ρ, h, hm, rs, rh, ed, o⟩
    cases m with
    | zero => exact .inl ⟨by show n ≤ i; omega, kComp_nx o ρ H .refl rh _ (.ref ed)⟩
    | succ m =>
      refine .inr ⟨by show i < n; omega, fun H' => ∃ ρ h, (i + 1) + m = n ∧ RG T.G ρ H' σA σ ∧ RH T.G ρ h H' ∧ ρ[k]? = some D ∧ Out T.G E ρ H' (kComp k (walkR f m ((i + 1 : Nat) : Int) σA h)) fun x _ ρ' H' => ∀ v, RV T.G ρ' H' x v → Q v H', ?_, ?_⟩
      · rintro H' q
        exact ⟨m, Nat.lt_succ_self _, q⟩
      · rintro y H' ⟨rfl, rfl⟩
        subst hf
        exact cturn_r (x := .int i) ht rs (by rw [Int.zero_add]; exact .int _) rh ed o fun ρ' h' H' e rh' o' => ⟨ρ', h', by omega, rs.ext e, rh', e.at ed, o'⟩
theorem lc_r {t : MT} {own : List Nat} {m : ME} {src : MI} {σ : L2.St} {H : Hp} {Q : VK} (ht : ∀ i ∈ t.slots, i ∈ own) (h : rdE T cal W (.comp t src m own) σ H Q) : tLc (rdI T cal W src) (rdG T.G.K t) tYes (rdE T cal W0 m) own σ H Q := by
  obtain ⟨ρ, σA, h0, rs, rh, o⟩ := h
  refine ⟨ρ, σA, h0, rs, rh, (Out.bind o).imp fun it h1 ρ1 H1 e1 rh1 o1 J ri D hD => ?_⟩
  have rh2 : RH T.G (ρ1 ++ [D]) (h1 ++ [.lst []]) (upd H1 D (.lst [])) := rh1.new hD rfl (.lst upd_same .nil)
  have e2 : Ext T.G ρ1 H1 (ρ1 ++ [D]) (upd H1 D (.lst [])) := Ext.new hD [D]
  have ed : (ρ1 ++ [D])[h1.length]? = some D := by rw [← rh1.len]; simp
  have ri2 : RIt T.G (ρ1 ++ [D]) (upd H1 D (.lst [])) it J := by
    cases ri with
    | tup ha rr => exact .tup (e2.tup _ _ ha) (rr.ext e2)
    | lst ea => exact .lst (e2.at ea)
    | rng n => exact .rng n
  exact comp_r ht ((rs.ext e1).ext e2) rh2 ri2 ed (Out.later e2 o1)
theorem je_comp (rd : Rdy T cal lvl X W) {elt tg iter : Expr} {scope : Scope} {own : List (Str × Nat)} {pos : Pos} {t : MT} {src : MI} {m : ME} (ht : ∀ i ∈ t.slots, i ∈ own.map (·.2)) (hi : PI X tg iter (rdI T cal W src)) (ok : BlkOk X.N X.env.scope scope own)
    (hg : ∀ (s : Shared) (H : Hp) (C : Addr) (cl : List (Str × Addr)) (fp : List Addr), PG (X.blk s H scope (compEnvC scope cl C X.env) fp) tg (rdG T.G.K t))
    (he : ∀ (s : Shared) (H : Hp) (C : Addr) (cl : List (Str × Addr)) (fp : List Addr), PE (X.blk s H scope (compEnvC scope cl C X.env) fp) elt (rdE T cal W0 m)) (hs : ∀ x, foldedSetIterable iter X.env x = pure x) :
    PE X (.ListComp elt [⟨tg, iter, [], 0⟩] scope pos) (rdE T cal W (.comp t src m (own.map (·.2)))) := (pe_lc rd.calm rd.nd hi ok hg (fun _ _ _ _ _ => pts_nil) he hs).imp fun _ _ _ h => lc_r ht h
/-! ### dict displays -/
inductive DOk (T : Top) (cal : Nat → List AV → AH → R AV) (W : WX) (X : Cx) : List (Option Expr) → List Expr → List Str → MEs → List (TE × TE) → Prop
  | nil : DOk T cal W X [] [] [] .nil []
  | cons {k : Str} {j : Nat} {kp : Pos} {v : Expr} {m : ME} {keys : List (Option Expr)} {values : List Expr} {ks : List Str} {ms : MEs} {trs : List (TE × TE)} : PE X v (rdE T cal W m) → DOk T cal W X keys values ks ms trs →
    DOk T cal W X (some (.Constant (.str k) j kp) :: keys) (v :: values) (k :: ks) (.cons m ms) ((tC (.str k), rdE T cal W m) :: trs)
def pairsV : List Str → List V → List (V × V)
  | k :: ks, v :: vs => (.str k, v) :: pairsV ks vs
  | _, _ => []
def pairsK : List Str → List V → List (L2.Key × V)
  | k :: ks, v :: vs => (.inr k, v) :: pairsK ks vs
  | _, _ => []
theorem DOk.pps {keys : List (Option Expr)} {values : List Expr} {ks : List Str} {ms : MEs} {trs : List (TE × TE)} {pos : Pos} (h : DOk T cal W X keys values ks ms trs) : PPs X pos keys values trs := by
  induction h with
  | nil => exact pps_nil
  | cons a _ ih => exact pps_cons pe_str a ih
theorem DOk.len {keys : List (Option Expr)} {values : List Expr} {ks : List Str} {ms : MEs} {trs : List (TE × TE)} (h : DOk T cal W X keys values ks ms trs) : keys.length = ks.length ∧ keys.length = values.length ∧ keys.all (·.isSome) = true := by
  induction h with
  | nil => exact ⟨rfl, rfl, rfl⟩
  | cons a _ ih => exact ⟨by simp [ih.1], by simp [ih.2.1], by simp [ih.2.2]⟩
theorem pairs_r {σ : L2.St} {keys : List (Option Expr)} {values : List Expr} {ks : List Str} {ms : MEs} {trs : List (TE × TE)} (d : DOk T cal W X keys values ks ms trs) : ∀ {H : Hp} {Q : List (V × V) → Hp → Prop},
    Rdg T W (evEs T.Pr cal ms) σ H (fun xs _ ρ' H' => ∀ vs, RVs T.G ρ' H' xs vs → Q (pairsV ks vs) H') → tPairs trs σ H Q := by
  induction d with
  | nil => exact fun ⟨ρ, σA, h, rs, rh, o⟩ => o ρ _ .refl rh [] .nil
  | cons a _ ih => exact fun ⟨ρ, σA, h, rs, rh, o⟩ => ⟨ρ, σA, h, rs, rh, (Out.bind o).imp fun x h1 ρ1 H1 e1 rh1 o1 v rv => ih ⟨ρ1, σA, h1, rs.ext e1, rh1, (Out.bind o1).imp fun xs h2 ρ2 H2 e2 rh2 o2 vs rr => o2 ρ2 H2 .refl rh2 (v :: vs) (.cons (rv.ext e2) rr)⟩⟩
theorem dct_r {ρ : List Addr} {H : Hp} : ∀ {ks : List Str} {xs : List AV} {vs : List V} {kvs : List (Str × AV)}, RVs G ρ H xs vs → dctOf ks xs = some kvs → RD G ρ H kvs (pairsK ks vs) ∧ pairsV ks vs = (pairsK ks vs).map (fun kv => (kV kv.1, kv.2)) ∧ (pairsK ks vs).length = kvs.length
  | [], [], _, _, .nil, e => by cases e; exact ⟨.nil, rfl, rfl⟩
  | [], _ :: _, _, _, .cons _ _, e => by cases e
  | k :: ks, [], _, _, .nil, e => by cases e
  | k :: ks, x :: xs, v :: vs, kvs, .cons r t, e => by
    unfold dctOf at e
    cases e1 : dctOf ks xs with
    | none => rw [e1] at e; cases e
    | some l =>
      rw [e1] at e
      cases e
      obtain ⟨h1, h2, h3⟩ := dct_r t e1
      exact ⟨.cons r h1, by show (V.str k, v) :: pairsV ks vs = _; rw [h2]; rfl, by show (pairsK ks vs).length + 1 = _; rw [h3]; rfl⟩
theorem pairsK_keys : ∀ {ks : List Str} {vs : List V} {k : Str}, (ks.contains k = false) → ((pairsK ks vs).any fun kv => decide (kv.1 = Sum.inr k)) = false
  | [], _, _, _ => by unfold pairsK; rfl
  | _ :: _, [], _, _ => by unfold pairsK; rfl
  | k' :: ks, v :: vs, k, h => by
    simp only [List.contains_cons, Bool.or_eq_false_iff] at h
    unfold pairsK
    rw [List.any_cons, pairsK_keys h.2]
    have : k' ≠ k := fun z => by simp [z] at h
    simp [this]
theorem putK_new {acc : List (L2.Key × V)} {k : L2.Key} {v : V} (h : (acc.any fun kv => decide (kv.1 = k)) = false) : putK acc k v = acc ++ [(k, v)] := by unfold putK; rw [if_neg (by rw [h]; exact Bool.false_ne_true)]
theorem merge_new : ∀ {ks : List Str} {vs : List V} {acc : List (L2.Key × V)}, nodupB ks = true → (∀ k, ks.contains k = true → (acc.any fun kv => decide (kv.1 = Sum.inr k)) = false) → mergeK acc (pairsK ks vs) = acc ++ pairsK ks vs
  | [], _, acc, _, _ => by unfold pairsK mergeK; simp
  | _ :: _, [], acc, _, _ => by unfold pairsK mergeK; simp
  | k :: ks, v :: vs, acc, h, ha => by
    unfold nodupB at h
    simp only [Bool.and_eq_true, Bool.not_eq_true'] at h
    have e1 : putK acc (Sum.inr k : L2.Key) v = acc ++ [(Sum.inr k, v)] := putK_new (ha k (by simp))
    show mergeK (putK acc (Sum.inr k) v) (pairsK ks vs) = _
    rw [e1, merge_new h.2 fun k' hk' => ?_]
    · show acc ++ [(Sum.inr k, v)] ++ pairsK ks vs = acc ++ (Sum.inr k, v) :: pairsK ks vs
      simp
    · rw [List.any_append, ha k' (by simp only [List.contains_cons, hk', Bool.or_true])]
      have : k ≠ k' := fun z => by subst z; rw [h.1] at hk'; cases hk'
      simp [this]
theorem je_dct (rd : Rdy T cal lvl X W) {keys : List (Option Expr)} {values : List Expr} {ks : List Str} {ms : MEs} {trs : List (TE × TE)} {pos : Pos} (d : DOk T cal W X keys values ks ms trs) (h0 : keys ≠ []) (h15 : keys.length ≤ 15) :
    PE X (.Dict keys values pos) (rdE T cal W (.dct ks ms)) := by
  obtain ⟨l1, l2, l3⟩ := d.len
  refine (pe_disp d.pps l3 l2 h0 h15).imp fun σ H Q ⟨ρ, σA, h, rs, rh, o⟩ p hp => ?_
  have rh2 : RH T.G (ρ ++ [p]) (h ++ [.dct []]) (upd H p (.dK [])) := rh.new hp rfl (.dct upd_same .nil)
  have e2 : Ext T.G ρ H (ρ ++ [p]) (upd H p (.dK [])) := Ext.new hp [p]
  have ep : (ρ ++ [p])[h.length]? = some p := by rw [← rh.len]; simp
  refine pairs_r d ⟨_, σA, _, rs.ext e2, rh2, (Out.bind (Out.later e2 o)).imp fun xs h3 ρ3 H3 e3 rh3 o3 vs rr => ?_⟩
  have ep3 := e3.at ep
  unfold kDct at o3
  cases hk : h3[h.length]? with
  | none => rw [hk] at o3; exact o3.elim
  | some ob =>
    rw [hk] at o3
    cases hd : dctOf ks xs with
    | none => rw [hd] at o3; cases ob <;> first | exact o3.elim | (rename_i l; cases l <;> exact o3.elim)
    | some kvs =>
      rw [hd] at o3
      cases ob with
      | dct l =>
        cases l with
        | nil =>
          dsimp only at o3
          by_cases hc : kvs.length ≤ 15 ∧ nodupB ks = true
          · rw [if_pos hc] at o3
            obtain ⟨r1, r2, r3⟩ := dct_r rr hd
            cases rh3.at' _ _ _ hk ep3 with
            | dct z rz =>
              cases rz
              refine ⟨z, pairsK ks vs, r2, by rw [r3]; exact hc.1, ?_⟩
              rw [merge_new hc.2 fun _ _ => rfl, List.nil_append]
              have ex : Ext T.G ρ3 H3 ρ3 (upd H3 p (.dK (pairsK ks vs))) := Ext.put z (fun _ q => by cases q) (fun _ _ q => by cases q)
              obtain ⟨rh', ex'⟩ := rh3.put (o' := .dct kvs) (u := .dK (pairsK ks vs)) hk ep3 rfl rfl (.dct upd_same (r1.ext ex))
              exact o3 ρ3 _ ex' rh' _ (.ref ep3)
          · rw [if_neg hc] at o3; exact o3.elim
        | cons _ _ => exact o3.elim
      | _ => exact o3.elim
theorem je_dct0 (rd : Rdy T cal lvl X W) {pos : Pos} : PE X (.Dict [] [] pos) (rdE T cal W (.dct [] .nil)) := by
  refine pe_dnewK.imp fun σ H Q ⟨ρ, σA, h, rs, rh, o⟩ p hp => ?_
  have rh2 : RH T.G (ρ ++ [p]) (h ++ [.dct []]) (upd H p (.dK [])) := rh.new hp rfl (.dct upd_same .nil)
  have e2 : Ext T.G ρ H (ρ ++ [p]) (upd H p (.dK [])) := Ext.new hp [p]
  have ep : (ρ ++ [p])[h.length]? = some p := by rw [← rh.len]; simp
  have hg : (h ++ [AO.dct []])[h.length]? = some (.dct []) := by simp
  have hs : (h ++ [AO.dct []]).set h.length (.dct []) = h ++ [.dct []] := by rw [List.set_append_right _ _ (Nat.le_refl _)]; simp
  have o1 : Out T.G (WE W σ) ρ H (kDct h.length [] [] (h ++ [AO.dct []])) fun x _ ρ' H' => ∀ v, RV T.G ρ' H' x v → Q v H' := o
  unfold kDct at o1
  rw [hg] at o1
  have o2 : Out T.G (WE W σ) ρ H (.ok (.ref h.length) ((h ++ [AO.dct []]).set h.length (.dct []))) fun x _ ρ' H' => ∀ v, RV T.G ρ' H' x v → Q v H' := o1
  rw [hs] at o2
  exact o2 _ _ e2 rh2 _ (.ref ep)
end
end Mini
set_option autoImplicit false
set_option maxHeartbeats 4000000
/-! Mini, fifteenth part: statements. -/
namespace Mini
open PySem PySem.Spec L2
open PyProof.Rows hiding St
section
variable {T : Top} {cal : Nat → List AV → AH → R AV} {lvl : Nat} {X : Cx} {W : WX} {G : Gr}
variable {e o ix c : Expr} {m mo mi mc : ME} {pos pos' : Pos}
theorem stm_r {σ : L2.St} {H : Hp} {D : Ends} {f : Sg → AV → AH → RS} {R' : V → Hp → Prop} (h : RdgS T W (fun σA h => (evE T.Pr cal m σA h).stm σA (f σA)) D σ H)
    (k : ∀ ρ σA h H' x v, RG T.G ρ H' σA σ → RV T.G ρ H' x v → RH T.G ρ h H' → OutS T.G W ρ H' (f σA x h) D → R' v H') : rdE T cal W m σ H R' := by
  obtain ⟨ρ, σA, h, rs, rh, o⟩ := h
  exact ⟨ρ, σA, h, rs, rh, (OutS.stm rs o).imp fun x h1 ρ1 H1 e1 rh1 o1 v rv => k ρ1 σA h1 H1 x v (rs.ext e1) rv rh1 o1⟩
theorem js_set (rd : Rdy T cal lvl X W) {i : Nat} {x : Str} (n : NameOk X i x) (he : PE X e (rdE T cal W m)) (hs : swapsWith e (some (.Name x pos')) pos.line X.env = pure false) :
    PS X (.Assign [.Name x pos'] e pos) (rdS T cal W (.set i m)) :=
  (ps_set rd.nd n.ix n.loc he hs n.fn).imp fun D σ H h => stm_r (f := fun σA v h1 => .nx (σA.set i (some v)) h1) h fun ρ σA h1 H' x v rs rv rh o => o ρ H' _ .refl rh (rs.set i rv)
/-- y = [..] -/
theorem js_setC (rd : Rdy T cal lvl X W) {i : Nat} {y : Str} {py : Pos} {elt tg iter : Expr} {scope : Scope} {own : List (Str × Nat)} {pos spos : Pos} {t : MT} {src : MI} {m : ME} (n : NameOk X i y) (hyl : X.env.scope.names.lookup y = some .local)
    (hsw : swapsWith (.ListComp elt [⟨tg, iter, [], 0⟩] scope pos) (some (.Name y py)) spos.line X.env = pure true)
    (ht : ∀ i ∈ t.slots, i ∈ own.map (·.2)) (hi : PI X tg iter (rdI T cal W src)) (ok : BlkOk X.N X.env.scope scope own)
    (hg : ∀ (s : Shared) (H : Hp) (C : Addr) (cl : List (Str × Addr)) (fp : List Addr), PG (X.blk s H scope (compEnvC scope cl C X.env) fp) tg (rdG T.G.K t))
    (he : ∀ (s : Shared) (H : Hp) (C : Addr) (cl : List (Str × Addr)) (fp : List Addr), PE (X.blk s H scope (compEnvC scope cl C X.env) fp) elt (rdE T cal W0 m)) (hs : ∀ x, foldedSetIterable iter X.env x = pure x) :
    PS X (.Assign [.Name y py] (.ListComp elt [⟨tg, iter, [], 0⟩] scope pos) spos) (rdS T cal W (.set i (.comp t src m (own.map (·.2))))) := by
  refine (ps_setLc rd.calm rd.nd n.ix hyl hsw hi ok hg (fun _ _ _ _ _ => pts_nil) he hs).imp fun D σ H h => ?_
  have h2 : rdE T cal W (.comp t src m (own.map (·.2))) σ H (fun x H1 => gName i x σ H1 D.nx) := stm_r (f := fun σA v h1 => .nx (σA.set i (some v)) h1) h fun ρ σA h1 H' x v rs rv rh o => o ρ H' _ .refl rh (rs.set i rv)
  exact lc_r ht h2
theorem js_par (rd : Rdy T cal lvl X W) {i j : Nat} {x y : Str} {a b : Expr} {ma mb : ME} {px py pt : Pos} {kt k2 : Nat} {pt2 : Pos} (hi : X.N[i]? = some x) (hj : X.N[j]? = some y) (hij : i ≠ j)
    (hx : X.env.scope.names.lookup x = some .local) (hy : X.env.scope.names.lookup y = some .local) (ha : PA X [a, b] (rdEs T cal W (.cons ma (.cons mb .nil))))
    (hw : swappedStores [.Tuple [.Name x px, .Name y py] kt pt] (.Tuple [a, b] k2 pt2) X.env = pure (some [x, y])) :
    PS X (.Assign [.Tuple [.Name x px, .Name y py] kt pt] (.Tuple [a, b] k2 pt2) pos) (rdS T cal W (.par i j ma mb)) := by
  refine (ps_par rd.calm rd.nd hi hj hij hx hy ha hw).imp fun D σ H ⟨ρ, σA, h, rs, rh, o⟩ => ⟨ρ, σA, h, rs, rh, ?_⟩
  unfold evS at o
  unfold evEs
  cases ea : evE T.Pr cal ma σA h with
  | bad => rw [ea] at o; exact o.elim
  | exc c fs h1 => rw [ea] at o; exact fun ρ2 H2 cls d e2 rh2 x => o ρ2 H2 σ cls d e2 rh2 (rs.ext e2) x
  | ok va h1 =>
    rw [ea] at o
    unfold evEs
    dsimp only [R.bind, R.stm] at o ⊢
    cases eb : evE T.Pr cal mb σA h1 with
    | bad => rw [eb] at o; exact o.elim
    | exc c fs h2 => rw [eb] at o; exact fun ρ2 H2 cls d e2 rh2 x => o ρ2 H2 σ cls d e2 rh2 (rs.ext e2) x
    | ok vb h2 =>
      rw [eb] at o
      unfold evEs
      intro ρ2 H2 e2 rh2 vs rr
      cases rr with
      | cons r1 rr =>
        cases rr with
        | cons r2 rr =>
          cases rr
          exact ⟨_, _, rfl, o ρ2 H2 _ e2 rh2 (((rs.ext e2).set i r1).set j r2)⟩
theorem js_par3 (rd : Rdy T cal lvl X W) {i j l : Nat} {x y z : Str} {a b c : Expr} {ma mb mc : ME} {px py pz pt : Pos} {kt k2 : Nat} {pt2 : Pos} (hi : X.N[i]? = some x) (hj : X.N[j]? = some y) (hl : X.N[l]? = some z) (hij : i ≠ j) (hil : i ≠ l) (hjl : j ≠ l)
    (hx : X.env.scope.names.lookup x = some .local) (hy : X.env.scope.names.lookup y = some .local) (hz : X.env.scope.names.lookup z = some .local) (ha : PA X [a, b, c] (rdEs T cal W (.cons ma (.cons mb (.cons mc .nil)))))
    (hw : swappedStores [.Tuple [.Name x px, .Name y py, .Name z pz] kt pt] (.Tuple [a, b, c] k2 pt2) X.env = pure (some [x, y, z])) :
    PS X (.Assign [.Tuple [.Name x px, .Name y py, .Name z pz] kt pt] (.Tuple [a, b, c] k2 pt2) pos) (rdS T cal W (.par3 i j l ma mb mc)) := by
  refine (ps_par3 rd.calm rd.nd hi hj hl hij hil hjl hx hy hz ha hw).imp fun D σ H ⟨ρ, σA, h, rs, rh, o⟩ => ⟨ρ, σA, h, rs, rh, ?_⟩
  unfold evS at o
  unfold evEs
  cases ea : evE T.Pr cal ma σA h with
  | bad => rw [ea] at o; exact o.elim
  | exc c fs h1 => rw [ea] at o; exact fun ρ2 H2 cls d e2 rh2 x => o ρ2 H2 σ cls d e2 rh2 (rs.ext e2) x
  | ok va h1 =>
    rw [ea] at o
    unfold evEs
    dsimp only [R.bind, R.stm] at o ⊢
    cases eb : evE T.Pr cal mb σA h1 with
    | bad => rw [eb] at o; exact o.elim
    | exc c fs h2 => rw [eb] at o; exact fun ρ2 H2 cls d e2 rh2 x => o ρ2 H2 σ cls d e2 rh2 (rs.ext e2) x
    | ok vb h2 =>
      rw [eb] at o
      unfold evEs
      dsimp only [R.bind, R.stm] at o ⊢
      cases ec : evE T.Pr cal mc σA h2 with
      | bad => rw [ec] at o; exact o.elim
      | exc c fs h3 => rw [ec] at o; exact fun ρ2 H2 cls d e2 rh2 x => o ρ2 H2 σ cls d e2 rh2 (rs.ext e2) x
      | ok vc h3 =>
        rw [ec] at o
        unfold evEs
        intro ρ2 H2 e2 rh2 vs rr
        cases rr with
        | cons r1 rr =>
          cases rr with
          | cons r2 rr =>
            cases rr with
            | cons r3 rr =>
              cases rr
              exact ⟨_, _, _, rfl, o ρ2 H2 _ e2 rh2 ((((rs.ext e2).set i r1).set j r2).set l r3)⟩
/-- (a, b, ..) = a tuple or a list -/
theorem pg_seqA (hN : X.N.Nodup) (hc : X.calm = true) {is : List Nat} {es : List Expr} {k : Nat} {pos : Pos} (h : NamesOk X is es) :
    PG X (.Tuple es k pos) (fun v σ H Q => ∃ a xs, v = .ref a ∧ (SqL X.K H a xs ∨ SqT X.K H a xs) ∧ xs.length = is.length ∧ Q (setManyV σ is xs) H) := by
  obtain ⟨h1, h2⟩ := h.each
  refine ⟨fun pins s σ H v u Q I r q => ?_⟩
  obtain ⟨a, xs, e, hs | hs, hl, q⟩ := q
  · exact (pg_unl (n := is.length) hc (pgs_names hN h) h1 h2).run pins s σ H v u Q I r ⟨a, xs, e, hs, hl, hl, q⟩
  · exact (pg_tup (n := is.length) hc (pgs_names hN h) h1 h2).run pins s σ H v u Q I r ⟨a, xs, e, hs, hl, hl, q⟩
theorem js_unp (rd : Rdy T cal lvl X W) {is : List Nat} {es : List Expr} {k : Nat} {tp : Pos} (n : NamesOk X is es) (he : PE X e (rdE T cal W m)) (hs : swapsWithSole [.Tuple es k tp] e pos.line X.env = pure false)
    (hw : swappedStores [.Tuple es k tp] e X.env = pure none) : PS X (.Assign [.Tuple es k tp] e pos) (rdS T cal W (.unp is m)) := by
  refine (ps_asg he (pg_seqA rd.nd rd.calm n) hs hw).imp fun D σ H h => stm_r (f := fun σA => kUnp σA is) h fun ρ σA h1 H' x v rs rv rh o => ?_
  unfold kUnp at o
  cases ex : seqOf h1 x with
  | none => rw [ex] at o; exact o.elim
  | some xs =>
    rw [ex] at o
    dsimp only at o
    cases em : setMany σA is xs with
    | none => rw [em] at o; exact o.elim
    | some σ2 =>
      rw [em] at o
      obtain ⟨a, vs, e1, hq, rr⟩ := rv.items rh ex
      obtain ⟨r1, r2⟩ := rs.many rr em
      exact ⟨a, vs, e1, by rw [rd.k]; exact hq, r2, o ρ H' _ .refl rh r1⟩
theorem js_setI (rd : Rdy T cal lvl X W) (ho : PE X o (rdE T cal W mo)) (hi : PE X ix (rdE T cal W mi)) (he : PE X e (rdE T cal W m)) (hs : swapsWith e (some (.Subscript o ix pos')) pos.line X.env = pure false) :
    PS X (.Assign [.Subscript o ix pos'] e pos) (rdS T cal W (.setI mo mi m)) := by
  refine (ps_dput (by have := rd.hu; omega) ho hi he hs).imp fun D σ H h => stm_r (f := fun σA v h1 => (evE T.Pr cal mo σA h1).stm σA fun x h2 => (evE T.Pr cal mi σA h2).stm σA fun y h3 => (R.of (setIA x y v h3)).stm σA fun _ h4 => .nx σA h4) h fun ρ σA h1 H1 x v rs rv rh o => ?_
  refine ⟨ρ, σA, h1, rs, rh, (OutS.stm rs o).imp fun xo h2 ρ2 H2 e2 rh2 o2 vo ro => ?_⟩
  refine ⟨ρ2, σA, h2, rs.ext e2, rh2, (OutS.stm (rs.ext e2) o2).imp fun xi h3 ρ3 H3 e3 rh3 o3 vi ri => ?_⟩
  have rs3 := (rs.ext e2).ext e3
  have ro := ro.ext e3
  have rv := (rv.ext e2).ext e3
  cases es : setIA xo xi x h3 with
  | none => rw [es] at o3; exact o3.elim
  | some p =>
    obtain ⟨u, h4⟩ := p
    rw [es] at o3
    unfold setIA at es
    split at es
    · rename_i k zz _
      split at es
      · rename_i kvs hk'
        split at es
        · rename_i hl
          cases es
          obtain ⟨a, rfl, ea⟩ := ro.ref_inv
          obtain rfl := ri.str_inv
          obtain ⟨ws, zd, rdd⟩ := rh3.dct hk' ea
          have hlen : ws.length < sizeLine := small1000 (by rw [← rdd.length]; omega)
          have hw := (rh3.at' k _ a hk' ea).is rfl
          obtain ⟨w0, hw0, _, hn1, hn2⟩ := hw
          have ex : Ext T.G ρ3 H3 ρ3 (upd H3 a (.dK (L2.putK ws (Sum.inr zz) v))) := Ext.put hw0 hn1 hn2
          obtain ⟨rh', ex'⟩ := rh3.put (o' := .dct (putA kvs zz x)) (u := .dK (L2.putK ws (Sum.inr zz) v)) hk' ea rfl rfl (.dct upd_same ((rdd.put rv).ext ex))
          exact ⟨a, _, rfl, DPut.k (k := Sum.inr zz) zd hlen, o3 ρ3 _ σ ex' rh' (rs3.ext ex')⟩
        · cases es
      · cases es
    · cases es
theorem js_setF (rd : Rdy T cal lvl X W) {f : Str} (hf : f ∈ T.flds) (ho : PE X o (rdE T cal W mo)) (he : PE X e (rdE T cal W m)) (hs : swapsWith e (some (.Attribute o f pos')) pos.line X.env = pure false) :
    PS X (.Assign [.Attribute o f pos'] e pos) (rdS T cal W (.setF mo f m)) := by
  refine ⟨fun pins s σ H D I h => ?_⟩
  obtain ⟨ρ, σA, h0, rs, rh, o1⟩ := h
  have h1 : rdE T cal W m σ H fun v H1 => ∃ ρ σA h1 x, RG T.G ρ H1 σA σ ∧ RV T.G ρ H1 x v ∧ RH T.G ρ h1 H1 ∧ OutS T.G W ρ H1 ((evE T.Pr cal mo σA h1).stm σA fun y h2 => (R.of (setFA T.Pr y f x h2)).stm σA fun _ h3 => .nx σA h3) D :=
    ⟨ρ, σA, h0, rs, rh, (OutS.stm rs o1).imp fun x h1 ρ1 H1 e1 rh1 o1 v rv => ⟨ρ1, σA, h1, x, rs.ext e1, rv, rh1, o1⟩⟩
  refine plainObj_wpAny_Assign_Attribute (thn (he.run pins s σ H _ I h1) fun v s1 ⟨y, H1, I1, r1, ρ1, σA1, h1, xa, rs1, rv1, rh1, o1⟩ => ?_) hs
  have h2 : rdE T cal W mo σ H1 fun w H2 => ∃ ρ σA h2 z, RG T.G ρ H2 σA σ ∧ RV T.G ρ H2 z w ∧ RV T.G ρ H2 xa y ∧ RH T.G ρ h2 H2 ∧ OutS T.G W ρ H2 ((R.of (setFA T.Pr z f xa h2)).stm σA fun _ h3 => .nx σA h3) D :=
    ⟨ρ1, σA1, h1, rs1, rh1, (OutS.stm rs1 o1).imp fun z h2 ρ2 H2 e2 rh2 o2 w rw => ⟨ρ2, σA1, h2, z, rs1.ext e2, rw, rv1.ext e2, rh2, o2⟩⟩
  refine thn (ho.run pins s1 σ H1 _ I1 h2) fun u s2 ⟨x, H2, I2, r2, ρ2, σA2, h2, za, rs2, rz, ry, rh2, o2⟩ => ?_
  cases es : setFA T.Pr za f xa h2 with
  | none => rw [es] at o2; exact o2.elim
  | some p =>
    obtain ⟨uu, h3⟩ := p
    rw [es] at o2
    exact setf_A rd hf I2 r2 r1 rz ry rh2 es fun s' ρ' H' e' rh' I' => ⟨σ, H', I', o2 ρ' H' σ e' rh' (rs2.ext e')⟩
theorem js_ex (he : PE X e (rdE T cal W m)) (hs : swapsWith e none pos.line X.env = pure false) : PS X (.Expr e pos) (rdS T cal W (.ex m)) :=
  (ps_expr he hs).imp fun D σ H h => stm_r (f := fun σA _ h1 => .nx σA h1) h fun ρ σA h1 H' x v rs rv rh o => o ρ H' _ .refl rh rs
theorem js_doc {x : Str} {j : Nat} : PS X (.Expr (.Constant (.str x) j pos) pos') (rdS T cal W .pass) := ps_doc.imp fun D σ H ⟨ρ, σA, h, rs, rh, o⟩ => o ρ H _ .refl rh rs
theorem js_pass : PS X (.Pass pos) (rdS T cal W .pass) := ps_pass.imp fun D σ H ⟨ρ, σA, h, rs, rh, o⟩ => o ρ H _ .refl rh rs
theorem js_brk : PS X (.Break pos) (rdS T cal W .brk) := ps_break.imp fun D σ H ⟨ρ, σA, h, rs, rh, o⟩ => o ρ H _ .refl rh rs
theorem js_cnt : PS X (.Continue pos) (rdS T cal W .cnt) := ps_continue.imp fun D σ H ⟨ρ, σA, h, rs, rh, o⟩ => o ρ H _ .refl rh rs
theorem js_ret (he : PE X e (rdE T cal W m)) : PS X (.Return (some e) pos) (rdS T cal W (.ret m)) :=
  (ps_ret he).imp fun D σ H h => stm_r (f := fun σA v h1 => .rt v h1) h fun ρ σA h1 H' x v rs rv rh o => o ρ H' v .refl rh rv
theorem js_retN : PS X (.Return none pos) (rdS T cal W .retN) := ps_retN.imp fun D σ H ⟨ρ, σA, h, rs, rh, o⟩ => o ρ H _ .refl rh .non
theorem js_if {a b : List Stmt} {ma mb : MSs} (hc : PT X c (rdT T cal W mc)) (ha : PSs X a (rdSs T cal W ma)) (hb : PSs X b (rdSs T cal W mb)) : PS X (.If c a b pos) (rdS T cal W (.if_ mc ma mb)) := by
  refine (ps_if hc ha hb).imp fun D σ H ⟨ρ, σA, h, rs, rh, o⟩ => ⟨ρ, σA, h, rs, rh, (OutS.stm rs o).imp fun x h1 ρ1 H1 e1 rh1 o1 => ?_⟩
  unfold kIf at o1
  split at o1
  · exact ⟨true, rfl, show rdSs T cal W ma D σ H1 from ⟨ρ1, σA, h1, rs.ext e1, rh1, o1⟩⟩
  · exact ⟨false, rfl, show rdSs T cal W mb D σ H1 from ⟨ρ1, σA, h1, rs.ext e1, rh1, o1⟩⟩
  · exact o1.elim
theorem js_for (rd : Rdy T cal lvl X W) {tg iter : Expr} {body : List Stmt} {t : MT} {src : MI} {ms : MSs} (hp : PassesOwn (model X.prog X.w) X.A X.env X.xe) (hi : PI X tg iter (rdI T cal W src)) (hg : PG X tg (rdG T.G.K t)) (hb : PSs X body (rdSs T cal W ms))
    (hs : ∀ x, foldedSetIterable iter X.env x = pure x) : PS X (.For tg iter body [] pos) (rdS T cal W (.for_ t src ms)) := by
  refine (ps_for hp rd.calm hi hg hb hs).imp fun D σ H ⟨ρ, σA, h, rs, rh, o⟩ => ⟨ρ, σA, h, rs, rh, (OutS.stm rs o).imp fun it h1 ρ1 H1 e1 rh1 o1 J ri => ?_⟩
  exact loop_r (rs.ext e1) rh1 ri o1
theorem jss_nil : PSs X [] (rdSs T cal W .nil) := pss_nil.imp fun D σ H ⟨ρ, σA, h, rs, rh, o⟩ => o ρ H _ .refl rh rs
theorem jss_cons {s : Stmt} {r : List Stmt} {ms : MS} {mr : MSs} (h1 : PS X s (rdS T cal W ms)) (h2 : PSs X r (rdSs T cal W mr)) : PSs X (s :: r) (rdSs T cal W (.cons ms mr)) := by
  refine (pss_cons h1 h2).imp fun D σ H ⟨ρ, σA, h, rs, rh, o⟩ => ⟨ρ, σA, h, rs, rh, ?_⟩
  unfold evSs at o
  cases e : evS T.Pr cal ms σA h with
  | nx σ2 h2 => rw [e] at o; exact fun ρ' H' σ' e' rh' rs' => ⟨ρ', σ2, h2, rs', rh', OutS.later e' o⟩
  | rt v k => rw [e] at o; exact o
  | bk s k => rw [e] at o; exact o
  | ct s k => rw [e] at o; exact o
  | exc c fs s k => rw [e] at o; exact o
  | bad => rw [e] at o; exact o
end
end Mini
set_option autoImplicit false
set_option maxHeartbeats 4000000
/-! Mini, exceptions, second part: raise. -/
namespace Mini
open PySem PySem.Spec L2
open PyProof.Rows hiding St
section
variable {G : Gr}
/-- the exception is let go: its object is tracked no more, its dict stands as an exception's dict -/
theorem RH.raise {ρ : List Addr} {h : AH} {H : Hp} {k d c : Nat} {fs : List (Str × AV)} {a dx : Addr} {vs : List (Str × V)} (r : RH G ρ h H) (hk : h[k]? = some (.exn c (some d))) (hd : h[d]? = some (.xdc fs)) (ea : ρ[k]? = some a) (ed : ρ[d]? = some dx)
    (za : H a = some (exo a (G.ad c) (some dx))) (zd : H dx = some (exd dx vs)) :
    RH G ρ ((h.set k .gone).set d .gone) (upd (del H a) dx (.xd vs)) ∧ Ext G ρ H ρ (upd (del H a) dx (.xd vs)) := by
  have hkd : k ≠ d := fun z => by
    subst z
    rw [hk] at hd
    cases hd
  have stayN : ∀ b u, H b = some u → (∀ q, q = u → q ≠ exo a (G.ad c) (some dx)) → (∀ q, q = u → q ≠ exd dx vs) → upd (del H a) dx (.xd vs) b = some u := fun b u e n1 n2 => by
    have h1 : b ≠ a := fun z => by
      rw [z, za] at e
      exact n1 _ rfl (Option.some.inj e).symm
    have h2 : b ≠ dx := fun z => by
      rw [z, zd] at e
      exact n2 _ rfl (Option.some.inj e).symm
    rw [upd_ne h2, del_ne h1]; exact e
  have ex : Ext G ρ H ρ (upd (del H a) dx (.xd vs)) := ⟨⟨[], by simp⟩, fun b xs z => by
    rcases z with z | z
    · exact .inl (stayN b _ z (fun q e => by subst e; exact Ne.symm exo_tup) (fun q e => by subst e; exact Ne.symm exd_tup))
    · exact .inr z⟩
  have get : ∀ {j : Nat} {o : AO}, ((h.set k AO.gone).set d AO.gone)[j]? = some o → o ≠ .gone → j ≠ d ∧ j ≠ k ∧ h[j]? = some o := fun {j o} z n => by
    by_cases hj : d = j
    · subst hj
      rw [List.getElem?_set_self (by rw [List.length_set]; exact (List.getElem?_eq_some_iff.mp hd).1)] at z
      cases z; exact absurd rfl n
    · rw [List.getElem?_set_ne hj] at z
      by_cases hj2 : k = j
      · subst hj2
        rw [List.getElem?_set_self (List.getElem?_eq_some_iff.mp hk).1] at z
        cases z; exact absurd rfl n
      · rw [List.getElem?_set_ne hj2] at z
        exact ⟨Ne.symm hj, Ne.symm hj2, z⟩
  refine ⟨⟨by simp [r.len], fun j o b h1 h2 => ?_, fun i j o u b h1 h2 m1 m2 h3 h4 => ?_⟩, ex⟩
  · cases o with
    | gone => exact .gone
    | rls xs =>
      obtain ⟨_, _, h1⟩ := get h1 (fun z => nomatch z)
      cases r.at' j _ b h1 h2 with
      | frz z rr => exact .frz (stayN b _ z (fun q e => by subst e; exact Ne.symm exo_frz) (fun q e => by subst e; exact fun z => nomatch z)) (rr.ext ex)
      | kls z rr => exact .kls z (rr.ext ex)
    | _ =>
      obtain ⟨n1, n2, h1⟩ := get h1 (fun z => nomatch z)
      have q := r.at' j _ b h1 h2
      refine q.stay ex fun u hu => ?_
      have hba : b ≠ a := fun z => by
        subst z
        exact n2 (r.nd j k _ _ b h1 hk rfl rfl h2 ea)
      have hbd : b ≠ dx := fun z => by
        subst z
        exact n1 (r.nd j d _ _ b h1 hd rfl rfl h2 ed)
      rw [upd_ne hbd, del_ne hba]; exact hu
  · obtain ⟨_, _, h1⟩ := get h1 (fun z => by subst z; cases m1)
    obtain ⟨_, _, h2⟩ := get h2 (fun z => by subst z; cases m2)
    exact r.nd i j o u b h1 h2 m1 m2 h3 h4
end
section
variable {X : Cx}
/-- the end of C(e, ..) in a raise: where the dict stands is not asked -/
theorem mk_endF {pins : List (Addr × Obj)} {σ : L2.St} {H1 H2 : Hp} {Q : XK} {hp hp2 h2 : Heap} {g1 g2 : Array GenState} {d1 d2 : Drawn} {t1 t2 : Nat} {os1 os2 : OsState} {a C d : Addr} {fs : List (Str × V)} (T : Raises X (.ref C)) (I1 : Inv X pins σ H1 ⟨hp, g1, d1, t1, os1⟩)
    (ha : hp.objs.size ≤ a) (k : ∀ b o, hp.get? b = some o → hp2.get? b = some o) (un : Un (frs X.stack) [] (upd H1 a (exo a C none)) H2 hp2 h2) (hok : HOk X.prog X.w H2 h2) (ho : os2 = os1) (hb : AllBare g2)
    (ea : H2 a = some (exo a C (some d))) (ed : H2 d = some (exd d fs)) (q : Q (.ref C) (some d) (upd (del H2 a) d (.xd fs))) : MkP X pins σ Q (.ref a) ⟨h2, g2, d2, t2, os2⟩ := by
  obtain ⟨t0, hoe⟩ := exo_at hok ea
  obtain ⟨mA, hns, rel⟩ := exd_at hok ed
  have hn : H1 a = none := I1.hok.fresh ha
  have hda : d ≠ a := fun z => by
    obtain ⟨o, es, ep, e1, e2, _⟩ := hns
    rw [z, hoe] at e1
    have z2 := Option.some.inj e1
    subst z2
    cases e2
  obtain ⟨G, g1', g2'⟩ := restrict h2 fun b => decide (b ≠ a)
  have gk : ∀ b, b ≠ a → G.get? b = h2.get? b := fun b hb => g1' b (decide_eq_true hb)
  have ge : G.get? a = none := g2' a (by simp)
  have nha : ∀ {b : Addr} {o : Obj}, hp.get? b = some o → b ≠ a := fun {b o} z => Nat.ne_of_lt (Nat.lt_of_lt_of_le (Heap.lt_size z) ha)
  have up : ∀ {b : Addr}, b ≠ a → H1 b = none → upd H1 a (exo a C none) b = none := fun {b} hb n => by rw [upd_ne hb]; exact n
  have nd : ∀ {b : Addr} {o : Obj}, hp.get? b = some o → H1 b = none → b ≠ d := fun {b o} z n e => by
    have y := un.free b o (k b o z) (up (nha z) n) (by simp)
    rw [e, ed] at y
    cases y
  have U : Un (frs X.stack) [] H1 (upd (del H2 a) d (.xd fs)) hp G := {
    keep := fun b o z n hf hx => by
      rw [gk b (nha z)]
      exact un.keep b o (k b o z) (up (nha z) n) hf hx
    slot := fun b o z n hf hx => by
      rw [gk b (nha z)]
      exact un.slot b o (k b o z) (up (nha z) n) hf hx
    free := fun b o z n hx => by
      rw [upd_ne (nd z n), del_ne (nha z)]
      exact un.free b o (k b o z) (up (nha z) n) hx
    there := fun b o z hx => by
      rw [gk b (nha z)]
      exact un.there b o (k b o z) hx
    tups := fun b xs z => by
      have y := un.tups b xs (by rw [upd_ne (ne_of_none z hn)]; exact z)
      rw [upd_ne (at_ne ed y exd_tup), del_ne (ne_of_none z hn)]
      exact y
    frzs := fun b o v z => by
      have y := un.frzs b o v (by rw [upd_ne (ne_of_none z hn)]; exact z)
      rw [upd_ne (at_ne ed y (fun z => nomatch z)), del_ne (ne_of_none z hn)]
      exact y
    tbls := fun b ps z => by
      obtain ⟨more, y⟩ := un.tbls b ps (by rw [upd_ne (ne_of_none z hn)]; exact z)
      refine ⟨more, ?_⟩
      rw [upd_ne (at_ne ed y (fun z => nomatch z)), del_ne (ne_of_none z hn)]
      exact y }
  have hok3 : HOk X.prog X.w (upd (del H2 a) d (.xd fs)) G := fun b o z => by
    by_cases hbd : b = d
    · subst hbd
      rw [upd_same] at z
      cases z
      exact ⟨mA, hns.at fun o y => (gk b hda).trans y, rel⟩
    · rw [upd_ne hbd] at z
      have hba : b ≠ a := fun e => by
        rw [e, del_same] at z
        cases z
      rw [del_ne hba] at z
      have noa : ∀ {c : Addr}, H2 c = some (.own b) → c ≠ a := fun {c} hc => at_ne ea hc exo_own
      exact (hok b o z).stay (fun c v hc y => by
          have hca : c ≠ a := by
            rcases hc with hc | hc
            · rw [hc]
              exact hba
            · exact noa hc
          rw [gk c hca]
          exact y)
        (fun c hc => by rw [upd_ne (at_ne ed hc exd_own), del_ne (noa hc)]; exact hc) (fun c xs hc => by rw [upd_ne (at_ne ed hc exd_tup), del_ne (at_ne ea hc exo_tup)]; exact hc)
  have J : Inv X pins σ (upd (del H2 a) d (.xd fs)) ⟨G, g2, d2, t2, os2⟩ := I1.call' (ch := []) ho U hok3 hb (fun b z => absurd z (by simp))
  refine ⟨a, _, _, ⟨G, g2, d2, t2, os2⟩, _, .ref C, some d, rfl, J, fun b o z => ?_, ge, hoe, ⟨rfl, rfl⟩, rfl, rfl, ?_, rfl, hb, T, q⟩
  · by_cases hba : b = a
    · rw [hba, ge] at z
      cases z
    · exact (gk b hba).symm.trans z
  · rw [upd_ne (Ne.symm hda), del_same]
end
section
variable {T : Top} {cal : Nat → List AV → AH → R AV} {lvl : Nat} {X : Cx} {W : WX}
variable {e : Expr} {pos p pos' : Pos} {es : List Expr} {ms : MEs} {ta : L2.TA}
/-- C(e, ..) in a raise -/
def tRz (C : Addr) (sp : Sp) (E : L2.St → XK) (ta : L2.TA) : L2.St → Hp → XK → Prop := fun σ H Q => ta σ H fun vs H1 => vs.length ≤ 1000 ∧ ∀ a, H1 a = none → sp (.ref a :: vs) (upd H1 a (exo a C none))
  (fun v H2 => v = .non ∧ ∃ (d : Addr) (fs : List (Str × V)), H2 a = some (exo a C (some d)) ∧ H2 d = some (exd d fs) ∧ Q (.ref C) (some d) (upd (del H2 a) d (.xd fs))) (E σ)
theorem run_raise {C fI : Addr} {k : Nat} {fd : FuncData} {ps : List Str} {sp : Sp} {pins : List (Addr × Obj)} {σ : L2.St} {H : Hp} {s : Shared} {Q : XK} {us : List Value} {vs : List V}
    (O : OexC X.K C) (iC : PySem.W.findIn X.K (.ref C) "__init__" = some (some (.ref fI))) (tI : PySem.W.typeIn X.K (.ref fI) = some (.type "function")) (F : FnG X.prog X.w X.K X.mg X.base k fI fd ps sp) (hg : X.A.guards = some []) (hr : Room (k + 1) X.A) (tk : Takes X W)
    (I : Inv X pins σ H s) (b : ∀ (s : Shared) (x : Value), BindsTo s fd ⟨x :: us, []⟩ (ps.zip (x :: us))) (r : Vals vs us) (hus : us.length ≤ sizeLine)
    (h : ∀ a, H a = none → sp (.ref a :: vs) (upd H a (exo a C none)) (fun v H2 => v = .non ∧ ∃ (d : Addr) (fs : List (Str × V)), H2 a = some (exo a C (some d)) ∧ H2 d = some (exd d fs) ∧ Q (.ref C) (some d) (upd (del H2 a) d (.xd fs))) (WE W σ)) :
    wpAny (model X.prog X.w) X.A (call (.ref C) us) (MkP X pins σ Q) X.xe s := by
  obtain ⟨nm, q, N, bs', bm, sn, sub, ab, col, dd, k0, k1, k2, k3, k5, hC, hbm⟩ := O.cls
  obtain ⟨hp, g, dr, tk', os⟩ := s
  have hsz : hp.objs.size ≤ hp.objs.size + 1 := Nat.le_succ _
  have hn : H (hp.objs.size + 1) = none := I.hok.fresh hsz
  have hq := h (hp.objs.size + 1) hn
  have kk : ∀ b o, hp.get? b = some o → ((hp.push (PySem.W.kdv_tup us)).push (PySem.HandSPX.excO C hp.objs.size)).get? b = some o := fun b o e => Heap.get?_push_of_some _ (Heap.get?_push_of_some _ e)
  have hget : ((hp.push (PySem.W.kdv_tup us)).push (PySem.HandSPX.excO C hp.objs.size)).get? (hp.objs.size + 1) = some (PySem.HandSPX.excO C hp.objs.size) := by heap_get
  have I2 : Inv X pins σ (upd H (hp.objs.size + 1) (exo (hp.objs.size + 1) C none)) ⟨(hp.push (PySem.W.kdv_tup us)).push (PySem.HandSPX.excO C hp.objs.size), g, dr, tk', os⟩ :=
    I.laid (t' := tk') (a := hp.objs.size + 1) (o := exo (hp.objs.size + 1) C none) (h' := (hp.push (PySem.W.kdv_tup us)).push (PySem.HandSPX.excO C hp.objs.size)) kk hsz (exo_ok hget)
  have r2 : Vals (V.ref (hp.objs.size + 1) :: vs) (Value.ref (hp.objs.size + 1) :: us) := .cons rfl r
  refine wpAny_call (kw_call_own PySem.F.excBase_ValueError (fun Y => PySem.HandSPX.refsVE_contains Y bm hbm) (I.kIn _ _ hC) (PySem.W.looks_findIn I.kIn iC) (fun self => PySem.W.bind_fn I.kIn self tI) hus
    (codeAny_mono (F.run _ X.stack _ _ ⟨Value.ref (hp.objs.size + 1) :: us, []⟩ (Value.ref (hp.objs.size + 1) :: us) _ _ (WE W σ) (guards_make hg _ _ _) (hr.make C us []) (I2.env0.make C us []) (b _ _) r2 hq) fun r s' hq' => ?_))
  cases r with
  | error er => exact passAt tk σ pins _ _ er s' I2 hq'
  | ok fl =>
    cases fl with
    | ret u =>
      obtain ⟨v, H2, os2, bare2, un2, hok2, rv, ev, d, fs, ea, ed, q2⟩ := hq'
      subst ev
      obtain ⟨h2, g2, d2, t2, os'⟩ := s'
      exact ⟨rv, mk_endF (raises_own O.exC O.tyC) I hsz kk un2 hok2 os2 bare2 ea ed q2⟩
    | next => exact False.elim hq'
    | brk => exact False.elim hq'
    | cont => exact False.elim hq'
theorem pmk_rz (rd : Rdy T cal lvl X W) {g i : Nat} {x : Str} {ee : MExc} {d : MDef} (N : Named T X g x) (hg : T.Pr g = some (.exc ee)) (hi : ee.init = some i) (hd : T.Pr i = some (.def_ d)) (ha : PA X (e :: es) ta)
    (he : starEach (e :: es) X.env = (false, eval e X.env) :: starEach es X.env) (hpl : (backTo pos (starEach es X.env)).any (·.1) = false) :
    PMk X (.Call (.Name x p) (e :: es) [] pos) (tRz (T.G.ad g) (spC T.G cal i d.np) (WE W) ta) := by
  intro pins s σ H Q I h
  have O := rd.top.ex g ee hg
  obtain ⟨i1, i2⟩ := O.init i hi
  obtain ⟨fd, F, hbd⟩ := rd.tab.fn i d hd
  have F' : FnG X.prog X.w X.K X.mg X.base lvl (T.G.ad i) fd d.params (spC T.G cal i d.np) := by rw [rd.k]; exact F
  refine wpAny_Call_Name_kw (ld_glob I N.gl N.mg ?_ N.db)
  refine PySem.W.callWith_K (h₀ := X.base) I.ok.mod.kin (N.kx rd) (thn (ha.run pos pins s σ H _ I h) fun us s1 ⟨vs, H1, I1, r, hl, q⟩ => ⟨I1.kIn, ?_⟩) he hpl
  show wpAny _ _ (call (.ref (T.G.ad g)) us) _ _ _
  by_cases hlen : us.length + 1 = d.params.length
  · refine run_raise (by rw [rd.k]; exact O.oex) (by rw [rd.k]; exact i1) (by rw [rd.k]; exact i2) F' rd.gd rd.room rd.tk I1 (fun s x => .of_eq (hbd (x :: us) [] [] (x :: us) (bindK_nil (by rw [List.length_cons]; exact hlen)) rfl)) r (by rw [← Paired.length r, sizeLine_eq]; omega) q
  · have q1 := q (s1.heap.objs.size) (I1.hok.fresh (Nat.le_refl _))
    have h1 := q1.1
    rw [List.length_cons, ← rd.top.np i d hd, Paired.length r] at h1
    exact absurd h1 hlen
/-- raise C(e, ..) -/
theorem js_raise (rd : Rdy T cal lvl X W) {g i : Nat} {x : Str} {ee : MExc} {d : MDef} (N : Named T X g x) (hg : T.Pr g = some (.exc ee)) (hi : ee.init = some i) (hd : T.Pr i = some (.def_ d)) (ha : PA X (e :: es) (rdEs T cal W ms))
    (he : starEach (e :: es) X.env = (false, eval e X.env) :: starEach es X.env) (hpl : (backTo pos (starEach es X.env)).any (·.1) = false) :
    PS X (.Raise (some (.Call (.Name x p) (e :: es) [] pos)) none pos') (rdS T cal W (.raise g ms)) := by
  refine (ps_raise rd.calm rd.tk (pmk_rz rd N hg hi hd ha he hpl)).imp fun D σ H ⟨ρ, σA, h, rs, rh, o⟩ => ?_
  have o' : OutS T.G W ρ H ((evEs T.Pr cal ms σA h).stm σA (kRaise T.Pr cal g σA)) D := o
  refine ⟨ρ, σA, h, rs, rh, (OutS.stm rs o').imp fun xs h1 ρ1 H1 e1 rh1 o1 vs rv => ?_⟩
  have hx : excAt T.Pr g = some ee := by unfold excAt; rw [hg]
  obtain ⟨dd, pp, ps', hd', hps⟩ := rd.top.ex2 g ee i hg hi
  rw [hd] at hd'
  cases hd'
  have hpp : paramsOf T.Pr g = some ps' := by
    unfold paramsOf
    rw [hg]
    dsimp only
    rw [hi]
    dsimp only
    rw [hd]
    dsimp only
    rw [hps]; rfl
  unfold kRaise at o1
  rw [hx, hpp] at o1
  dsimp only at o1
  rw [hi] at o1
  dsimp only at o1
  split at o1
  rotate_left
  · exact o1.elim
  rename_i hl
  refine ⟨by rw [← rv.length]; exact hl.2, fun a hn => ?_⟩
  have ex : Ext T.G ρ1 H1 (ρ1 ++ [a]) (upd H1 a (exo a (T.G.ad g) none)) := Ext.new hn [a]
  have rh2 := rh1.new (o := .exn g none) (u := exo a (T.G.ad g) none) hn rfl (.exn0 upd_same)
  have rx0 : RV T.G (ρ1 ++ [a]) (upd H1 a (exo a (T.G.ad g) none)) (.ref h1.length) (.ref a) := .fresh rh1
  have hnp : vs.length + 1 = d.np := by rw [← rv.length, ← rd.top.np i d hd, hps, List.length_cons, hl.1]
  refine ⟨by rw [List.length_cons]; exact hnp, ρ1 ++ [a], .ref h1.length :: xs, h1 ++ [.exn g none], .cons rx0 (rv.ext ex), rh2, ?_⟩
  cases hc : cal i (.ref h1.length :: xs) (h1 ++ [.exn g none]) with
  | bad => rw [hc] at o1; exact o1.elim
  | exc _ _ _ => rw [hc] at o1; exact o1.elim
  | ok z h2 =>
    rw [hc] at o1
    cases z with
    | non =>
      dsimp only at o1
      split at o1
      · rename_i c d2 hk
        split at o1
        · rename_i fs hd2
          split at o1
          · rename_i hcg
            subst hcg
            intro ρ2 H2 e2 rh3 v rv2
            cases rv2
            refine ⟨rfl, ?_⟩
            have ea : ρ2[h1.length]? = some a := by
              have := rx0.ext e2
              obtain ⟨a', z1, z2⟩ := this.ref_inv
              cases z1
              exact z2
            obtain ⟨dx, ws, r1, r2, r3, rf⟩ := rh3.exn hk hd2 ea
            refine ⟨dx, ws, r2, r3, ?_⟩
            obtain ⟨rh4, ex4⟩ := rh3.raise hk hd2 ea r1 r2 r3
            have exA := (ex.trans e2).trans ex4
            exact o1 ρ2 _ σ _ _ exA rh4 ((rs.ext e1).ext exA) ⟨rfl, dx, ws, rfl, upd_same, rf.ext ex4⟩
          · exact o1.elim
        · exact o1.elim
      · exact o1.elim
    | _ => exact o1.elim
end
end Mini
set_option autoImplicit false
set_option maxHeartbeats 4000000
/-! Mini, exceptions, third part: try with several except clauses, with names. -/
namespace Mini
open PySem PySem.Spec L2
open PyProof.Rows hiding St
abbrev ClA := Value × Option Nat × (Addr → Value → Option Addr → TS)
def endsN (D : Ends) (i : Nat) : Ends := { nx := fun σ' H' => D.nx (σ'.set i none) H', rt := D.rt, bk := fun σ' H' => D.bk (σ'.set i none) H', ct := fun σ' H' => D.ct (σ'.set i none) H' }
/-- what the clauses wish of an exception of the body -/
def wManyA (K : PySem.W.Frag) (Wout : WX) (D : Ends) : List ClA → WX
  | [] => Wout
  | (c, none, ts) :: r => fun cls d σ H => ∃ b, PySem.W.exmOne K cls c = some b ∧ (b = true → ∀ a, H a = none → ts a cls d D σ H) ∧ (b = false → wManyA K Wout D r cls d σ H)
  | (c, some i, ts) :: r => fun cls d σ H => ∃ b, PySem.W.exmOne K cls c = some b ∧ (b = true → ∀ a, H a = none → ts a cls d (endsN D i) (σ.set i (some (.ref a))) H) ∧ (b = false → wManyA K Wout D r cls d σ H)
inductive HdsA (X : Cx) : List ExceptHandler → List ClA → Prop
  | nil : HdsA X [] []
  | one {x : Str} {c : Value} {ts : Addr → Value → Option Addr → TS} {b₀ : Stmt} {suite : List Stmt} {np pos' : Pos} {hds : List ExceptHandler} {l : List ClA} (hc : Names X x c)
      (hsu : ∀ (a : Addr) (oe : Obj) (cls : Value) (d : Option Addr) (pn : List (Addr × Obj)), Zc cls d oe → (∃ vs, oe.data = .fields vs) → PSs (X.suite a ((a, oe) :: pn)) (b₀ :: suite) (ts a cls d)) (r : HdsA X hds l) :
      HdsA X (.ExceptHandler (some (.Name x np)) none (b₀ :: suite) pos' :: hds) ((c, none, ts) :: l)
  | as_ {x n : Str} {i : Nat} {c : Value} {ts : Addr → Value → Option Addr → TS} {b₀ : Stmt} {suite : List Stmt} {np pos' : Pos} {hds : List ExceptHandler} {l : List ClA} (hc : Names X x c) (hi : X.N[i]? = some n) (hln : X.env.kindOf n = some .local)
      (hsu : ∀ (a : Addr) (oe : Obj) (cls : Value) (d : Option Addr) (pn : List (Addr × Obj)), Zc cls d oe → (∃ vs, oe.data = .fields vs) → PSs (X.suite a ((a, oe) :: pn)) (b₀ :: suite) (ts a cls d)) (r : HdsA X hds l) :
      HdsA X (.ExceptHandler (some (.Name x np)) (some n) (b₀ :: suite) pos' :: hds) ((c, some i, ts) :: l)
section
variable {X : Cx} {body : List Stmt} {h₀ : ExceptHandler} {hds : List ExceptHandler} {l : List ClA} {pos : Pos} {tb : WX → TS} {Wout : WX}
theorem ps_try_manyA (hs : X.stack = X.env :: X.outer) (hf : X.env.frame = some X.env.locals) (hN : X.N.Nodup) (tk : Takes X Wout)
    (hb : ∀ (W : WX) (pn : List (Addr × Obj)) (xe : Value → Shared → Prop), Takes (X.tr pn xe) W → PassesOwn (model X.prog X.w) X.A X.env xe → PSs (X.tr pn xe) body (tb W))
    (hh : HdsA X (h₀ :: hds) l) : PS X (.Try body (h₀ :: hds) [] [] pos) (fun D σ H => tb (wManyA X.K Wout D l) D σ H) := by
  refine ⟨fun pins s σ H D I h => ?_⟩
  have ok := I.ok
  have hfr : X.A.frames = some (X.env :: X.outer) := by rw [ok.frames, hs]
  refine wpAny_Try_except ?_
  refine wpAny_mono ((hb (wManyA X.K Wout D l) (X.pn ++ pins) (fun e s₁ => wpAny (model X.prog X.w) X.A (noteFrame e X.env) (fun _ s₂ => wpAny (model X.prog X.w) X.A (setFlight e none) (fun _ s₃ =>
    wpAny (model X.prog X.w) X.A (handleBy e X.env (h₀ :: hds)) (SP X pins D) X.xe s₃) X.xe s₂) X.xe s₁) (fun u s' xx => ?_) PassesOwn.looking).run [] s σ H D (I.toTry _) h) (fun f s1 hsp => ?_) (fun e s1 he => he)
  · -- the catch
    obtain ⟨a, B, sI, pins', σ', H', cls, d, rfl, J', nb, up, sky, na, os, ag, w⟩ := xx
    have J : Inv X pins σ' H' sI := J'.ofTry ok
    have sky' : Sky B (X.env :: X.outer) a (Zc cls d) X.env.locals s'.heap := by rw [← hs]; exact sky
    show wpAny (model X.prog X.w) X.A (noteFrame (.ref a) X.env) _ _ _
    refine Sky.land Zc.steady hfr hf sky' fun h3 fl3 up3 => ?_
    have J3 : Inv X pins σ' H' { s' with heap := h3 } := J.landed nb fl3.1 (up.trans up3) os ag
    obtain ⟨oe3, vs3, he3, hz3, hd3⟩ := fl3.there
    have notFr : ∀ {h : Heap} {o : Obj} {vs : Array Value}, h.FunFrames B (X.env :: X.outer) → h.get? a = some o → o.data = .fields vs → a ∉ frs (X.env :: X.outer) := fun {h o vs} ff e dd hm => by
      obtain ⟨_, o', e', hnf⟩ := ff.mem hm
      rw [e] at e'; cases e'
      exact hnf _ dd
    have nfr := notFr fl3.2.2.1 he3 hd3
    have nL : a ≠ X.env.locals := fun z => nfr (List.mem_filterMap.mpr ⟨X.env, List.mem_cons_self, by rw [hf, z]⟩)
    have nF : a ∉ X.fs := fun hm => by
      obtain ⟨e, he, q⟩ := List.mem_filterMap.mp hm
      exact nfr (List.mem_filterMap.mpr ⟨e, List.mem_cons_of_mem _ he, q⟩)
    have S3 := J3.suite he3 hd3 na nL nF
    have LT : PySem.W.Looks (model X.prog X.w) h3 (typeOf (.ref a)) cls := fun A Q E s k q => wpAny_typeOf_ref (k _ _ he3) (by rw [hz3.1]; exact q)
    have test : ∀ {x : Str} {c : Value} {np : Pos}, Names X x c → ∀ {Q : Value → Shared → Prop} {E : Value → Shared → Prop}, Q c { s' with heap := h3 } → wpAny (model X.prog X.w) (X.A.mark (some (.ref a))) (eval (.Name x np) X.env) Q E { s' with heap := h3 } := fun {x c np} hc {Q E} q => by
      obtain ⟨hg, hdbg, hm | ⟨hm, hv, hnn⟩⟩ := hc
      · exact ld_glob (X := X.suite a ((a, oe3) :: (X.pn ++ pins))) S3 hg hm q hdbg
      · exact ld_blt (X := X.suite a ((a, oe3) :: (X.pn ++ pins))) S3 hg hm hv q hnn hdbg
    have go : ∀ {hds' : List ExceptHandler} {l' : List ClA}, HdsA X hds' l' → wManyA X.K Wout D l' cls d σ' H' →
        wpAny (model X.prog X.w) X.A (handleBy (.ref a) X.env hds') (SP X pins D) X.xe { s' with heap := h3 } := by
      intro hds' l' hk
      induction hk with
      | nil =>
        intro w
        refine wpAny_handleBy_nil ?_
        obtain ⟨k1, k2, k3, oe, vs, T, oT, ts', he, hz, hd, h1, hr⟩ := id fl3
        unfold PySem.passOn
        refine wpAny_bind (wpAny_field he hd h1 ?_)
        rw [if_neg (show ¬ ((Value.ref T == Value.none) = true) from by simp)]
        have fin : wpAny (model X.prog X.w) X.A (setFlight (.ref a) X.env.frame) (fun _ s4 => wpAny (model X.prog X.w) X.A (throw (.ref a) : Sem Flow) (SP X pins D) X.xe s4) X.xe { s' with heap := h3 } := by
          rw [hf]
          refine HandSPX.setFlight_upZ fl3 fun h4 hh4 up4 => wpAny_throw (tk _ _ ?_)
          exact ⟨a, B, sI, pins, σ', H', cls, d, rfl, J, nb, (up.trans up3).trans up4, .inr (.inr (by rw [hs]; exact hh4)), na, os, ag, w⟩
        first
          | exact wpAny_bind (wpAny_pure (wpAny_bind fin))
          | exact wpAny_bind fin
      | @one x c ts b₀ suite np pos' hds2 l2 hc hsu r ih =>
        intro w
        obtain ⟨b, hb1, hyes, hno⟩ := w
        refine wpAny_handleBy_cons (codeAny_handlers_test ?_) (by intro q; cases q)
        have LM := PySem.W.exm_one (M := model X.prog X.w) (J3.kIn) LT hb1
        refine test hc (LM.here ?_)
        cases b with
        | true =>
          refine codeAny_handlers_suite ?_
          refine HandSPX.lands_againZ fl3 fun h4 fl4 up4 => ?_
          have J4 : Inv X pins σ' H' { s' with heap := h4 } := J.landed nb fl4.1 ((up.trans up3).trans up4) os ag
          obtain ⟨oe4, vs4, he4, hz4, hd4⟩ := fl4.there
          have S4 := J4.suite he4 hd4 na nL nF
          refine wpAny_mono ((hsu a oe4 cls d (X.pn ++ pins) hz4 ⟨_, hd4⟩).run [] _ _ H' _ S4 (hyes rfl a na)) (fun f s6 hsp => ?_) (fun _ _ z => False.elim z)
          cases f with
          | next =>
            obtain ⟨σ6, H6, S6, q6⟩ := hsp
            exact ⟨_, _, S6.unsuite ok, q6⟩
          | brk =>
            obtain ⟨σ6, H6, S6, q6⟩ := hsp
            exact ⟨_, _, S6.unsuite ok, q6⟩
          | cont =>
            obtain ⟨σ6, H6, S6, q6⟩ := hsp
            exact ⟨_, _, S6.unsuite ok, q6⟩
          | ret u =>
            obtain ⟨v6, σ6, H6, S6, r6, q6⟩ := hsp
            exact ⟨_, _, _, S6.unsuite ok, r6, q6⟩
        | false =>
          show wpAny _ X.A (handleBy (.ref a) X.env hds2) _ _ _
          exact ih (hno rfl)
      | @as_ x n i c ts b₀ suite np pos' hds2 l2 hc hi hln hsu r ih =>
        intro w
        obtain ⟨b, hb1, hyes, hno⟩ := w
        have hloc : Loc X.env.scope n := .inl hln
        refine wpAny_handleBy_cons (codeAny_handlers_test ?_) (by intro q; cases q)
        have LM := PySem.W.exm_one (M := model X.prog X.w) (J3.kIn) LT hb1
        refine test hc (LM.here ?_)
        cases b with
        | true =>
          refine codeAny_handlers_suite_as ?_
          refine HandSPX.lands_againZ fl3 fun h4 fl4 up4 => ?_
          have J4 : Inv X pins σ' H' { s' with heap := h4 } := J.landed nb fl4.1 ((up.trans up3).trans up4) os ag
          obtain ⟨oe4, vs4, he4, hz4, hd4⟩ := fl4.there
          have S4 := J4.suite he4 hd4 na nL nF
          refine store_ok (X := X.suite a ((a, oe4) :: (X.pn ++ pins))) (v := .ref a) S4 hN hi hloc rfl (fun s5 S5 => ?_) (.inr hln)
          refine wpAny_mono ((hsu a oe4 cls d (X.pn ++ pins) hz4 ⟨_, hd4⟩).run [] s5 _ H' _ S5 (hyes rfl a na)) (fun f s6 hsp => ?_) (fun _ _ z => False.elim z)
          have end_ : ∀ {σ6 : L2.St} {H6 : Hp} {Q : Shared → Prop}, Inv (X.suite a ((a, oe4) :: (X.pn ++ pins))) [] σ6 H6 s6 → (∀ s7, Inv X pins (σ6.set i none) H6 s7 → Q s7) →
              wpAny (model X.prog X.w) X.A (do bindName X.env n .none; unbindBehindTheSuite X.env n pos') (fun _ s7 => Q s7) X.xe s6 := fun {σ6 H6 Q} S6 hq => gone_ok (S6.unsuite ok) hN hi hln hq
          cases f with
          | next =>
            obtain ⟨σ6, H6, S6, q6⟩ := hsp
            exact end_ S6 fun s7 J7 => ⟨_, _, J7, q6⟩
          | brk =>
            obtain ⟨σ6, H6, S6, q6⟩ := hsp
            exact end_ S6 fun s7 J7 => ⟨_, _, J7, q6⟩
          | cont =>
            obtain ⟨σ6, H6, S6, q6⟩ := hsp
            exact end_ S6 fun s7 J7 => ⟨_, _, J7, q6⟩
          | ret u =>
            obtain ⟨v6, σ6, H6, S6, r6, q6⟩ := hsp
            exact end_ S6 fun s7 J7 => ⟨_, _, _, J7, r6, q6⟩
        | false =>
          show wpAny _ X.A (handleBy (.ref a) X.env hds2) _ _ _
          exact ih (hno rfl)
    exact go hh w
  · cases f with
    | next =>
      obtain ⟨σ', H', J', q⟩ := hsp
      exact wpAny_execs_nil ⟨σ', H', J'.ofTry ok, q⟩
    | brk =>
      obtain ⟨σ', H', J', q⟩ := hsp
      exact ⟨σ', H', J'.ofTry ok, q⟩
    | cont =>
      obtain ⟨σ', H', J', q⟩ := hsp
      exact ⟨σ', H', J'.ofTry ok, q⟩
    | ret u =>
      obtain ⟨v, σ', H', J', r, q⟩ := hsp
      exact ⟨v, σ', H', J'.ofTry ok, r, q⟩
end
def noStarX : Expr → Bool
  | .Starred .. => false
  | _ => true
theorem star_x {e : Expr} {es : List Expr} {env : Env} (h : noStarX e = true) : starEach (e :: es) env = (false, eval e env) :: starEach es env := by
  cases e <;> first | rfl | (cases h)
theorem base_n {n f : Str} {p : Pos} {env : Env} : attributeBase (.Name n p) f env (eval (.Name n p) env) = eval (.Name n p) env := by
  unfold attributeBase
  rfl
/-! ### clauses as the small syntax has them -/
section
variable {T : Top} {cal : Nat → List AV → AH → R AV} {lvl : Nat} {X : Cx} {W : WX}
theorem Rdy.tr (rd : Rdy T cal lvl X W) {W' : WX} (pn : List (Addr × Obj)) (xe : Value → Shared → Prop) (tk : Takes (X.tr pn xe) W') : Rdy T cal lvl (X.tr pn xe) W' :=
  ⟨rd.calm, rd.nd, rd.gd, rd.room, tk, rd.k, rd.top, rd.tab⟩
/-- the items of what a clause gives back -/
inductive ItOk (T : Top) (n : Str) : List HXI → List Expr → Prop
  | nil : ItOk T n [] []
  | str {z : Str} {j : Nat} {p : Pos} {xs : List HXI} {es : List Expr} : ItOk T n xs es → ItOk T n (.str z :: xs) (.Constant (.str z) j p :: es)
  | fld {f : Str} {p1 p2 : Pos} {xs : List HXI} {es : List Expr} : f ∈ T.flds → ItOk T n xs es → ItOk T n (.fld f :: xs) (.Attribute (.Name n p1) f p2 :: es)
def tItem (K : PySem.W.Frag) (a : Addr) (cls : Value) (d : Option Addr) (C : Addr) (i : Nat) : HXI → TE
  | .str z => tC (.str z)
  | .fld f => tXf a cls d C f (tVar i)
def tItems (K : PySem.W.Frag) (a : Addr) (cls : Value) (d : Option Addr) (C : Addr) (i : Nat) : List HXI → L2.TA
  | [] => tNil
  | x :: xs => tCons (tItem K a cls d C i x) (tItems K a cls d C i xs)
/-- the suite's reading -/
def tOut (G : Gr) (a : Addr) (cls : Value) (d : Option Addr) (m : MH) : TS := match m.out with
  | .bl b => tSeq (tRet (tC (.bl b))) tNext
  | .tup xs => tSeq (tRet (tTup (tItems G.K a cls d (G.ad m.g) (m.slot.getD 0) xs))) tNext
inductive ClOk (T : Top) (X : Cx) : MH → ExceptHandler → Prop
  | bl {g : Nat} {x : Str} {b : Bool} {j : Nat} {p1 p2 p3 p4 : Pos} : Names X x (.ref (T.G.ad g)) → ClOk T X ⟨g, none, .bl b⟩ (.ExceptHandler (some (.Name x p1)) none [.Return (some (.Constant (.bool b) j p2)) p3] p4)
  | tup {g i : Nat} {x n : Str} {ee : MExc} {xs : List HXI} {es : List Expr} {k : Nat} {p1 p2 p3 p4 : Pos} : Names X x (.ref (T.G.ad g)) → T.Pr g = some (.exc ee) → X.N[i]? = some n → X.env.kindOf n = some .local → (n == ("__debug__" : Str)) = false → (n == ("__classdict__" : Str)) = false → ItOk T n xs es →
      ClOk T X ⟨g, some i, .tup xs⟩ (.ExceptHandler (some (.Name x p1)) (some n) [.Return (some (.Tuple es k p2)) p3] p4)
inductive ClsOk' (T : Top) (X : Cx) : List MH → List ExceptHandler → Prop
  | nil : ClsOk' T X [] []
  | cons {m : MH} {h : ExceptHandler} {ms : List MH} {hs : List ExceptHandler} : ClOk T X m h → ClsOk' T X ms hs → ClsOk' T X (m :: ms) (h :: hs)
def clA (G : Gr) (m : MH) : ClA := (.ref (G.ad m.g), m.slot, fun a cls d => tOut G a cls d m)
theorem items_ok {a C : Addr} {oe : Obj} {cls : Value} {d : Option Addr} {pn : List (Addr × Obj)} {n : Str} {i : Nat} (XF : XfC X.K C) (hno : ∀ f ∈ T.flds, PySem.W.findIn X.K (.ref C) f = some none) (hz : Zc cls d oe) (hf : ∃ vs, oe.data = .fields vs)
    (hi : X.N[i]? = some n) (hv : Vis X.env.scope n) (hd : (n == ("__debug__" : Str)) = false) (hcd : (n == ("__classdict__" : Str)) = false) {xs : List HXI} {es : List Expr} (h : ItOk T n xs es) : PA (X.suite a ((a, oe) :: pn)) es (tItems X.K a cls d C i xs) := by
  have hvar : ∀ p, PE (X.suite a ((a, oe) :: pn)) (.Name n p) (tVar i) := fun p => pe_var (X := X.suite a ((a, oe) :: pn)) hi hv hd hcd
  induction h with
  | nil => exact pa_nil
  | str r ih => exact pa_cons (pe_str) ih (star_x (env := X.env) rfl)
  | fld hm r ih => exact pa_cons (pe_xf XF (hno _ hm) hz hf (hvar _) (base_n (env := X.env))) ih (star_x (env := X.env) rfl)
theorem clA_ok (rd : Rdy T cal lvl X W) {ms : List MH} {hs : List ExceptHandler} (h : ClsOk' T X ms hs) : HdsA X hs (ms.map (clA T.G)) := by
  induction h with
  | nil => exact .nil
  | cons hc r ih =>
    cases hc with
    | @bl g x b j p1 p2 p3 p4 hn =>
      have q : ∀ (a : Addr) (oe : Obj) (cls : Value) (d : Option Addr) (pn : List (Addr × Obj)), Zc cls d oe → (∃ vs, oe.data = .fields vs) → PSs (X.suite a ((a, oe) :: pn)) [.Return (some (.Constant (.bool b) j p2)) p3] (tOut T.G a cls d ⟨g, none, .bl b⟩) := fun a oe cls d pn hz hf => by
        unfold tOut
        dsimp only
        exact pss_cons (ps_ret pe_bl) pss_nil
      exact HdsA.one hn q ih
    | @tup g i x n ee xs es k p1 p2 p3 p4 hn hg hi hl hd hcd it =>
      have O := rd.top.ex _ _ hg
      have q : ∀ (a : Addr) (oe : Obj) (cls : Value) (d : Option Addr) (pn : List (Addr × Obj)), Zc cls d oe → (∃ vs, oe.data = .fields vs) → PSs (X.suite a ((a, oe) :: pn)) [.Return (some (.Tuple es k p2)) p3] (tOut T.G a cls d ⟨g, some i, .tup xs⟩) := fun a oe cls d pn hz hf => by
        have q := items_ok (X := X) (a := a) (oe := oe) (cls := cls) (d := d) (pn := pn) (C := T.G.ad g) (by rw [rd.k]; exact O.xf) (fun f hf => by rw [rd.k]; exact O.no f hf) hz hf hi (.inl hl) hd hcd it
        rw [rd.k] at q
        unfold tOut
        dsimp only
        exact pss_cons (ps_ret (pe_tup q)) pss_nil
      exact HdsA.as_ hn hi hl q ih
/-- what the items give -/
theorem items_r {G : Gr} {ρ : List Addr} {H : Hp} {a : Addr} {cls : Value} {dd : Addr} {c i : Nat} {fs : List (Str × AV)} {ws : List (Str × V)} {σ : L2.St} (hcls : cls = .ref (G.ad c)) (hdd : H dd = some (.xd ws)) (rf : RF G ρ H fs ws) (hσ : σ[i]? = some (some (.ref a))) : ∀ {xs : List HXI} {ys : List AV} {Q : List V → Hp → Prop},
    optAll (hxiA fs) xs = some ys → (∀ vs, RVs G ρ H ys vs → Q vs H) → tItems G.K a cls (some dd) (G.ad c) i xs σ H Q
  | [], ys, Q, e, q => by cases e; exact q [] .nil
  | x :: xs, ys, Q, e, q => by
    unfold optAll at e
    split at e
    · rename_i y ys' h1 h2
      cases e
      have rest : ∀ v, RV G ρ H y v → tItems G.K a cls (some dd) (G.ad c) i xs σ H fun vs H2 => Q (v :: vs) H2 := fun v rv => items_r hcls hdd rf hσ h2 fun vs rr => q (v :: vs) (.cons rv rr)
      cases x with
      | str z => cases h1; exact rest _ (.str z)
      | fld f =>
        obtain ⟨v, e1, r1⟩ := rf.get h1
        exact ⟨.ref a, hσ, rfl, hcls, dd, ws, v, rfl, hdd, e1, rest v r1⟩
    · cases e
theorem outA_tup {c n g : Nat} {fs : List (Str × AV)} {slot : Option Nat} {xs : List HXI} {v : AV} (e1 : outA c fs n ⟨g, slot, .tup xs⟩ = some v) : c = g ∧ xs.length ≤ sizeLine ∧ (∃ i, slot = some i ∧ i < n) ∧ ∃ ys, optAll (hxiA fs) xs = some ys ∧ v = .tup ys := by
  unfold outA at e1
  dsimp only at e1
  by_cases cc : c = g ∧ xs.length ≤ sizeLine ∧ slotOk slot n = true
  · rw [if_pos cc] at e1
    obtain ⟨ys, hy, hv⟩ := Option.map_eq_some_iff.mp e1
    refine ⟨cc.1, cc.2.1, ?_, ys, hy, hv.symm⟩
    have c3 := cc.2.2
    cases slot with
    | none => cases c3
    | some i => exact ⟨i, rfl, of_decide_eq_true c3⟩
  · rw [if_neg cc] at e1
    exact nomatch e1
/-- the clauses take what the run takes -/
theorem catch_r (top : TopOk T X.mg) (hk : X.K = T.G.K) {ρ : List Addr} {H : Hp} {σA : Sg} {σ : L2.St} {h : AH} {D : Ends} {c : Nat} {fs : List (Str × AV)} {cls : Value} {d : Option Addr} (rs : RG T.G ρ H σA σ) (rh : RH T.G ρ h H) (rx : RX T.G ρ H c fs cls d) :
    ∀ {ms : List MH}, OutS T.G W ρ H (catchA T.Pr c fs σA h ms) D → wManyA X.K W D (ms.map (clA T.G)) cls d σ H
  | [], o => o ρ H σ cls d .refl rh rs rx
  | m :: ms, o => by
    obtain ⟨hc, dd, ws, hdd, zd, rf⟩ := id rx
    unfold catchA at o
    cases e : isTD T.Pr (.x c) (.x m.g) with
    | none => rw [e] at o; exact o.elim
    | some b =>
      have he : isExc T.Pr c = true := by
        have e2 := e
        dsimp only [isTD] at e2
        split at e2
        · rename_i q; exact (Bool.and_eq_true_iff.mp q).1
        · cases e2
      obtain ⟨ee, hee⟩ := isExc_some he
      have O := top.ex c ee hee
      have ex : PySem.W.exmOne X.K cls (.ref (T.G.ad m.g)) = some b := by rw [hc, hk]; exact O.exm _ _ e
      rw [e] at o
      have no : b = false → wManyA X.K W D (ms.map (clA T.G)) cls d σ H := fun z => by
        subst z
        exact catch_r top hk rs rh rx o
      have yes : b = true → ∃ v, outA c fs σA.length m = some v ∧ OutS T.G W ρ H (.rt v h) D := fun z => by
        subst z
        dsimp only at o
        cases ev : outA c fs σA.length m with
        | none => rw [ev] at o; exact o.elim
        | some v => rw [ev] at o; exact ⟨v, rfl, o⟩
      obtain ⟨g, slot, out⟩ := m
      have main : b = true → ∀ a, H a = none → ∀ (D' : Ends) (σ' : L2.St), D'.rt = D.rt → (∀ i, slot = some i → i < σA.length → σ'[i]? = some (some (.ref a))) → tOut T.G a cls d ⟨g, slot, out⟩ D' σ' H := fun z a ha D' σ' hD hσ => by
        obtain ⟨v, e1, q⟩ := yes z
        unfold tOut
        cases out with
        | bl k =>
          cases e1
          show D'.rt (.bl k) H
          rw [hD]
          exact q ρ H _ .refl rh (.bl k)
        | tup xs =>
          have e2 := outA_tup e1
          obtain ⟨c1, c2, ⟨i, hsl, hi⟩, ys, hy, rfl⟩ := e2
          subst c1 hsl
          show tTup (tItems T.G.K a cls d (T.G.ad c) i xs) σ' H D'.rt
          rw [hD, hdd]
          refine items_r hc zd rf (hσ i rfl hi) hy fun vs rr => ⟨by rw [← rr.length, optAll_length hy]; exact c2, fun p hp => ?_⟩
          obtain ⟨rh2, ex2⟩ := rh.beside (u := .tup vs) hp
          exact q ρ _ _ ex2 rh2 (.tup (.inl upd_same) (rr.ext ex2))
      cases slot with
      | none => exact ⟨b, ex, fun z a ha => main z a ha D σ rfl (fun i z => nomatch z), no⟩
      | some i =>
        refine ⟨b, ex, fun z a ha => main z a ha (endsN D i) (σ.set i (some (.ref a))) rfl (fun j z hj => ?_), no⟩
        cases z
        exact List.getElem?_set_self (by rw [← rs.1]; exact hj)
theorem js_try (rd : Rdy T cal lvl X W) {body : List Stmt} {h0 : ExceptHandler} {hs : List ExceptHandler} {mb : MSs} {mhs : List MH} {pos : Pos} (hst : X.stack = X.env :: X.outer) (hf : X.env.frame = some X.env.locals)
    (hb : ∀ (W' : WX) (pn : List (Addr × Obj)) (xe : Value → Shared → Prop), Rdy T cal lvl (X.tr pn xe) W' → PassesOwn (model X.prog X.w) X.A X.env xe → PSs (X.tr pn xe) body (rdSs T cal W' mb))
    (hc : ClsOk' T X mhs (h0 :: hs)) : PS X (.Try body (h0 :: hs) [] [] pos) (rdS T cal W (.try_ mb mhs)) := by
  refine (ps_try_manyA hst hf rd.nd rd.tk (fun W' pn xe tk hp => hb W' pn xe (rd.tr pn xe tk) hp) (clA_ok rd hc)).imp fun D σ H ⟨ρ, σA, h, rs, rh, o⟩ => ⟨ρ, σA, h, rs, rh, ?_⟩
  have o' : OutS T.G W ρ H (kTry T.Pr mhs (evSs T.Pr cal mb σA h)) D := o
  cases e : evSs T.Pr cal mb σA h with
  | nx σ2 h2 => rw [e] at o'; exact o'
  | rt v k => rw [e] at o'; exact o'
  | bk s k => rw [e] at o'; exact o'
  | ct s k => rw [e] at o'; exact o'
  | bad => rw [e] at o'; exact o'
  | exc c fs s k =>
    rw [e] at o'
    exact fun ρ' H' σ' cls d e' rh' rs' rx => catch_r rd.top rd.k rs' rh' rx (OutS.later e' o')
end
end Mini
set_option autoImplicit false
set_option maxHeartbeats 4000000
/-! Mini, sixteenth part: whether a text is what the small syntax says; then it runs so. -/
namespace Mini
open PySem PySem.Spec L2
open PyProof.Rows hiding St
/-- what a check is told of the program -/
structure Ck where
  Pr : Prog
  nm : Nat → Str
  flds : List Str
  top : Nat → Bool
  gcd : Bool
def noStar : Expr → Bool
  | .Starred .. => false
  | _ => true
def noSet : Expr → Bool
  | .Set .. => false
  | _ => true
def noSlice : Expr → Bool
  | .Slice .. => false
  | _ => true
def noComp : Expr → Bool
  | .ListComp .. => false | .SetComp .. => false | .DictComp .. => false
  | _ => true
/-- not a call of a name with nothing in it -/
def noCall0 : Expr → Bool
  | .Call (.Name _ _) [] [] _ => false
  | _ => true
def plainTest : Expr → Bool
  | .UnaryOp .Not _ _ => false
  | .BoolOp .. => false | .IfExp .. => false | .Compare .. => false
  | _ => true
def visB (sc : Scope) (x : Str) : Bool := match sc.names.lookup x with
  | some .local => true | some .cell => true | some .free => true
  | _ => false
def glB (sc : Scope) (x : Str) : Bool := decide (sc.names.lookup x = some .globalImplicit)
def okName (x : Str) : Bool := !(x == ("__debug__" : Str)) && !(x == ("__classdict__" : Str)) && !decide (x = ("__name__" : Str))
/-- a name that is stored: d in a def, else in a block -/
def nameB (d : Bool) (sc : Scope) (N : List Str) (i : Nat) (x : Str) : Bool := decide (N[i]? = some x) && (decide (sc.names.lookup x = some .local) || (d && decide (sc.names.lookup x = some .cell)))
def namesB (d : Bool) (sc : Scope) (N : List Str) : List Nat → List Expr → Bool
  | [], [] => true
  | i :: is, .Name x _ :: es => nameB d sc N i x && namesB d sc N is es
  | _, _ => false
def tgB (d : Bool) (sc : Scope) (N : List Str) (t : MT) (e : Expr) : Bool := match t, e with
  | .name i, .Name x _ => nameB d sc N i x
  | .tup is, .Tuple es _ _ => namesB d sc N is es
  | _, _ => false
def tyNames : List String := ["int", "str", "bool", "list", "tuple", "dict", "ValueError"]
def isBase (P : Prog) (g : Nat) : Bool := match P g with
  | some (.exc e) => e.base.isNone && e.init.isNone
  | _ => false
def isInitE (P : Prog) (g : Nat) : Bool := match P g with
  | some (.exc e) => (match e.init with
    | some i => (match P i with
      | some (.def_ _) => true
      | _ => false)
    | none => false)
  | _ => false
def isVal (P : Prog) (g : Nat) : Bool := match P g with
  | some (.val _) => true
  | _ => false
def ownP (N : List Str) (own : List Nat) : List (Str × Nat) := own.map fun i => (N[i]?.getD "", i)
section
variable (C : Ck) (N : List Str)
def gloB (sc : Scope) (g : Nat) (x : Str) : Bool := decide (C.nm g = x) && glB sc x && okName x && (C.top g || isVal C.Pr g)
def defB (sc : Scope) (g : Nat) (x : Str) : Bool := decide (C.nm g = x) && glB sc x && okName x && C.top g
def biB (sc : Scope) (b : Bi) (x : Str) : Bool := decide (biName b = x) && glB sc x && okName x && (match b with
  | .bitlen => false
  | .gcd => C.gcd
  | _ => bnames.contains x)
mutual
def chkE (d : Bool) (sc : Scope) (m : ME) (e : Expr) : Bool := match m with
  | .var i => match e with
    | .Name x _ => decide (N[i]? = some x) && visB sc x && okName x
    | _ => false
  | .int i => match e with
    | .Constant (.int j) _ _ => decide (j = i)
    | _ => false
  | .str i => match e with
    | .Constant (.str j) _ _ => decide (j = i)
    | _ => false
  | .bl i => match e with
    | .Constant (.bool j) _ _ => decide (j = i)
    | _ => false
  | .non => match e with
    | .Constant .none _ _ => true
    | _ => false
  | .glo g => match e with
    | .Name x _ => gloB C sc g x
    | _ => false
  | .ty n => match e with
    | .Name x _ => decide (n ∈ tyNames) && decide (x = (PySem.Str.ofString n)) && glB sc x && okName x
    | _ => false
  | .bop o a b => match e with
    | .BinOp l op r _ => decide (op = opOf o) && chkE d sc a l && chkE d sc b r
    | _ => false
  | .neg a => match e with
    | .UnaryOp .USub l _ => chkE d sc a l
    | _ => false
  | .cmp o a b => match e with
    | .Compare l [op] [r] _ => decide (op = copOf o) && noSet r && chkE d sc a l && chkE d sc b r
    | _ => false
  | .cmp2 o o' a b c => match e with
    | .Compare l [op, op'] [r, r'] _ => decide (op = copOf o) && decide (op' = copOf o') && noSet r' && chkE d sc a l && chkE d sc b r && chkE d sc c r'
    | _ => false
  | .and_ a b => match e with
    | .BoolOp .And [l, r] _ => chkE d sc a l && chkE d sc b r
    | .BoolOp .And (l :: r :: q :: rest) p => chkE d sc a l && chkE d sc b (.BoolOp .And (r :: q :: rest) p)
    | _ => false
  | .or_ a b => match e with
    | .BoolOp .Or [l, r] _ => chkE d sc a l && chkE d sc b r
    | .BoolOp .Or (l :: r :: q :: rest) p => chkE d sc a l && chkE d sc b (.BoolOp .Or (r :: q :: rest) p)
    | _ => false
  | .not_ a => match e with
    | .UnaryOp .Not l _ => chkE d sc a l
    | _ => false
  | .ite c a b => match e with
    | .IfExp t l r _ => chkC d sc c t && chkE d sc a l && chkE d sc b r
    | _ => false
  | .tup ms => match e with
    | .Tuple es _ _ => chkEs d sc ms es
    | _ => false
  | .lst ms => match e with
    | .List es _ => chkEs d sc ms es
    | _ => false
  | .dct ks ms => match e with
    | .Dict keys vals _ => decide (keys.length ≤ 15) && chkD d sc ks ms keys vals
    | _ => false
  | .idx a b => match e with
    | .Subscript l r _ => noSlice r && chkE d sc a l && chkE d sc b r
    | _ => false
  | .fld a f => match e with
    | .Attribute l g _ => decide (g = f) && decide (f ∈ C.flds) && noCall0 l && chkE d sc a l
    | _ => false
  | .einit g ms => match e with
    | .Call (.Attribute (.Name x _) f ap) [l, r] [] cp => decide (f = ("__init__" : Str)) && (ap.endLine == cp.line) && isBase C.Pr g && defB C sc g x && chkEs d sc ms [l, r]
    | _ => false
  | .call g ms => match e with
    | .Call (.Name x _) es [] _ => defB C sc g x && chkEs d sc ms es
    | _ => false
  | .callk g ms ks mk => match e with
    | .Call (.Name x _) es kws _ => defB C sc g x && chkEs d sc ms es && chkK d sc ks mk kws
    | _ => false
  | .bi b ms => match e with
    | .Call (.Name x _) (l :: es) [] _ => biB C sc b x && chkEs d sc ms (l :: es)
    | _ => false
  | .met .append a ms => match e with
    | .Call (.Attribute o g ap) [l] [] cp => decide (g = ("append" : Str)) && noCall0 o && (ap.endLine == cp.line) && chkE d sc a o && chkEs d sc ms [l]
    | _ => false
  | .met _ _ _ => false
  | .comp t src elt own => match e with
    | .ListComp l [⟨tg, it, [], 0⟩] scope _ => (t.slots.all fun i => own.contains i) && blkC N sc scope (ownP N own) && noSet it && chkI d sc src it && tgB false (relS scope sc) N t tg && chkE false (relS scope sc) elt l
    | _ => false
/-- a test -/
def chkC (d : Bool) (sc : Scope) (m : ME) (e : Expr) : Bool := match m with
  | .not_ a => match e with
    | .UnaryOp .Not l _ => chkC d sc a l
    | _ => false
  | .and_ a b => match e with
    | .BoolOp .And [l, r] _ => chkC d sc a l && chkC d sc b r
    | .BoolOp .And (l :: r :: q :: rest) p => chkC d sc a l && chkC d sc b (.BoolOp .And (r :: q :: rest) p)
    | _ => false
  | .or_ a b => match e with
    | .BoolOp .Or [l, r] _ => chkC d sc a l && chkC d sc b r
    | .BoolOp .Or (l :: r :: q :: rest) p => chkC d sc a l && chkC d sc b (.BoolOp .Or (r :: q :: rest) p)
    | _ => false
  | .cmp o a b => match e with
    | .Compare l [op] [r] _ => decide (op = copOf o) && noSet r && chkE d sc a l && chkE d sc b r
    | _ => false
  | .cmp2 o o' a b c => match e with
    | .Compare l [op, op'] [r, r'] _ => decide (op = copOf o) && decide (op' = copOf o') && noSet r' && chkE d sc a l && chkE d sc b r && chkE d sc c r'
    | _ => false
  | .var i => match e with
    | .Name x _ => decide (N[i]? = some x) && visB sc x && okName x
    | _ => false
  | .bl i => match e with
    | .Constant (.bool j) _ _ => decide (j = i)
    | _ => false
  | .idx a b => match e with
    | .Subscript l r _ => noSlice r && chkE d sc a l && chkE d sc b r
    | _ => false
  | .fld a f => match e with
    | .Attribute l g _ => decide (g = f) && decide (f ∈ C.flds) && noCall0 l && chkE d sc a l
    | _ => false
  | .call g ms => match e with
    | .Call (.Name x _) es [] _ => defB C sc g x && chkEs d sc ms es
    | _ => false
  | .callk g ms ks mk => match e with
    | .Call (.Name x _) es kws _ => defB C sc g x && chkEs d sc ms es && chkK d sc ks mk kws
    | _ => false
  | .bi b ms => match e with
    | .Call (.Name x _) (l :: es) [] _ => biB C sc b x && chkEs d sc ms (l :: es)
    | _ => false
  | _ => false
def chkEs (d : Bool) (sc : Scope) (ms : MEs) (es : List Expr) : Bool := match ms with
  | .nil => match es with
    | [] => true
    | _ => false
  | .cons m ms => match es with
    | e :: es => noStar e && chkE d sc m e && chkEs d sc ms es
    | _ => false
def chkD (d : Bool) (sc : Scope) (ks : List Str) (ms : MEs) (keys : List (Option Expr)) (vals : List Expr) : Bool := match ms with
  | .nil => match ks, keys, vals with
    | [], [], [] => true
    | _, _, _ => false
  | .cons m ms => match ks, keys, vals with
    | k :: ks, some (.Constant (.str j) _ _) :: keys, e :: es => decide (j = k) && chkE d sc m e && chkD d sc ks ms keys es
    | _, _, _ => false
def chkK (d : Bool) (sc : Scope) (ks : List Str) (ms : MEs) (kws : List Keyword) : Bool := match ms with
  | .nil => match ks, kws with
    | [], [] => true
    | _, _ => false
  | .cons m ms => match ks, kws with
    | k :: ks, ⟨some j, e, _⟩ :: kws => decide (j = k) && chkE d sc m e && chkK d sc ks ms kws
    | _, _ => false
def chkI (d : Bool) (sc : Scope) (m : MI) (e : Expr) : Bool := match m with
  | .seq a => noSet e && chkE d sc a e
  | .range a => match e with
    | .Call (.Name x _) [l] [] _ => decide (x = ("range" : Str)) && glB sc x && noStar l && chkE d sc a l
    | _ => false
end
end
/-! ### the sides -/
theorem star_e {e : Expr} {es : List Expr} {env : Env} (h : noStar e = true) : starEach (e :: es) env = (false, eval e env) :: starEach es env := by
  cases e <;> first | rfl | (cases h)
theorem ix_e {b : Expr} (h : noSlice b = true) : PlainIx b := by
  intro o i
  cases b <;> first | rfl | (cases h)
theorem base_e {a : Expr} {f : Str} {env : Env} (h : noCall0 a = true) : attributeBase a f env (eval a env) = eval a env := by
  unfold attributeBase
  split
  · cases h
  · rfl
theorem mark_e {op : CmpOp} {b : Expr} (h : noSet b = true) : behindInMarks op b = false := by
  cases b <;> first | rfl | (cases h)
theorem marks_e {o o' : CmpOp} {b c : Expr} (h : noSet c = true) : lastMarks [o, o'] [b, c] = false := mark_e h
theorem set_e {e : Expr} {env : Env} (h : noSet e = true) (x : Value) : foldedSetIterable e env x = pure x := by
  cases e <;> first | rfl | (cases h)
theorem test_e {e : Expr} {env : Env} (h : plainTest e = true) (whole : Sem Value) : isTrue e env whole = (do let v ← whole; standAt e.pos; holding [v] (truthy v)) := by
  cases e with
  | UnaryOp op x p => cases op <;> first | rfl | (cases h)
  | _ => first | rfl | (cases h)
theorem sw_e {e : Expr} {t : Option Expr} {l : Nat} {env : Env} (h : noComp e = true) : swapsWith e t l env = pure false := by
  cases e <;> first | rfl | (cases h)
theorem sw_sub {e a b : Expr} {p : Pos} {l : Nat} {env : Env} : swapsWith e (some (.Subscript a b p)) l env = pure false := by cases e <;> rfl
theorem sw_att {e a : Expr} {f : Str} {p : Pos} {l : Nat} {env : Env} : swapsWith e (some (.Attribute a f p)) l env = pure false := by cases e <;> rfl
theorem sw_tup {e : Expr} {es : List Expr} {k : Nat} {p : Pos} {l : Nat} {env : Env} : swapsWithSole [.Tuple es k p] e l env = pure false := by
  show swapsWith e (some (.Tuple es k p)) l env = pure false
  cases e <;> rfl
theorem vis_e {sc : Scope} {x : Str} (h : visB sc x = true) : Vis sc x := by
  unfold visB at h
  split at h
  · exact .inl (by assumption)
  · exact .inr (.inl (by assumption))
  · exact .inr (.inr (by assumption))
  · cases h
theorem okName_e {x : Str} (h : okName x = true) : (x == ("__debug__" : Str)) = false ∧ (x == ("__classdict__" : Str)) = false ∧ x ≠ "__name__" := by
  unfold okName at h
  simp only [Bool.and_eq_true, Bool.not_eq_true', decide_eq_false_iff_not] at h
  exact ⟨h.1.1, h.1.2, h.2⟩
theorem boot_ty {n : String} (h : n ∈ tyNames) : bootBuiltins (PySem.Str.ofString n) = some (.type n) ∧ PySem.Str.ofString n ∈ bnames := by
  simp only [tyNames, List.mem_cons, List.not_mem_nil, or_false] at h
  rcases h with rfl | rfl | rfl | rfl | rfl | rfl | rfl <;> exact ⟨by decide +kernel, by decide +kernel⟩
theorem isBase_some {P : Prog} {g : Nat} (h : isBase P g = true) : ∃ e, P g = some (.exc e) ∧ e.base = none ∧ e.init = none := by
  unfold isBase at h
  split at h
  · rename_i e he
    simp only [Bool.and_eq_true, Option.isNone_iff_eq_none] at h
    exact ⟨e, he, h.1, h.2⟩
  · cases h
theorem isInitE_some {P : Prog} {g : Nat} (h : isInitE P g = true) : ∃ e i d, P g = some (.exc e) ∧ e.init = some i ∧ P i = some (.def_ d) := by
  unfold isInitE at h
  split at h
  · rename_i e he
    split at h
    · rename_i i hi
      split at h
      · rename_i d hd
        exact ⟨e, i, d, he, hi, hd⟩
      · cases h
    · cases h
  · cases h
/-- what the place gives -/
structure Gd (C : Ck) (T : Top) (X : Cx) (d : Bool) : Prop where
  pr : T.Pr = C.Pr
  nm : T.nm = C.nm
  flds : T.flds = C.flds
  top : ∀ g, C.top g = true → X.mg (C.nm g) = some (.ref (T.G.ad g)) ∧ PySem.W.keepIn T.G.K (.ref (T.G.ad g)) = true
  gcd : C.gcd = true → X.mg "gcd" = some (.builtin "math.gcd")
  fn : d = true → ∀ x, X.fn x = true
section
variable {C : Ck} {T : Top} {cal : Nat → List AV → AH → R AV} {lvl : Nat} {X : Cx} {W : WX} {d : Bool}
theorem Gd.blk (gd : Gd C T X d) (s : Shared) (H : Hp) (scope : Scope) (cenv : Env) (fp : List Addr) : Gd C T (X.blk s H scope cenv fp) false := ⟨gd.pr, gd.nm, gd.flds, gd.top, gd.gcd, fun h => by cases h⟩
theorem name_ok (gd : Gd C T X d) {i : Nat} {x : Str} (h : nameB d X.env.scope X.N i x = true) : NameOk X i x := by
  unfold nameB at h
  simp only [Bool.and_eq_true, Bool.or_eq_true, decide_eq_true_eq] at h
  obtain ⟨h1, h2 | ⟨h2, h3⟩⟩ := h
  · exact ⟨h1, .inl h2, .inr h2⟩
  · exact ⟨h1, .inr h3, .inl (gd.fn h2 x)⟩
theorem names_ok (gd : Gd C T X d) : ∀ {is : List Nat} {es : List Expr}, namesB d X.env.scope X.N is es = true → NamesOk X is es
  | [], [], _ => .nil
  | [], _ :: _, h => by cases h
  | _ :: _, [], h => by cases h
  | i :: is, e :: es, h => by
    cases e with
    | Name x p =>
      unfold namesB at h
      simp only [Bool.and_eq_true] at h
      exact .cons (name_ok gd h.1) (names_ok gd h.2)
    | _ => cases h
theorem tg_ok (rd : Rdy T cal lvl X W) (gd : Gd C T X d) {t : MT} {e : Expr} (h : tgB d X.env.scope X.N t e = true) : PG X e (rdG T.G.K t) := by
  rw [← rd.k]
  unfold tgB at h
  split at h
  · exact pg_nameA rd.nd (name_ok gd h)
  · exact pg_tupA rd.nd rd.calm (names_ok gd h)
  · cases h
theorem named_ok (gd : Gd C T X d) {g : Nat} {x : Str} (h : defB C X.env.scope g x = true) : Named T X g x := by
  unfold defB glB at h
  simp only [Bool.and_eq_true, decide_eq_true_eq] at h
  obtain ⟨⟨⟨h1, h2⟩, h3⟩, h4⟩ := h
  obtain ⟨t1, t2⟩ := gd.top g h4
  rw [h1] at t1
  exact ⟨h2, t1, (okName_e h3).1, t2⟩
theorem back_ok {pos : Pos} {env : Env} : ∀ {es : List Expr}, es.all noStar = true → (backTo pos (starEach es env)).any (·.1) = false
  | [], _ => rfl
  | e :: es, h => by
    simp only [List.all_cons, Bool.and_eq_true] at h
    rw [star_e h.1]
    show (false || (backTo pos (starEach es env)).any (·.1)) = false
    rw [back_ok h.2]; rfl
theorem stars_ok {N : List Str} {sc : Scope} : ∀ {ms : MEs} {es : List Expr}, chkEs C N d sc ms es = true → es.all noStar = true
  | .nil, [], _ => rfl
  | .nil, _ :: _, h => by unfold chkEs at h; cases h
  | .cons m ms, [], h => by unfold chkEs at h; cases h
  | .cons m ms, e :: es, h => by
    unfold chkEs at h
    simp only [Bool.and_eq_true] at h
    simp only [List.all_cons, Bool.and_eq_true]
    exact ⟨h.1.1, stars_ok h.2⟩
theorem kw_ok {N : List Str} {sc : Scope} {pos : Pos} {env : Env} : ∀ {ms : MEs} {ks : List Str} {kws : List Keyword}, chkK C N d sc ks ms kws = true →
    (backToKw pos (keywordEach kws env)).all (·.1.isSome) = true ∧ (backToKw pos (keywordEach kws env)).filterMap (·.1) = ks ∧ (backToKw pos (keywordEach kws env)).any (·.1.isNone) = false
  | .nil, [], [], _ => ⟨rfl, rfl, rfl⟩
  | .nil, [], _ :: _, h => by unfold chkK at h; cases h
  | .nil, _ :: _, _, h => by unfold chkK at h; cases h
  | .cons m ms, [], _, h => by unfold chkK at h; cases h
  | .cons m ms, _ :: _, [], h => by unfold chkK at h; cases h
  | .cons m ms, k :: ks, ⟨nm, e, p⟩ :: kws, h => by
    unfold chkK at h
    cases nm with
    | none => cases h
    | some j =>
      simp only [Bool.and_eq_true, decide_eq_true_eq] at h
      obtain ⟨⟨h1, _⟩, h3⟩ := h
      subst h1
      obtain ⟨q1, q2, q3⟩ := kw_ok (pos := pos) (env := env) h3
      refine ⟨?_, ?_, ?_⟩
      · show (true && (backToKw pos (keywordEach kws env)).all (·.1.isSome)) = true
        rw [q1]; rfl
      · show j :: (backToKw pos (keywordEach kws env)).filterMap (·.1) = _
        rw [q2]
      · show (false || (backToKw pos (keywordEach kws env)).any (·.1.isNone)) = false
        rw [q3]; rfl
theorem bi_ok (rd : Rdy T cal lvl X W) (gd : Gd C T X d) {b : Bi} {x : Str} {p pos : Pos} {l : Expr} {es : List Expr} {ms : MEs} (h : biB C X.env.scope b x = true) (ha : PA X (l :: es) (rdEs T cal W ms)) (hst : (l :: es).all noStar = true) : PE X (.Call (.Name x p) (l :: es) [] pos) (rdE T cal W (.bi b ms)) := by
  unfold biB glB at h
  simp only [Bool.and_eq_true, decide_eq_true_eq] at h
  obtain ⟨⟨⟨h1, h2⟩, h3⟩, h4⟩ := h
  have hs := hst
  simp only [List.all_cons, Bool.and_eq_true] at hst
  refine je_bi rd ?_ h1 h2 ?_ (okName_e h3).1 ha (star_e hst.1) (back_ok hst.2)
  · intro z; subst z; cases h4
  · cases b with
    | gcd => exact .inr ⟨rfl, by rw [← h1]; exact gd.gcd h4⟩
    | bitlen => cases h4
    | _ => exact .inl ⟨(fun z => by cases z), by simpa using h4⟩
theorem glo_ok (rd : Rdy T cal lvl X W) (gd : Gd C T X d) {g : Nat} {x : Str} {p : Pos} (h : gloB C X.env.scope g x = true) : PE X (.Name x p) (rdE T cal W (.glo g)) := by
  unfold gloB glB at h
  simp only [Bool.and_eq_true, Bool.or_eq_true, decide_eq_true_eq] at h
  obtain ⟨⟨⟨h1, h2⟩, h3⟩, h4⟩ := h
  refine je_glo rd (by rw [gd.nm]; exact h1) h2 (okName_e h3).1 ?_
  rcases h4 with h4 | h4
  · have := (gd.top g h4).1
    rw [h1] at this
    exact .inr this
  · unfold isVal at h4
    rw [gd.pr]
    split at h4
    · rename_i v e
      exact .inl ⟨v, e⟩
    · cases h4
end
end Mini
set_option autoImplicit false
set_option maxHeartbeats 4000000
/-! Mini, seventeenth part: a checked expression runs as the small syntax says. -/
namespace Mini
open PySem PySem.Spec L2
open PyProof.Rows hiding St
section
variable {C : Ck} {T : Top} {cal : Nat → List AV → AH → R AV} {lvl : Nat}
theorem ownP_map (N : List Str) : ∀ own : List Nat, (ownP N own).map (·.2) = own
  | [] => rfl
  | i :: own => by
    show i :: (ownP N own).map (·.2) = _
    rw [ownP_map N own]
mutual
theorem chkE_ok : ∀ (m : ME) {X : Cx} {W : WX} {d : Bool} {e : Expr}, Rdy T cal lvl X W → Gd C T X d → chkE C X.N d X.env.scope m e = true → PE X e (rdE T cal W m)
  | .var i, X, W, d, e, rd, gd, h => by
    unfold chkE at h
    split at h
    · simp only [Bool.and_eq_true, decide_eq_true_eq] at h
      exact je_var rd h.1.1 (vis_e h.1.2) (okName_e h.2).1 (okName_e h.2).2.1
    · cases h
  | .int i, X, W, d, e, rd, gd, h => by
    unfold chkE at h
    split at h
    · simp only [Bool.and_eq_true, decide_eq_true_eq] at h
      subst h
      exact je_int
    · cases h
  | .str i, X, W, d, e, rd, gd, h => by
    unfold chkE at h
    split at h
    · simp only [Bool.and_eq_true, decide_eq_true_eq] at h
      subst h
      exact je_str
    · cases h
  | .bl i, X, W, d, e, rd, gd, h => by
    unfold chkE at h
    split at h
    · simp only [Bool.and_eq_true, decide_eq_true_eq] at h
      subst h
      exact je_bl
    · cases h
  | .non, X, W, d, e, rd, gd, h => by
    unfold chkE at h
    split at h
    · exact je_non
    · cases h
  | .glo g, X, W, d, e, rd, gd, h => by
    unfold chkE at h
    split at h
    · exact glo_ok rd gd h
    · cases h
  | .ty n, X, W, d, e, rd, gd, h => by
    unfold chkE glB at h
    split at h
    · simp only [Bool.and_eq_true, decide_eq_true_eq] at h
      obtain ⟨⟨⟨h1, h2⟩, h3⟩, h4⟩ := h
      obtain ⟨b1, b2⟩ := boot_ty h1
      rw [← h2] at b1 b2
      exact je_ty rd h3 b2 b1 (okName_e h4).2.2 (okName_e h4).1
    · cases h
  | .bop o a b, X, W, d, e, rd, gd, h => by
    unfold chkE at h
    split at h
    · simp only [Bool.and_eq_true, decide_eq_true_eq] at h
      obtain ⟨⟨h1, h2⟩, h3⟩ := h
      subst h1
      exact je_bop rd (chkE_ok a rd gd h2) (chkE_ok b rd gd h3)
    · cases h
  | .neg a, X, W, d, e, rd, gd, h => by
    unfold chkE at h
    split at h
    · exact je_neg (chkE_ok a rd gd h)
    · cases h
  | .cmp o a b, X, W, d, e, rd, gd, h => by
    unfold chkE at h
    split at h
    · simp only [Bool.and_eq_true, decide_eq_true_eq] at h
      obtain ⟨⟨⟨h1, h0⟩, h2⟩, h3⟩ := h
      subst h1
      exact je_cmp rd (chkE_ok a rd gd h2) (chkE_ok b rd gd h3) (mark_e h0)
    · cases h
  | .cmp2 o o' a b c, X, W, d, e, rd, gd, h => by
    unfold chkE at h
    split at h
    · simp only [Bool.and_eq_true, decide_eq_true_eq] at h
      obtain ⟨⟨⟨⟨⟨h1, h1'⟩, h0⟩, h2⟩, h3⟩, h4⟩ := h
      subst h1 h1'
      exact je_cmp2 rd (chkE_ok a rd gd h2) (chkE_ok b rd gd h3) (chkE_ok c rd gd h4) (marks_e h0)
    · cases h
  | .and_ a b, X, W, d, e, rd, gd, h => by
    unfold chkE at h
    split at h
    · simp only [Bool.and_eq_true, decide_eq_true_eq] at h
      exact je_and (chkE_ok a rd gd h.1) (je_one (chkE_ok b rd gd h.2))
    · simp only [Bool.and_eq_true, decide_eq_true_eq] at h
      exact je_and (chkE_ok a rd gd h.1) (chkE_ok b rd gd h.2)
    · cases h
  | .or_ a b, X, W, d, e, rd, gd, h => by
    unfold chkE at h
    split at h
    · simp only [Bool.and_eq_true, decide_eq_true_eq] at h
      exact je_or (chkE_ok a rd gd h.1) (je_one (chkE_ok b rd gd h.2))
    · simp only [Bool.and_eq_true, decide_eq_true_eq] at h
      exact je_or (chkE_ok a rd gd h.1) (chkE_ok b rd gd h.2)
    · cases h
  | .not_ a, X, W, d, e, rd, gd, h => by
    unfold chkE at h
    split at h
    · exact je_not (chkE_ok a rd gd h)
    · cases h
  | .ite c a b, X, W, d, e, rd, gd, h => by
    unfold chkE at h
    split at h
    · simp only [Bool.and_eq_true, decide_eq_true_eq] at h
      exact je_ite (chkC_ok c rd gd h.1.1).1 (chkE_ok a rd gd h.1.2) (chkE_ok b rd gd h.2)
    · cases h
  | .tup ms, X, W, d, e, rd, gd, h => by
    unfold chkE at h
    split at h
    · exact je_tup (chkEs_ok ms rd gd h)
    · cases h
  | .lst ms, X, W, d, e, rd, gd, h => by
    unfold chkE at h
    split at h
    · exact je_lst (chkEs_ok ms rd gd h)
    · cases h
  | .dct ks ms, X, W, d, e, rd, gd, h => by
    unfold chkE at h
    split at h
    · rename_i keys vals p
      simp only [Bool.and_eq_true, decide_eq_true_eq] at h
      obtain ⟨trs, D⟩ := chkD_ok ms rd gd h.2
      by_cases h0 : keys = []
      · subst h0
        cases D
        exact je_dct0 rd
      · exact je_dct rd D h0 h.1
    · cases h
  | .idx a b, X, W, d, e, rd, gd, h => by
    unfold chkE at h
    split at h
    · simp only [Bool.and_eq_true, decide_eq_true_eq] at h
      exact je_idx rd (chkE_ok a rd gd h.1.2) (chkE_ok b rd gd h.2) (ix_e h.1.1)
    · cases h
  | .fld a f, X, W, d, e, rd, gd, h => by
    unfold chkE at h
    split at h
    · simp only [Bool.and_eq_true, decide_eq_true_eq] at h
      obtain ⟨⟨⟨h1, h2⟩, h3⟩, h4⟩ := h
      subst h1
      exact je_fld rd (by rw [gd.flds]; exact h2) (chkE_ok a rd gd h4) (base_e h3)
    · cases h
  | .einit g ms, X, W, d, e, rd, gd, h => by
    unfold chkE at h
    split at h
    · rename_i x p1 f p2 l r pos
      simp only [Bool.and_eq_true, decide_eq_true_eq] at h
      obtain ⟨⟨⟨⟨h1, h0⟩, h2⟩, h3⟩, h4⟩ := h
      subst h1
      obtain ⟨ee, he, hb, hi⟩ := isBase_some h2
      have hs := stars_ok h4
      simp only [List.all_cons, Bool.and_eq_true] at hs
      exact je_einit rd (named_ok gd h3) (by rw [gd.pr]; exact he) hb hi (chkEs_ok ms rd gd h4) (base_e rfl) (by rw [star_e hs.1, star_e hs.2.1]; rfl) h0 (star_e hs.1) (back_ok (by simp [hs.2.1]))
    · cases h
  | .call g ms, X, W, d, e, rd, gd, h => by
    unfold chkE at h
    split at h
    · rename_i x p es pos
      simp only [Bool.and_eq_true, decide_eq_true_eq] at h
      have hs := stars_ok h.2
      cases es with
      | nil =>
        cases ms with
        | nil => exact je_call0 rd (named_ok gd h.1)
        | cons _ _ => have := h.2; unfold chkEs at this; cases this
      | cons l es =>
        have hs' := hs
        simp only [List.all_cons, Bool.and_eq_true] at hs
        exact je_call rd (named_ok gd h.1) (chkEs_ok ms rd gd h.2) (star_e hs.1) (back_ok hs.2)
    · cases h
  | .callk g ms ks mk, X, W, d, e, rd, gd, h => by
    unfold chkE at h
    split at h
    · rename_i x p es kws pos
      simp only [Bool.and_eq_true, decide_eq_true_eq] at h
      obtain ⟨⟨h1, h2⟩, h3⟩ := h
      have hs := stars_ok h2
      obtain ⟨k1, k2, k3⟩ := kw_ok (pos := pos) (env := X.env) h3
      cases es with
      | nil =>
        cases ms with
        | nil => exact je_callk0 rd (named_ok gd h1) (chkK_ok mk rd gd h3) k1 k2 (by rw [k3]; rfl)
        | cons _ _ => unfold chkEs at h2; cases h2
      | cons l es =>
        have hs' := hs
        simp only [List.all_cons, Bool.and_eq_true] at hs
        exact je_callk rd (named_ok gd h1) (chkEs_ok ms rd gd h2) (chkK_ok mk rd gd h3) (star_e hs.1) k1 k2 (by rw [k3, back_ok hs']; rfl)
    · cases h
  | .bi b ms, X, W, d, e, rd, gd, h => by
    unfold chkE at h
    split at h
    · simp only [Bool.and_eq_true, decide_eq_true_eq] at h
      exact bi_ok rd gd h.1 (chkEs_ok ms rd gd h.2) (stars_ok h.2)
    · cases h
  | .met .append a ms, X, W, d, e, rd, gd, h => by
    unfold chkE at h
    split at h
    · simp only [Bool.and_eq_true, decide_eq_true_eq] at h
      obtain ⟨⟨⟨⟨h1, h2⟩, h3⟩, h4⟩, h5⟩ := h
      subst h1
      have hs := stars_ok h5
      simp only [List.all_cons, Bool.and_eq_true] at hs
      exact je_append (chkE_ok a rd gd h4) (chkEs_ok ms rd gd h5) (base_e h2) (star_e hs.1) h3 rd.k
    · cases h
  | .met .bitlen a ms, X, W, d, e, rd, gd, h => by unfold chkE at h; cases h
  | .comp t src elt own, X, W, d, e, rd, gd, h => by
    unfold chkE at h
    split at h
    · simp only [Bool.and_eq_true, decide_eq_true_eq] at h
      obtain ⟨⟨⟨⟨⟨h1, h2⟩, h3⟩, h4⟩, h5⟩, h6⟩ := h
      rename_i l tg it scope pos
      have hm := ownP_map X.N own
      have ht : ∀ i ∈ t.slots, i ∈ (ownP X.N own).map (·.2) := fun i hi => by
        rw [hm]
        have := List.all_eq_true.mp h1 i hi
        simpa using this
      have q := je_comp (pos := pos) (t := t) (m := elt) (own := ownP X.N own) rd ht (chkI_ok src rd gd h4) (blkOk_by h2)
        (fun s H Cc cl fp => tg_ok (d := false) (rd.blk s H _ _ fp) (gd.blk s H _ _ fp) h5)
        (fun s H Cc cl fp => chkE_ok elt (d := false) (rd.blk s H _ _ fp) (gd.blk s H _ _ fp) h6) (set_e h3)
      rw [hm] at q
      exact q
    · cases h
theorem chkC_ok : ∀ (m : ME) {X : Cx} {W : WX} {d : Bool} {e : Expr}, Rdy T cal lvl X W → Gd C T X d → chkC C X.N d X.env.scope m e = true → PT X e (rdT T cal W m) ∧ (∀ op l p, e = .BoolOp op l p → PW X e (rdT T cal W m))
  | .not_ a, X, W, d, e, rd, gd, h => by
    unfold chkC at h
    split at h
    · exact ⟨jt_not (chkC_ok a rd gd h).1, fun _ _ _ z => by cases z⟩
    · cases h
  | .and_ a b, X, W, d, e, rd, gd, h => by
    unfold chkC at h
    split at h
    · simp only [Bool.and_eq_true, decide_eq_true_eq] at h
      have q := jw_and (chkC_ok a rd gd h.1).1 (jw_one (pos := by assumption) (op := .And) (chkC_ok b rd gd h.2).1)
      exact ⟨q.pt, fun _ _ _ _ => q⟩
    · simp only [Bool.and_eq_true, decide_eq_true_eq] at h
      have q := jw_and (chkC_ok a rd gd h.1).1 ((chkC_ok b rd gd h.2).2 _ _ _ rfl)
      exact ⟨q.pt, fun _ _ _ _ => q⟩
    · cases h
  | .or_ a b, X, W, d, e, rd, gd, h => by
    unfold chkC at h
    split at h
    · simp only [Bool.and_eq_true, decide_eq_true_eq] at h
      have q := jw_or (chkC_ok a rd gd h.1).1 (jw_one (pos := by assumption) (op := .Or) (chkC_ok b rd gd h.2).1)
      exact ⟨q.pt, fun _ _ _ _ => q⟩
    · simp only [Bool.and_eq_true, decide_eq_true_eq] at h
      have q := jw_or (chkC_ok a rd gd h.1).1 ((chkC_ok b rd gd h.2).2 _ _ _ rfl)
      exact ⟨q.pt, fun _ _ _ _ => q⟩
    · cases h
  | .cmp o a b, X, W, d, e, rd, gd, h => by
    unfold chkC at h
    split at h
    · simp only [Bool.and_eq_true, decide_eq_true_eq] at h
      obtain ⟨⟨⟨h1, h0⟩, h2⟩, h3⟩ := h
      subst h1
      exact ⟨jt_cmp rd (chkE_ok a rd gd h2) (chkE_ok b rd gd h3) (mark_e h0), fun _ _ _ z => by cases z⟩
    · cases h
  | .cmp2 o o' a b c, X, W, d, e, rd, gd, h => by
    unfold chkC at h
    split at h
    · simp only [Bool.and_eq_true, decide_eq_true_eq] at h
      obtain ⟨⟨⟨⟨⟨h1, h1'⟩, h0⟩, h2⟩, h3⟩, h4⟩ := h
      subst h1 h1'
      exact ⟨jt_cmp2 rd (chkE_ok a rd gd h2) (chkE_ok b rd gd h3) (chkE_ok c rd gd h4) (marks_e h0), fun _ _ _ z => by cases z⟩
    · cases h
  | .var i, X, W, d, e, rd, gd, h => by
    unfold chkC at h
    split at h
    · simp only [Bool.and_eq_true, decide_eq_true_eq] at h
      exact ⟨jt_val (je_var rd h.1.1 (vis_e h.1.2) (okName_e h.2).1 (okName_e h.2).2.1) (test_e rfl), fun _ _ _ z => by cases z⟩
    · cases h
  | .bl i, X, W, d, e, rd, gd, h => by
    unfold chkC at h
    split at h
    · simp only [Bool.and_eq_true, decide_eq_true_eq] at h
      subst h
      exact ⟨jt_val je_bl (test_e rfl), fun _ _ _ z => by cases z⟩
    · cases h
  | .idx a b, X, W, d, e, rd, gd, h => by
    unfold chkC at h
    split at h
    · simp only [Bool.and_eq_true, decide_eq_true_eq] at h
      exact ⟨jt_val (je_idx rd (chkE_ok a rd gd h.1.2) (chkE_ok b rd gd h.2) (ix_e h.1.1)) (test_e rfl), fun _ _ _ z => by cases z⟩
    · cases h
  | .fld a f, X, W, d, e, rd, gd, h => by
    unfold chkC at h
    split at h
    · simp only [Bool.and_eq_true, decide_eq_true_eq] at h
      obtain ⟨⟨⟨h1, h2⟩, h3⟩, h4⟩ := h
      subst h1
      exact ⟨jt_val (je_fld rd (by rw [gd.flds]; exact h2) (chkE_ok a rd gd h4) (base_e h3)) (test_e rfl), fun _ _ _ z => by cases z⟩
    · cases h
  | .call g ms, X, W, d, e, rd, gd, h => by
    unfold chkC at h
    split at h
    · rename_i x p es pos
      simp only [Bool.and_eq_true, decide_eq_true_eq] at h
      have hs := stars_ok h.2
      refine ⟨jt_val ?_ (test_e rfl), fun _ _ _ z => by cases z⟩
      cases es with
      | nil =>
        cases ms with
        | nil => exact je_call0 rd (named_ok gd h.1)
        | cons _ _ => have := h.2; unfold chkEs at this; cases this
      | cons l es =>
        simp only [List.all_cons, Bool.and_eq_true] at hs
        exact je_call rd (named_ok gd h.1) (chkEs_ok ms rd gd h.2) (star_e hs.1) (back_ok hs.2)
    · cases h
  | .callk g ms ks mk, X, W, d, e, rd, gd, h => by
    unfold chkC at h
    split at h
    · rename_i x p es kws pos
      simp only [Bool.and_eq_true, decide_eq_true_eq] at h
      obtain ⟨⟨h1, h2⟩, h3⟩ := h
      have hs := stars_ok h2
      obtain ⟨k1, k2, k3⟩ := kw_ok (pos := pos) (env := X.env) h3
      refine ⟨jt_val ?_ (test_e rfl), fun _ _ _ z => by cases z⟩
      cases es with
      | nil =>
        cases ms with
        | nil => exact je_callk0 rd (named_ok gd h1) (chkK_ok mk rd gd h3) k1 k2 (by rw [k3]; rfl)
        | cons _ _ => unfold chkEs at h2; cases h2
      | cons l es =>
        have hs' := hs
        simp only [List.all_cons, Bool.and_eq_true] at hs
        exact je_callk rd (named_ok gd h1) (chkEs_ok ms rd gd h2) (chkK_ok mk rd gd h3) (star_e hs.1) k1 k2 (by rw [k3, back_ok hs']; rfl)
    · cases h
  | .bi b ms, X, W, d, e, rd, gd, h => by
    unfold chkC at h
    split at h
    · simp only [Bool.and_eq_true, decide_eq_true_eq] at h
      exact ⟨jt_val (bi_ok rd gd h.1 (chkEs_ok ms rd gd h.2) (stars_ok h.2)) (test_e rfl), fun _ _ _ z => by cases z⟩
    · cases h
  | .int _, X, W, d, e, rd, gd, h => by unfold chkC at h; cases h
  | .str _, X, W, d, e, rd, gd, h => by unfold chkC at h; cases h
  | .non, X, W, d, e, rd, gd, h => by unfold chkC at h; cases h
  | .glo _, X, W, d, e, rd, gd, h => by unfold chkC at h; cases h
  | .ty _, X, W, d, e, rd, gd, h => by unfold chkC at h; cases h
  | .bop _ _ _, X, W, d, e, rd, gd, h => by unfold chkC at h; cases h
  | .neg _, X, W, d, e, rd, gd, h => by unfold chkC at h; cases h
  | .ite _ _ _, X, W, d, e, rd, gd, h => by unfold chkC at h; cases h
  | .tup _, X, W, d, e, rd, gd, h => by unfold chkC at h; cases h
  | .einit _ _, X, W, d, e, rd, gd, h => by unfold chkC at h; cases h
  | .lst _, X, W, d, e, rd, gd, h => by unfold chkC at h; cases h
  | .dct _ _, X, W, d, e, rd, gd, h => by unfold chkC at h; cases h
  | .met _ _ _, X, W, d, e, rd, gd, h => by unfold chkC at h; cases h
  | .comp _ _ _ _, X, W, d, e, rd, gd, h => by unfold chkC at h; cases h
theorem chkEs_ok : ∀ (ms : MEs) {X : Cx} {W : WX} {d : Bool} {es : List Expr}, Rdy T cal lvl X W → Gd C T X d → chkEs C X.N d X.env.scope ms es = true → PA X es (rdEs T cal W ms)
  | .nil, X, W, d, es, rd, gd, h => by
    unfold chkEs at h
    split at h
    · exact ja_nil
    · cases h
  | .cons m ms, X, W, d, es, rd, gd, h => by
    unfold chkEs at h
    split at h
    · simp only [Bool.and_eq_true, decide_eq_true_eq] at h
      exact ja_cons (chkE_ok m rd gd h.1.2) (chkEs_ok ms rd gd h.2) (star_e h.1.1)
    · cases h
theorem chkD_ok : ∀ (ms : MEs) {X : Cx} {W : WX} {d : Bool} {ks : List Str} {keys : List (Option Expr)} {es : List Expr}, Rdy T cal lvl X W → Gd C T X d → chkD C X.N d X.env.scope ks ms keys es = true → ∃ trs, DOk T cal W X keys es ks ms trs
  | .nil, X, W, d, ks, keys, es, rd, gd, h => by
    unfold chkD at h
    split at h
    · exact ⟨_, .nil⟩
    · cases h
  | .cons m ms, X, W, d, ks, keys, es, rd, gd, h => by
    unfold chkD at h
    split at h
    · simp only [Bool.and_eq_true, decide_eq_true_eq] at h
      obtain ⟨⟨h1, h2⟩, h3⟩ := h
      subst h1
      obtain ⟨trs, D⟩ := chkD_ok ms rd gd h3
      exact ⟨_, .cons (chkE_ok m rd gd h2) D⟩
    · cases h
theorem chkK_ok : ∀ (ms : MEs) {X : Cx} {W : WX} {d : Bool} {ks : List Str} {kws : List Keyword}, Rdy T cal lvl X W → Gd C T X d → chkK C X.N d X.env.scope ks ms kws = true → PK X kws (rdEs T cal W ms)
  | .nil, X, W, d, ks, kws, rd, gd, h => by
    unfold chkK at h
    split at h
    · exact jk_nil
    · cases h
  | .cons m ms, X, W, d, ks, kws, rd, gd, h => by
    unfold chkK at h
    split at h
    · simp only [Bool.and_eq_true, decide_eq_true_eq] at h
      exact jk_cons (chkE_ok m rd gd h.1.2) (chkK_ok ms rd gd h.2)
    · cases h
theorem chkI_ok : ∀ (m : MI) {X : Cx} {W : WX} {d : Bool} {e tg : Expr}, Rdy T cal lvl X W → Gd C T X d → chkI C X.N d X.env.scope m e = true → PI X tg e (rdI T cal W m)
  | .seq a, X, W, d, e, tg, rd, gd, h => by
    unfold chkI at h
    simp only [Bool.and_eq_true, decide_eq_true_eq] at h
    exact pi_seqA rd (chkE_ok a rd gd h.2)
  | .range a, X, W, d, e, tg, rd, gd, h => by
    unfold chkI glB at h
    split at h
    · simp only [Bool.and_eq_true, decide_eq_true_eq] at h
      obtain ⟨⟨⟨h1, h2⟩, h3⟩, h4⟩ := h
      subst h1
      exact pi_rangeA rd h2 (chkE_ok a rd gd h4) (star_e h3)
    · cases h
end
end
end Mini
set_option autoImplicit false
set_option maxHeartbeats 4000000
/-! Mini, eighteenth part: a checked body runs as the small syntax says. -/
namespace Mini
open PySem PySem.Spec L2
open PyProof.Rows hiding St
/-- what swappedStores says of (ts) = (vs) in a def -/
def swapQ (sc : Scope) (ts vs : List Expr) : Option (Option (List Str)) :=
  if !(ts.length == 2 || ts.length == 3) || vs.length != ts.length then some none
  else if vs.any (fun | .Starred .. => true | _ => false) then some none
  else
    let line := (ts.head?.map (·.pos.line)).getD 0
    let names := ts.filterMap fun
      | .Name id pos => if sc.names.lookup id == some .local && pos.line == line then some id else none
      | _ => none
    if names.length != ts.length || names.eraseDups.length != names.length then some none
    else if vs.all (foldedForSure 8) then some none
    else if vs.all (constantsAlone 8) then none
    else some (some names)
theorem swapQ_ok {env : Env} {ts vs : List Expr} {k k' : Nat} {p p' : Pos} {r : Option (List Str)} (hk : env.scope.kind = .function) (h : swapQ env.scope ts vs = some r) : swappedStores [.Tuple ts k p] (.Tuple vs k' p') env = pure r := by
  have hb : env.blockKind = .function := by unfold Env.blockKind; rw [hk]; rfl
  unfold swapQ at h
  unfold swappedStores
  simp only [hb]
  split at h
  · rename_i c
    cases h
    exact if_pos (by simpa using c)
  · rename_i c
    refine (if_neg (by simpa using c)).trans ?_
    split at h
    · rename_i c2
      cases h
      exact if_pos c2
    · rename_i c2
      refine (if_neg c2).trans ?_
      dsimp only at h
      split at h
      · rename_i c3
        cases h
        exact if_pos c3
      · rename_i c3
        split at h
        · rename_i c4
          cases h
          exact (if_neg c3).trans (if_pos c4)
        · rename_i c4
          split at h
          · cases h
          · rename_i c5
            cases h
            exact (if_neg c3).trans ((if_neg c4).trans (if_neg c5))
theorem swapN_ok {env : Env} {ts : List Expr} {e : Expr} {k : Nat} {p : Pos} (h : ∀ vs k' p', e ≠ .Tuple vs k' p') : swappedStores [.Tuple ts k p] e env = pure none := by
  cases e with
  | Tuple vs k' p' => exact absurd rfl (h vs k' p')
  | _ => rfl
/-- whether y = [..] stores within the comprehension -/
def swC (sc : Scope) (x : Str) (p : Pos) : Expr → Bool
  | .ListComp _ _ scope q => decide (sc.names.lookup x = some .local) && (p.line == q.line) && !(scope.names.any fun (n, k) => n == x && (k == .local || k == .cell))
  | _ => false
theorem swC_no {env : Env} {x : Str} {p q : Pos} {elt : Expr} {gs : List Comprehension} {scope : Scope} {l : Nat} (hk : env.scope.kind = .function) (h : swC env.scope x p (.ListComp elt gs scope q) = false) : swapsWith (.ListComp elt gs scope q) (some (.Name x p)) l env = pure false := by
  have hb : env.blockKind = .function := by unfold Env.blockKind; rw [hk]; rfl
  unfold swC at h
  unfold swapsWith
  simp only [hb]
  have e : (env.kindOf x == some NameKind.local) = decide (env.scope.names.lookup x = some .local) := by
    show (env.scope.names.lookup x == some NameKind.local) = _
    cases env.scope.names.lookup x with
    | none => rfl
    | some k => cases k <;> rfl
  rw [e]
  simp only [Expr.pos]
  refine congrArg pure ?_
  rw [← h]
  simp
section
variable (C : Ck) (N : List Str)
/-- the items of what an except clause gives back -/
def itB (n : Str) : List HXI → List Expr → Bool
  | [], [] => true
  | .str z :: xs, .Constant (.str y) _ _ :: es => decide (y = z) && itB n xs es
  | .fld f :: xs, .Attribute (.Name y _) g _ :: es => decide (y = n) && decide (g = f) && decide (f ∈ C.flds) && itB n xs es
  | _, _ => false
def clB (sc : Scope) (m : MH) (h : ExceptHandler) : Bool := match h with
  | .ExceptHandler (some (.Name x _)) nm [.Return (some e) _] _ => defB C sc m.g x && (match m.out with
    | .bl b => (match nm, m.slot, e with
      | none, none, .Constant (.bool j) _ _ => decide (j = b)
      | _, _, _ => false)
    | .tup xs => (match nm, m.slot, e with
      | some n, some i, .Tuple es _ _ => decide (N[i]? = some n) && decide (sc.names.lookup n = some .local) && okName n && isExc C.Pr m.g && itB C n xs es
      | _, _, _ => false))
  | _ => false
def clsB' (sc : Scope) : List MH → List ExceptHandler → Bool
  | [], [] => true
  | m :: ms, h :: hs => clB C N sc m h && clsB' sc ms hs
  | _, _ => false
mutual
def chkS (sc : Scope) (m : MS) (s : Stmt) : Bool := match m with
  | .set i m => match s with
    | .Assign [.Name x _] e _ => nameB true sc N i x && chkE C N true sc m e
    | _ => false
  | .par i j a b => match s with
    | .Assign [.Tuple [.Name x px, .Name y py] _ _] (.Tuple [l, r] _ _) _ => decide (N[i]? = some x) && decide (N[j]? = some y) && decide (i ≠ j) && decide (sc.names.lookup x = some .local) && decide (sc.names.lookup y = some .local) &&
      chkEs C N true sc (.cons a (.cons b .nil)) [l, r] && decide (swapQ sc [.Name x px, .Name y py] [l, r] = some (some [x, y]))
    | _ => false
  | .par3 i j k a b c => match s with
    | .Assign [.Tuple [.Name x px, .Name y py, .Name z pz] _ _] (.Tuple [l, r, q] _ _) _ => decide (N[i]? = some x) && decide (N[j]? = some y) && decide (N[k]? = some z) && decide (i ≠ j) && decide (i ≠ k) && decide (j ≠ k) &&
      decide (sc.names.lookup x = some .local) && decide (sc.names.lookup y = some .local) && decide (sc.names.lookup z = some .local) &&
      chkEs C N true sc (.cons a (.cons b (.cons c .nil))) [l, r, q] && decide (swapQ sc [.Name x px, .Name y py, .Name z pz] [l, r, q] = some (some [x, y, z]))
    | _ => false
  | .unp is m => match s with
    | .Assign [.Tuple es _ _] e _ => namesB true sc N is es && chkE C N true sc m e && (match e with
      | .Tuple vs _ _ => decide (swapQ sc es vs = some none)
      | _ => true)
    | _ => false
  | .setI a b c => match s with
    | .Assign [.Subscript o i _] e _ => chkE C N true sc a o && chkE C N true sc b i && chkE C N true sc c e
    | _ => false
  | .setF a f c => match s with
    | .Assign [.Attribute o g _] e _ => decide (g = f) && decide (f ∈ C.flds) && chkE C N true sc a o && chkE C N true sc c e
    | _ => false
  | .ex a => match s with
    | .Expr e _ => noComp e && chkE C N true sc a e
    | _ => false
  | .ret a => match s with
    | .Return (some e) _ => chkE C N true sc a e
    | _ => false
  | .retN => match s with
    | .Return none _ => true
    | _ => false
  | .if_ c a b => match s with
    | .If t x y _ => chkC C N true sc c t && chkSs sc a x && chkSs sc b y
    | _ => false
  | .for_ t src body => match s with
    | .For tg it x [] _ => tgB true sc N t tg && noSet it && chkI C N true sc src it && chkSs sc body x
    | _ => false
  | .raise g ms => match s with
    | .Raise (some (.Call (.Name x _) (l :: es) [] _)) none _ => isInitE C.Pr g && defB C sc g x && chkEs C N true sc ms (l :: es)
    | _ => false
  | .try_ b hs => match s with
    | .Try body (h :: hs') [] [] _ => chkSs sc b body && clsB' C N sc hs (h :: hs')
    | _ => false
  | .brk => match s with
    | .Break _ => true
    | _ => false
  | .cnt => match s with
    | .Continue _ => true
    | _ => false
  | .pass => match s with
    | .Pass _ => true
    | .Expr (.Constant (.str _) _ _) _ => true
    | _ => false
def chkSs (sc : Scope) (ms : MSs) (l : List Stmt) : Bool := match ms with
  | .nil => match l with
    | [] => true
    | _ => false
  | .cons m ms => match l with
    | s :: l => chkS sc m s && chkSs sc ms l
    | _ => false
end
end
section
variable {C : Ck} {T : Top} {cal : Nat → List AV → AH → R AV} {lvl : Nat} {X : Cx} {W : WX}
theorem set_ok (rd : Rdy T cal lvl X W) (gd : Gd C T X true) (hk : X.env.scope.kind = .function) {i : Nat} {m : ME} {x : Str} {p pos : Pos} {e : Expr} (h1 : nameB true X.env.scope X.N i x = true) (h2 : chkE C X.N true X.env.scope m e = true) : PS X (.Assign [.Name x p] e pos) (rdS T cal W (.set i m)) := by
  have n := name_ok gd h1
  by_cases hc : noComp e = true
  · exact js_set rd n (chkE_ok m rd gd h2) (sw_e hc)
  · cases hs : swC X.env.scope x p e with
    | false =>
      cases e with
      | ListComp elt gs scope q => exact js_set rd n (chkE_ok m rd gd h2) (swC_no hk hs)
      | SetComp _ _ _ _ => cases m <;> (try rename_i mm _ _; cases mm) <;> (unfold chkE at h2; cases h2)
      | DictComp _ _ _ _ _ => cases m <;> (try rename_i mm _ _; cases mm) <;> (unfold chkE at h2; cases h2)
      | _ => exact absurd rfl hc
    | true =>
      unfold swC at hs
      split at hs
      · rename_i elt gs scope q
        simp only [Bool.and_eq_true, decide_eq_true_eq, Bool.not_eq_true'] at hs
        cases m with
        | comp t src el own =>
          unfold chkE at h2
          split at h2
          · rename_i l tg it scope2 pos2 z
            cases z
            simp only [Bool.and_eq_true, decide_eq_true_eq] at h2
            obtain ⟨⟨⟨⟨⟨g1, g2⟩, g3⟩, g4⟩, g5⟩, g6⟩ := h2
            have hm := ownP_map X.N own
            have ht : ∀ i ∈ t.slots, i ∈ (ownP X.N own).map (·.2) := fun i hi => by
              rw [hm]
              have := List.all_eq_true.mp g1 i hi
              simpa using this
            have q := js_setC (spos := pos) (py := p) (t := t) (m := el) (own := ownP X.N own) rd n hs.1.1 (sw_true hk hs.1.1 hs.1.2 hs.2) ht (chkI_ok src rd gd g4) (blkOk_by g2)
              (fun s H Cc cl fp => tg_ok (d := false) (rd.blk s H _ _ fp) (gd.blk s H _ _ fp) g5)
              (fun s H Cc cl fp => chkE_ok el (d := false) (rd.blk s H _ _ fp) (gd.blk s H _ _ fp) g6) (set_e g3)
            rw [hm] at q
            exact q
          · cases h2
        | met mm _ _ => cases mm <;> (unfold chkE at h2; cases h2)
        | _ => unfold chkE at h2; cases h2
      · cases hs
theorem Gd.tr {d : Bool} (gd : Gd C T X d) (pn : List (Addr × Obj)) (xe : Value → Shared → Prop) : Gd C T (X.tr pn xe) d := ⟨gd.pr, gd.nm, gd.flds, gd.top, gd.gcd, gd.fn⟩
theorem it_ok {n : Str} (hf : T.flds = C.flds) : ∀ {xs : List HXI} {es : List Expr}, itB C n xs es = true → ItOk T n xs es
  | [], [], _ => .nil
  | [], _ :: _, h => by cases h
  | x :: xs, [], h => by cases x <;> cases h
  | x :: xs, e :: es, h => by
    unfold itB at h
    split at h
    · rename_i e1 e2; cases e1
    · rename_i e1 e2
      cases e1; cases e2
      simp only [Bool.and_eq_true, decide_eq_true_eq] at h
      obtain ⟨rfl, h⟩ := h
      exact .str (it_ok hf h)
    · rename_i e1 e2
      cases e1; cases e2
      simp only [Bool.and_eq_true, decide_eq_true_eq] at h
      obtain ⟨⟨⟨rfl, rfl⟩, h2⟩, h3⟩ := h
      exact .fld (by rw [hf]; exact h2) (it_ok hf h3)
    · cases h
theorem cl_ok {d : Bool} (gd : Gd C T X d) {m : MH} {h : ExceptHandler} (q : clB C X.N X.env.scope m h = true) : ClOk T X m h := by
  obtain ⟨g, slot, out⟩ := m
  unfold clB at q
  split at q
  · rename_i x p1 nm e p3 p4
    simp only [Bool.and_eq_true] at q
    obtain ⟨q1, q2⟩ := q
    have N := named_ok gd q1
    have nx : Names X x (.ref (T.G.ad g)) := ⟨N.gl, N.db, .inl N.mg⟩
    cases out with
    | bl b =>
      dsimp only at q2
      split at q2
      · rename_i j _ _ e2
        have e3 := of_decide_eq_true q2
        subst e3
        cases e2
        exact .bl nx
      · cases q2
    | tup xs =>
      dsimp only at q2
      split at q2
      · rename_i n i es _ _ e2
        cases e2
        simp only [Bool.and_eq_true, decide_eq_true_eq] at q2
        obtain ⟨⟨⟨⟨r1, r2⟩, r3⟩, r4⟩, r5⟩ := q2
        obtain ⟨ee, hee⟩ := isExc_some r4
        exact .tup nx (by rw [gd.pr]; exact hee) r1 r2 (okName_e r3).1 (okName_e r3).2.1 (it_ok gd.flds r5)
      · cases q2
  · cases q
theorem cls_ok' {d : Bool} (gd : Gd C T X d) : ∀ {ms : List MH} {hs : List ExceptHandler}, clsB' C X.N X.env.scope ms hs = true → ClsOk' T X ms hs
  | [], [], _ => .nil
  | [], _ :: _, h => by cases h
  | _ :: _, [], h => by cases h
  | m :: ms, x :: hs, h => by
    unfold clsB' at h
    simp only [Bool.and_eq_true] at h
    exact .cons (cl_ok gd h.1) (cls_ok' gd h.2)
mutual
theorem chkS_ok : ∀ (m : MS) {X : Cx} {W : WX} {s : Stmt}, Rdy T cal lvl X W → Gd C T X true → X.env.scope.kind = .function → PassesOwn (model X.prog X.w) X.A X.env X.xe → (X.stack = X.env :: X.outer ∧ X.env.frame = some X.env.locals) → chkS C X.N X.env.scope m s = true → PS X s (rdS T cal W m)
  | .set i m, X, W, s, rd, gd, hk, hp, hst, h => by
    unfold chkS at h
    split at h
    · simp only [Bool.and_eq_true, decide_eq_true_eq] at h
      exact set_ok rd gd hk h.1 h.2
    · cases h
  | .par i j a b, X, W, s, rd, gd, hk, hp, hst, h => by
    unfold chkS at h
    split at h
    · simp only [Bool.and_eq_true, decide_eq_true_eq] at h
      obtain ⟨⟨⟨⟨⟨⟨h1, h2⟩, h3⟩, h4⟩, h5⟩, h6⟩, h7⟩ := h
      exact js_par rd h1 h2 h3 h4 h5 (chkEs_ok _ rd gd h6) (swapQ_ok hk h7)
    · cases h
  | .par3 i j k a b c, X, W, s, rd, gd, hk, hp, hst, h => by
    unfold chkS at h
    split at h
    · simp only [Bool.and_eq_true, decide_eq_true_eq] at h
      obtain ⟨⟨⟨⟨⟨⟨⟨⟨⟨⟨h1, h2⟩, h3⟩, h4⟩, h5⟩, h6⟩, h7⟩, h8⟩, h9⟩, h10⟩, h11⟩ := h
      exact js_par3 rd h1 h2 h3 h4 h5 h6 h7 h8 h9 (chkEs_ok _ rd gd h10) (swapQ_ok hk h11)
    · cases h
  | .unp is m, X, W, s, rd, gd, hk, hp, hst, h => by
    unfold chkS at h
    split at h
    · rename_i es _ _ e _
      simp only [Bool.and_eq_true] at h
      refine js_unp rd (names_ok gd h.1.1) (chkE_ok m rd gd h.1.2) sw_tup ?_
      have h3 := h.2
      split at h3
      · exact swapQ_ok hk (by simpa using h3)
      · rename_i hn
        exact swapN_ok hn
    · cases h
  | .setI a b c, X, W, s, rd, gd, hk, hp, hst, h => by
    unfold chkS at h
    split at h
    · simp only [Bool.and_eq_true, decide_eq_true_eq] at h
      exact js_setI rd (chkE_ok a rd gd h.1.1) (chkE_ok b rd gd h.1.2) (chkE_ok c rd gd h.2) sw_sub
    · cases h
  | .setF a f c, X, W, s, rd, gd, hk, hp, hst, h => by
    unfold chkS at h
    split at h
    · simp only [Bool.and_eq_true, decide_eq_true_eq] at h
      obtain ⟨⟨⟨h1, h2⟩, h3⟩, h4⟩ := h
      subst h1
      exact js_setF rd (by rw [gd.flds]; exact h2) (chkE_ok a rd gd h3) (chkE_ok c rd gd h4) sw_att
    · cases h
  | .ex a, X, W, s, rd, gd, hk, hp, hst, h => by
    unfold chkS at h
    split at h
    · simp only [Bool.and_eq_true, decide_eq_true_eq] at h
      exact js_ex (chkE_ok a rd gd h.2) (sw_e h.1)
    · cases h
  | .ret a, X, W, s, rd, gd, hk, hp, hst, h => by
    unfold chkS at h
    split at h
    · exact js_ret (chkE_ok a rd gd h)
    · cases h
  | .retN, X, W, s, rd, gd, hk, hp, hst, h => by
    unfold chkS at h
    split at h
    · exact js_retN
    · cases h
  | .if_ c a b, X, W, s, rd, gd, hk, hp, hst, h => by
    unfold chkS at h
    split at h
    · simp only [Bool.and_eq_true, decide_eq_true_eq] at h
      exact js_if (chkC_ok c rd gd h.1.1).1 (chkSs_ok a rd gd hk hp hst h.1.2) (chkSs_ok b rd gd hk hp hst h.2)
    · cases h
  | .for_ t src body, X, W, s, rd, gd, hk, hp, hst, h => by
    unfold chkS at h
    split at h
    · simp only [Bool.and_eq_true, decide_eq_true_eq] at h
      obtain ⟨⟨⟨h1, h2⟩, h3⟩, h4⟩ := h
      exact js_for rd hp (chkI_ok src rd gd h3) (tg_ok rd gd h1) (chkSs_ok body rd gd hk hp hst h4) (set_e h2)
    · cases h
  | .raise g ms, X, W, s, rd, gd, hk, hp, hst, h => by
    unfold chkS at h
    split at h
    · simp only [Bool.and_eq_true] at h
      obtain ⟨⟨h1, h2⟩, h3⟩ := h
      obtain ⟨ee, i, d, he, hi, hd⟩ := isInitE_some h1
      have hs := stars_ok h3
      simp only [List.all_cons, Bool.and_eq_true] at hs
      exact js_raise rd (named_ok gd h2) (by rw [gd.pr]; exact he) hi (by rw [gd.pr]; exact hd) (chkEs_ok ms rd gd h3) (star_e hs.1) (back_ok hs.2)
    · cases h
  | .try_ b hs, X, W, s, rd, gd, hk, hp, hst, h => by
    unfold chkS at h
    split at h
    · simp only [Bool.and_eq_true] at h
      exact js_try rd hst.1 hst.2 (fun W' pn xe rd' hp' => chkSs_ok b rd' (Gd.tr gd pn xe) hk hp' hst h.1) (cls_ok' gd h.2)
    · cases h
  | .brk, X, W, s, rd, gd, hk, hp, hst, h => by
    unfold chkS at h
    split at h
    · exact js_brk
    · cases h
  | .cnt, X, W, s, rd, gd, hk, hp, hst, h => by
    unfold chkS at h
    split at h
    · exact js_cnt
    · cases h
  | .pass, X, W, s, rd, gd, hk, hp, hst, h => by
    unfold chkS at h
    split at h
    · exact js_pass
    · exact js_doc
    · cases h
theorem chkSs_ok : ∀ (ms : MSs) {X : Cx} {W : WX} {l : List Stmt}, Rdy T cal lvl X W → Gd C T X true → X.env.scope.kind = .function → PassesOwn (model X.prog X.w) X.A X.env X.xe → (X.stack = X.env :: X.outer ∧ X.env.frame = some X.env.locals) → chkSs C X.N X.env.scope ms l = true → PSs X l (rdSs T cal W ms)
  | .nil, X, W, l, rd, gd, hk, hp, hst, h => by
    unfold chkSs at h
    split at h
    · exact jss_nil
    · cases h
  | .cons m ms, X, W, l, rd, gd, hk, hp, hst, h => by
    unfold chkSs at h
    split at h
    · simp only [Bool.and_eq_true, decide_eq_true_eq] at h
      exact jss_cons (chkS_ok m rd gd hk hp hst h.1) (chkSs_ok ms rd gd hk hp hst h.2)
    · cases h
end
end
end Mini
set_option autoImplicit false
set_option maxHeartbeats 4000000
/-! Mini, nineteenth part: the arguments of a call; every def keeps what its run tells. -/
namespace Mini
open PySem PySem.Spec L2
open PyProof.Rows hiding St
/-! ### bindArgs -/
/-- plain parameters: names alone -/
structure PlainP (p : Arguments) (ps : List Str) : Prop where
  po : p.posonlyargs = []
  ar : p.args.map (·.arg) = ps
  va : p.vararg = none
  ko : p.kwonlyargs = []
  kw : p.kwarg = none
theorem lk_zip {ps : List Str} : ∀ {us : List Value} {Z : List (Str × Value)} {i : Nat} {p : Str} {b : Value}, ps.Nodup → ps[i]? = some p → us[i]? = some b → (ps.zip us ++ Z).lookup p = some b := by
  induction ps with
  | nil => intro us Z i p b _ h; simp at h
  | cons q ps ih =>
    intro us Z i p b nd h1 h2
    cases us with
    | nil => simp at h2
    | cons u us =>
      show List.lookup p ((q, u) :: (ps.zip us ++ Z)) = _
      rw [List.lookup_cons]
      cases i with
      | zero =>
        simp at h1 h2
        subst h1 h2
        simp
      | succ i =>
        have h1' : ps[i]? = some p := by simpa using h1
        have hne : p ≠ q := fun e => (List.nodup_cons.mp nd).1 (by rw [← e]; exact List.mem_of_getElem? h1')
        have : (p == q) = false := by simp [hne]
        rw [this]
        exact ih (List.nodup_cons.mp nd).2 h1' (by simpa using h2)
theorem lk_out {ps : List Str} : ∀ {us : List Value} {Z : List (Str × Value)} {p : Str}, p ∉ ps.take us.length → (ps.zip us ++ Z).lookup p = Z.lookup p := by
  induction ps with
  | nil => intro us Z p _; rfl
  | cons q ps ih =>
    intro us Z p h
    cases us with
    | nil => rfl
    | cons u us =>
      simp only [List.length_cons, List.take_succ_cons, List.mem_cons, not_or] at h
      show List.lookup p ((q, u) :: (ps.zip us ++ Z)) = _
      rw [List.lookup_cons]
      have : (p == q) = false := by simp [h.1]
      rw [this]
      exact ih h.2
theorem lk_find {p : Str} : ∀ {ks : List Str} {ws : List Value}, (ks.zip ws).lookup p = findK p ks ws
  | [], _ => by unfold findK; rfl
  | _ :: _, [] => by unfold findK; rfl
  | k :: ks, w :: ws => by
    show List.lookup p ((k, w) :: ks.zip ws) = _
    rw [List.lookup_cons]
    unfold findK
    by_cases e : k = p
    · subst e
      simp
    · have : (p == k) = false := by simp [Ne.symm e]
      rw [this, if_neg e]
      exact lk_find
theorem optAll_get {α γ : Type} {f : γ → Option α} : ∀ {cs : List γ} {xs : List α} {i : Nat} {c : γ}, optAll f cs = some xs → cs[i]? = some c → ∃ x, xs[i]? = some x ∧ f c = some x
  | [], _, _, _, _, h => by simp at h
  | d :: cs, xs, i, c, e, h => by
    unfold optAll at e
    cases hd : f d with
    | none => rw [hd] at e; cases e
    | some y =>
      cases hr : optAll f cs with
      | none => rw [hd, hr] at e; cases e
      | some ys =>
        rw [hd, hr] at e
        cases e
        cases i with
        | zero => simp at h; subst h; exact ⟨y, rfl, hd⟩
        | succ i =>
          obtain ⟨x, h1, h2⟩ := optAll_get (i := i) hr (by simpa using h)
          exact ⟨x, by simpa using h1, h2⟩
theorem fm_zip {S : List (Str × Value)} : ∀ {ps : List Str} {bs : List Value}, bs.length = ps.length → (∀ (i : Nat) (p : Str) (b : Value), ps[i]? = some p → bs[i]? = some b → S.lookup p = some b) → ps.filterMap (fun n => (S.lookup n).map (n, ·)) = ps.zip bs
  | [], _, _, _ => rfl
  | p :: ps, [], h, _ => by cases h
  | p :: ps, b :: bs, h, k => by
    have e : (S.lookup p).map (p, ·) = some (p, b) := by rw [k 0 p b rfl rfl]; rfl
    rw [List.filterMap_cons, e, fm_zip (by simpa using h) fun i q c h1 h2 => k (i + 1) q c (by simpa using h1) (by simpa using h2)]
    rfl
theorem slots_ok {ps ks : List Str} {us ws bs : List Value} (nd : ps.Nodup) (hb : bindK ps us ks ws = some bs) : ∀ (i : Nat) (p : Str) (b : Value), ps[i]? = some p → bs[i]? = some b → (ps.zip us ++ ks.zip ws).lookup p = some b := by
  unfold bindK at hb
  split at hb
  · rename_i hl
    obtain ⟨rs, hr, rfl⟩ := Option.map_eq_some_iff.mp hb
    intro i p b h1 h2
    by_cases hi : i < us.length
    · rw [List.getElem?_append_left hi] at h2
      exact lk_zip nd h1 h2
    · have hi := Nat.le_of_not_lt hi
      rw [List.getElem?_append_right hi] at h2
      have hp : (ps.drop us.length)[i - us.length]? = some p := by rw [List.getElem?_drop, Nat.add_sub_cancel' hi]; exact h1
      obtain ⟨x, hx, hf⟩ := optAll_get hr hp
      rw [h2] at hx
      cases hx
      rw [lk_out, lk_find, hf]
      intro hm
      obtain ⟨j, hj⟩ := List.getElem?_of_mem hm
      have hjl : j < us.length := by
        rcases Nat.lt_or_ge j us.length with z | z
        · exact z
        · rw [List.getElem?_eq_none (by rw [List.length_take]; omega)] at hj; cases hj
      rw [List.getElem?_take_of_lt hjl] at hj
      have := (List.getElem?_inj (List.getElem?_eq_some_iff.mp h1).1 nd).mp (h1.trans hj.symm)
      omega
  · cases hb
/-- the keywords' turn -/
theorem kw_loop {ps : List Str} {σ : Type} {f : (Str × Value) → σ → Sem (ForInStep σ)} {g : List (Str × Value) → σ} (hf : ∀ k v S, ps.contains k = true → (S.lookup k).isSome = false → f (k, v) (g S) = pure (.yield (g (S ++ [(k, v)])))) :
    ∀ {ks : List Str} {ws : List Value} {S : List (Str × Value)}, nodupB ks = true → (∀ k ∈ ks, ps.contains k = true ∧ S.lookup k = none) → forIn (ks.zip ws) (g S) f = pure (g (S ++ ks.zip ws))
  | [], _, S, _, _ => by
    show forIn ([] : List (Str × Value)) (g S) f = _
    rw [List.forIn_nil]
    simp
  | _ :: _, [], S, _, _ => by
    show forIn ([] : List (Str × Value)) (g S) f = _
    rw [List.forIn_nil]
    simp
  | k :: ks, w :: ws, S, nd, h => by
    show forIn ((k, w) :: ks.zip ws) (g S) f = _
    unfold nodupB at nd
    simp only [Bool.and_eq_true, Bool.not_eq_true'] at nd
    rw [List.forIn_cons, hf k w S (h k List.mem_cons_self).1 (by rw [(h k List.mem_cons_self).2]; rfl)]
    show forIn (ks.zip ws) (g (S ++ [(k, w)])) f = _
    rw [kw_loop hf nd.2 fun j hj => ⟨(h j (List.mem_cons_of_mem _ hj)).1, ?_⟩]
    · rw [List.append_assoc]; rfl
    · have hne : j ≠ k := fun e => by
        subst e
        have : ks.contains j = true := by simpa using hj
        rw [nd.1] at this
        cases this
      rw [List.lookup_append, (h j (List.mem_cons_of_mem _ hj)).2]
      show (List.lookup j [(k, w)]) = none
      rw [List.lookup_cons]
      have : (j == k) = false := by simp [hne]
      rw [this]; rfl
theorem bind_plain {name qual : Str} {params : Arguments} {body : List Stmt} {scope : Scope} {kV doc pm cdv ct : Value} {an : Option Addr} {ps ks : List Str} {us ws bs : List Value} (pp : PlainP params ps) (nd : ps.Nodup) (hb : bindK ps us ks ws = some bs) (hk : kwOk ps us.length ks = true) :
    bindArgs (PySem.W.fnOf name qual params body scope .none kV doc pm an cdv ct) ⟨us, ks.zip ws⟩ = pure (ps.zip bs) := by
  have sl := slots_ok nd hb
  have bl := bindK_length hb
  have ul : us.length ≤ ps.length := by
    unfold bindK at hb
    split at hb
    · omega
    · cases hb
  unfold kwOk at hk
  simp only [Bool.and_eq_true, List.all_eq_true] at hk
  obtain ⟨hk1, hk2⟩ := hk
  obtain ⟨p1, p2, p3, p4, p5⟩ := pp
  unfold bindArgs
  simp only [PySem.W.fnOf, p1, p2, p3, p4, p5, List.map_nil, List.nil_append, List.append_nil]
  have hz : ∀ k ∈ ks, ps.contains k = true ∧ (ps.zip us).lookup k = none := fun k hm => by
    have h1 := hk2 k hm
    have h2 : k ∈ ps.drop us.length := by simpa using h1
    refine ⟨by simpa using List.mem_of_mem_drop h2, ?_⟩
    have h3 : k ∉ ps.take us.length := fun h4 => by
      have := List.take_append_drop us.length ps
      rw [← this] at nd
      exact (List.nodup_append.mp nd).2.2 k h4 k h2 rfl
    have := lk_out (Z := []) h3
    rw [List.append_nil] at this
    exact this
  have loop : ∀ f, (∀ k v S, ps.contains k = true → (S.lookup k).isSome = false → f (k, v) (S, ([] : List (Str × Value))) = pure (.yield (S ++ [(k, v)], []))) → forIn (ks.zip ws) (ps.zip us, ([] : List (Str × Value))) f = (pure (ps.zip us ++ ks.zip ws, []) : Sem _) :=
    fun f hf => kw_loop (g := fun S => (S, [])) hf hk1 hz
  rw [loop]
  rotate_left
  · intro k v S h1 h2
    simp only [h1, h2, Bool.true_or, if_true, Bool.false_eq_true, if_false]
  generalize hS : ps.zip us ++ ks.zip ws = S at sl
  have hs : seqItems? Value.none = pure none := rfl
  have hmis : ∀ n : Nat, List.filter (fun n => (List.lookup n S).isNone) (List.take n ps) = [] := fun n => by
    rw [List.filter_eq_nil_iff]
    intro p hp
    obtain ⟨i, hi⟩ := List.getElem?_of_mem (List.mem_of_mem_take hp)
    have hil : i < bs.length := by rw [bl]; exact (List.getElem?_eq_some_iff.mp hi).1
    rw [sl i p bs[i] hi (List.getElem?_eq_getElem hil)]
    simp
  have hgt : decide (us.length > ps.length) = false := by simp; omega
  rw [hs]
  simp only [pure_bind, hgt, hmis, Bool.false_and, Bool.false_eq_true, if_false, Option.getD_none, List.drop_nil, List.zip_nil_right, List.isEmpty_nil, Bool.not_true, List.forIn_nil]
  rw [fm_zip bl sl]
/-! ### every def keeps what its run tells -/
/-- a def as it stands in the written part -/
structure DefAt (C : Ck) (K : PySem.W.Frag) (f : Addr) (d : MDef) : Prop where
  ex : ∃ (name qual : Str) (params : Arguments) (body : List Stmt) (scope : Scope) (kV doc pm cdv ct oc : Value) (an od : Option Addr) (osl : Array (Option Value)) (N : List Str),
    K.lookup f = some ⟨oc, od, .func (PySem.W.fnOf name qual params body scope .none kV doc pm an cdv ct), osl⟩ ∧ PySem.W.codeIn K cdv qual = true ∧ PlainP params d.params ∧ FnScope N d.params scope ∧ N.length = d.ns ∧ chkSs C N scope d.body body = true
/-- what is known at the top -/
structure Known (C : Ck) (T : Top) (mg : Str → Option Value) : Prop where
  pr : T.Pr = C.Pr
  nm : T.nm = C.nm
  flds : T.flds = C.flds
  top : ∀ g, C.top g = true → mg (C.nm g) = some (.ref (T.G.ad g)) ∧ PySem.W.keepIn T.G.K (.ref (T.G.ad g)) = true
  gcd : C.gcd = true → mg "gcd" = some (.builtin "math.gcd")
  ok : TopOk T mg
  defs : ∀ g d, T.Pr g = some (.def_ d) → DefAt C T.G.K (T.G.ad g) d
section
variable {C : Ck} {T : Top} {P : Program} {w : World} {mg : Str → Option Value} {base : Heap}
theorem rg_start {G : Gr} {ρ : List Addr} {H : Hp} {xs : List AV} {vs : List V} (r : RVs G ρ H xs vs) (n : Nat) : RG G ρ H (xs.map some ++ List.replicate n none) (vs.map some ++ List.replicate n none) := by
  refine ⟨by simp [r.length], fun i x h => ?_⟩
  by_cases hi : i < xs.length
  · rw [List.getElem?_append_left (by simpa using hi), List.getElem?_map] at h
    cases e : xs[i]? with
    | none => rw [e] at h; cases h
    | some y =>
      rw [e] at h
      cases h
      obtain ⟨v, hv, rv⟩ := r.get e
      have hi2 : i < vs.length := by rw [← r.length]; exact hi
      exact ⟨v, by rw [List.getElem?_append_left (by simpa using hi2), List.getElem?_map, hv]; rfl, rv⟩
  · rw [List.getElem?_append_right (by simpa using hi), List.getElem?_replicate] at h
    split at h <;> cases h
theorem tab_all (kn : Known C T mg) : ∀ n : Nat, Tab T (calA T.Pr n) (2 * n) P w mg base
  | 0 => ⟨fun g d hg => by
    obtain ⟨name, qual, params, body, scope, kV, doc, pm, cdv, ct, oc, an, od, osl, N, lk, hcd, pp, S, hn, hc⟩ := (kn.defs g d hg).ex
    refine ⟨_, ⟨fun vs H Q E h => ?_, fun A outer s H args us vs Q E g hr e0 hb r hsp => ?_⟩, fun us ks ws bs hb hk => bind_plain (name := name) (qual := qual) (params := params) (body := body) (scope := scope) (kV := kV) (doc := doc) (pm := pm) (cdv := cdv) (ct := ct) (an := an) pp ?_ hb hk⟩
    · rw [h.1, kn.ok.np g d hg]
    · obtain ⟨_, ρ, xs, h, _, _, o⟩ := hsp
      exact o.elim
    · rw [← S.pre]; exact S.nd.sublist (List.take_sublist _ _)⟩
  | n + 1 => ⟨fun g d hg => by
    have ih := tab_all kn n
    obtain ⟨name, qual, params, body, scope, kV, doc, pm, cdv, ct, oc, an, od, osl, N, lk, hcd, pp, S, hn, hc⟩ := (kn.defs g d hg).ex
    refine ⟨_, fn_ofG (k := 2 * n + 1) lk hcd S (fun vs H Q E h => by rw [h.1, kn.ok.np g d hg]) (fun A outer s H vs Q E hgu hr hsp => ?_), fun us ks ws bs hb hk => bind_plain pp ?_ hb hk⟩
    · obtain ⟨hl, ρ, xs, h, rr, rh, o⟩ := hsp
      have rd : Rdy T (calA T.Pr n) (2 * n) (cxOf (L2.CX P w) P w T.G.K mg base N qual scope (T.G.ad g) cdv A outer s H E) (fun cls d _ H => E cls d H) :=
        ⟨rfl, S.nd, hgu, hr, takes_of rfl rfl rfl rfl, rfl, kn.ok, ih⟩
      have gd : Gd C T (cxOf (L2.CX P w) P w T.G.K mg base N qual scope (T.G.ad g) cdv A outer s H E) true := ⟨kn.pr, kn.nm, kn.flds, kn.top, kn.gcd, fun _ _ => rfl⟩
      refine ⟨_, chkSs_ok d.body rd gd S.kind (passes_of rfl) ⟨rfl, rfl⟩ hc, ρ, xs.map some ++ List.replicate (d.ns - d.np) none, h, ?_, rh, ?_⟩
      · unfold L2.start
        rw [hn, hl]
        exact rg_start rr _
      · have hxl : xs.length = d.np := by rw [rr.length, hl]
        unfold calA at o
        rw [hg] at o
        dsimp only at o
        rw [if_pos hxl] at o
        cases e : evSs T.Pr (calA T.Pr n) d.body (xs.map some ++ List.replicate (d.ns - d.np) none) h with
        | nx σ' h' => rw [e] at o; exact fun ρ' H' σ' e' rh' rs' => o ρ' H' e' rh' _ .non
        | rt v h' => rw [e] at o; exact fun ρ' H' v e' rh' rv => o ρ' H' e' rh' v rv
        | bk σ' h' => rw [e] at o; exact o.elim
        | ct σ' h' => rw [e] at o; exact o.elim
        | exc c fs σ' h' => rw [e] at o; exact fun ρ' H' σ' cls d' e' rh' rs' x => o ρ' H' cls d' e' rh' x
        | bad => rw [e] at o; exact o.elim
    · rw [← S.pre]; exact S.nd.sublist (List.take_sublist _ _)⟩
end
end Mini
set_option autoImplicit false
set_option maxHeartbeats 4000000
/-! Mini, twentieth part: the program as data, the facts of its written part by one look; the end. -/
namespace Mini
open PySem PySem.Spec L2
open PyProof.Rows hiding St
/-- a program: where each of its defs and classes stands, what it is -/
structure Pg where
  ats : List (Str × Option Str)
  gs : List MG
  flds : List Str
  gcd : Bool
/-- an exception class, as OexC has it -/
def oexB (K : PySem.W.Frag) (C : Addr) : Bool := (match K.lookup C with
  | some ⟨.type "type", _, .cls cd, sl⟩ => (match cd.mro, sl.toList with
    | .ref C' :: bm, [_, _, _, _, some (.builtin n), _] => C' == C && n == "ValueError.__new__" && !cd.hasDel && cd.hasDict && PySem.HandSPX.refsVE bm
    | _, _ => false)
  | _ => false) && (decide (PySem.W.findIn K (.ref C) "__setattr__" = some (some (.builtin "object.__setattr__"))) && (decide (PySem.W.subIn K (.ref C) (.type "BaseException") = some true) && (decide (PySem.W.typeIn K (.ref C) = some (.type "type")) && PySem.W.keepIn K (.ref C))))
theorem oexB_ok {K : PySem.W.Frag} {C : Addr} (h : oexB K C = true) : OexC K C := by
  unfold oexB at h
  simp only [Bool.and_eq_true, decide_eq_true_eq] at h
  obtain ⟨q, h2, h3, h4, h5⟩ := h
  refine ⟨?_, h2, h3, h4, h5⟩
  split at q
  · rename_i dd cd sl ho
    split at q
    · rename_i C' bm k0 k1 k2 k3 n k5 hm hs
      simp only [Bool.and_eq_true, beq_iff_eq, Bool.not_eq_true'] at q
      obtain ⟨⟨⟨⟨rfl, rfl⟩, hdel⟩, hdc⟩, hr⟩ := q
      obtain ⟨nm, bs, mro, ns, qn, hd, sn, sub, ab, col, del⟩ := cd
      dsimp only at hm hdel hdc
      subst hm hdel hdc
      have hsl : sl = #[k0, k1, k2, k3, some (.builtin "ValueError.__new__"), k5] := by
        obtain ⟨l⟩ := sl
        simp only at hs
        rw [hs]
      subst hsl
      exact ⟨nm, qn, ns, bs, bm, sn, sub, ab, col, dd, k0, k1, k2, k3, k5, ho, hr⟩
    · cases q
  · cases q
def vinB (K : PySem.W.Frag) (C : Addr) : Bool := (match PySem.W.findCls K (.ref C) (.type "type") "__init__" with
  | some (.val v) => v == .builtin "ValueError.__init__"
  | _ => false) && (PySem.W.readsIn K C (.type "type") && decide (PySem.W.specialIn K (.ref C) "__getattribute__" = some (some (.builtin "type.__getattribute__"))))
theorem vinB_ok {K : PySem.W.Frag} {C : Addr} (h : vinB K C = true) : PySem.W.findCls K (.ref C) (.type "type") "__init__" = some (.val (.builtin "ValueError.__init__")) ∧ PySem.W.readsIn K C (.type "type") = true ∧
    PySem.W.specialIn K (.ref C) "__getattribute__" = some (some (.builtin "type.__getattribute__")) := by
  unfold vinB at h
  simp only [Bool.and_eq_true, decide_eq_true_eq] at h
  obtain ⟨q, h2, h3⟩ := h
  refine ⟨?_, h2, h3⟩
  split at q
  · rename_i v e
    rw [e, beq_iff_eq.mp q]
  · cases q
namespace Pg
variable (p : Pg)
def Pr : Prog := fun g => p.gs[g]?
def at_ (g : Nat) : Str × Option Str := p.ats[g]?.getD ("", some "")
def nm (g : Nat) : Str := (p.at_ g).1
def gr (K : PySem.W.Frag) : Gr := ⟨K, fun g => He.fAd K (p.at_ g)⟩
def T (K : PySem.W.Frag) : Top := ⟨p.gr K, p.Pr, p.nm, p.flds⟩
def top (g : Nat) : Bool := (p.at_ g).2.isNone && (match p.Pr g with
  | some (.def_ _) => true
  | some (.cls _) => true
  | some (.exc _) => true
  | _ => false)
def C : Ck := ⟨p.Pr, p.nm, p.flds, p.top, p.gcd⟩
def idx : List Nat := List.range p.gs.length
def isC (g : Nat) : Bool := (clsAt p.Pr g).isSome
def isX (g : Nat) : Bool := (excAt p.Pr g).isSome
def tds : List TD := (tnamesX.map TD.b) ++ ((p.idx.filter p.isC).map TD.c ++ (p.idx.filter p.isX).map TD.x)
/-- what is seen of the program alone -/
def staticB : Bool := p.idx.all fun g => match p.Pr g with
  | some (.def_ d) => decide (d.params.length = d.np)
  | some (.cls c) => (p.at_ g).2.isNone && decide (p.at_ c.init = (p.nm g, some ("__init__" : Str))) && (match p.Pr c.init with
      | some (.def_ d) => !d.params.isEmpty
      | _ => false) &&
    (match c.eq with
      | none => true
      | some e => decide (p.at_ e = (p.nm g, some ("__eq__" : Str))) && (match p.Pr e with
        | some (.def_ d) => decide (d.np = 2)
        | _ => false)) &&
    (match c.ne with
      | none => true
      | some e => decide (p.at_ e = (p.nm g, some ("__ne__" : Str))) && (match p.Pr e with
        | some (.def_ d) => decide (d.np = 2)
        | _ => false))
  | some (.exc e) => (p.at_ g).2.isNone && (match e.init with
    | none => true
    | some i => decide (p.at_ i = (p.nm g, some ("__init__" : Str))) && (match p.Pr i with
      | some (.def_ d) => !d.params.isEmpty
      | _ => false))
  | some (.val v) => (p.at_ g).2.isNone && (match v with
      | .int _ => true
      | .str _ => true
      | _ => false)
  | _ => true
def clsB (K : PySem.W.Frag) (g : Nat) (c : MCls) : Bool :=
  (He.Fa.mkr (p.nm g)).ok K && ((He.Fa.cls (p.nm g)).ok K && ((p.flds.all fun f => (He.Fa.noat (p.nm g) f).ok K) && (He.eqO (PySem.W.findIn K (.ref (He.ga K (p.nm g))) "__class__") (some (some (.builtin "object.__class__"))) &&
    (decide (PySem.W.mroIn K (He.ga K (p.nm g)) (.type "object") = some true) && ((match c.eq with
      | none => true
      | some _ => (He.Fa.meth (p.nm g) "__eq__").ok K) && ((match c.ne with
      | none => true
      | some _ => (He.Fa.meth (p.nm g) "__ne__").ok K) && p.tds.all fun t => !(isTD p.Pr t t).isSome || PySem.W.notFirst K (He.ga K (p.nm g)) (tdV (p.gr K) t)))))))
def excB (K : PySem.W.Frag) (g : Nat) (e : MExc) : Bool :=
  let C := He.ga K (p.nm g)
  oexB K C && (xfB K C && ((p.flds.all fun f => He.eqO (PySem.W.findIn K (.ref C) f) (some none)) && (He.eqO (PySem.W.findIn K (.ref C) "__class__") (some (some (.builtin "object.__class__"))) &&
    (decide (PySem.W.mroIn K C (.type "object") = some true) && ((match e.init with
      | none => true
      | some _ => (He.Fa.meth (p.nm g) "__init__").ok K && decide (PySem.W.typeIn K (.ref (He.ma K C "__init__")) = some (.type "function"))) && ((!(e.base.isNone && e.init.isNone) || vinB K C) &&
      p.tds.all fun t => (match t, isTD p.Pr (.x g) t with
        | .x k, some b => decide (PySem.W.exmOne K (.ref C) (.ref (He.fAd K (p.at_ k))) = some b)
        | _, _ => true)))))))
def gB (K : PySem.W.Frag) (g : Nat) : Bool := match p.Pr g with
  | some (.def_ _) => PySem.W.keepIn K (.ref (He.fAd K (p.at_ g))) && ((p.at_ g).2.isSome || (He.Fa.glo (p.nm g)).ok K)
  | some (.cls c) => (He.Fa.glo (p.nm g)).ok K && p.clsB K g c
  | some (.exc e) => (He.Fa.glo (p.nm g)).ok K && p.excB K g e
  | some (.val (.int i)) => (He.Fa.int (p.nm g) i).ok K
  | some (.val (.str z)) => (He.Fa.str (p.nm g) z).ok K
  | _ => true
def sysB (K : PySem.W.Frag) : Bool := match K.lookup sysModules with
  | some o => (match o.data with
    | .dict _ _ => true
    | _ => false)
  | none => false
def gcdB (K : PySem.W.Frag) : Bool := !p.gcd || He.eqO (PySem.W.nsIn K mainGlobals "gcd") (some (some (.builtin "math.gcd")))
/-- what is seen of the written part -/
def factsB (K : PySem.W.Frag) : Bool := (p.idx.all fun g => p.gB K g) && ((bnames.all fun x => (He.Fa.free x).ok K) && ((p.tds.all fun t => p.tds.all fun u => match isTD p.Pr t u with
    | some b => decide (PySem.W.kitOne K (tdV (p.gr K) t) (tdV (p.gr K) u) = some b)
    | none => true) && (sysB K && (p.gcdB K && (decide (PySem.W.specialIn K (.builtin "object.__class__") "__get__" = some (some (.builtin "getset_descriptor.__get__"))) && decide (PySem.W.takesIn K (.builtin "object.__class__") = some true))))))
end Pg
theorem idx_mem {p : Pg} {g : Nat} {m : MG} (h : p.Pr g = some m) : g ∈ p.idx := by
  unfold Pg.idx
  exact List.mem_range.mpr (List.getElem?_eq_some_iff.mp h).1
theorem tds_c {p : Pg} {g : Nat} (h : isCls p.Pr g = true) : TD.c g ∈ p.tds := by
  unfold Pg.tds
  refine List.mem_append_right _ (List.mem_append_left _ (List.mem_map.mpr ⟨g, List.mem_filter.mpr ⟨?_, h⟩, rfl⟩))
  unfold isCls clsAt at h
  cases e : p.Pr g with
  | none => rw [e] at h; cases h
  | some m => exact idx_mem e
theorem tds_x {p : Pg} {g : Nat} (h : isExc p.Pr g = true) : TD.x g ∈ p.tds := by
  unfold Pg.tds
  refine List.mem_append_right _ (List.mem_append_right _ (List.mem_map.mpr ⟨g, List.mem_filter.mpr ⟨?_, h⟩, rfl⟩))
  unfold isExc excAt at h
  cases e : p.Pr g with
  | none => rw [e] at h; cases h
  | some m => exact idx_mem e
theorem tds_b {p : Pg} {T : String} (h : tnamesX.contains T = true) : TD.b T ∈ p.tds := by
  unfold Pg.tds
  exact List.mem_append_left _ (List.mem_map.mpr ⟨T, by simpa using h, rfl⟩)
theorem tn_x {T : String} (h : tnames.contains T = true) : tnamesX.contains T = true := by
  simp only [tnames, tnamesX, List.contains_cons, List.contains_nil, Bool.or_false, Bool.or_eq_true] at h ⊢
  rcases h with h | h | h | h | h | h | h <;> simp [h]
theorem tds_of {p : Pg} {t u : TD} {b : Bool} (h : isTD p.Pr t u = some b) : t ∈ p.tds ∧ u ∈ p.tds := by
  cases t <;> cases u <;> (dsimp only [isTD] at h; split at h; (rename_i c; simp only [Bool.and_eq_true] at c; first | exact ⟨tds_b (tn_x c.1), tds_b c.2⟩ | exact ⟨tds_c c.1, tds_c c.2⟩ | exact ⟨tds_c c.1, tds_b c.2⟩ | exact ⟨tds_b (tn_x c.2), tds_c c.1⟩ | exact ⟨tds_x c.1, tds_x c.2⟩ | exact ⟨tds_x c.1, tds_b c.2⟩ | exact ⟨tds_b (tn_x c.2), tds_x c.1⟩ | exact ⟨tds_x c.1, tds_c c.2⟩ | exact ⟨tds_c c.1, tds_x c.2⟩); cases h)
/-! ### defs -/
def plainB (a : Arguments) (ps : List Str) : Bool := a.posonlyargs.isEmpty && decide (a.args.map (·.arg) = ps) && a.vararg.isNone && a.kwonlyargs.isEmpty && a.kwarg.isNone
theorem plain_by {a : Arguments} {ps : List Str} (h : plainB a ps = true) : PlainP a ps := by
  unfold plainB at h
  simp only [Bool.and_eq_true, decide_eq_true_eq, List.isEmpty_iff, Option.isNone_iff_eq_none] at h
  exact ⟨h.1.1.1.1, h.1.1.1.2, h.1.1.2, h.1.2, h.2⟩
/-- a def of the text: its slots' names, where it stands -/
abbrev DR := List Str × He.DefD
def defOk (p : Pg) (g : Nat) (md : MDef) (r : DR) : Bool := decide (r.2.at_ = p.at_ g) && (r.2.dfl.isEmpty && (plainB r.2.params md.params && (C8.scC r.1 md.params r.2.scope && (decide (r.1.length = md.ns) && chkSs p.C r.1 r.2.scope md.body r.2.body))))
/-- the g-th thing is a def: ds has its text -/
def defsB (p : Pg) (ds : List (Option DR)) : Bool := p.idx.all fun g => match p.Pr g with
  | some (.def_ md) => (match ds[g]? with
    | some (some r) => defOk p g md r
    | _ => false)
  | _ => true
def fnsOf (ds : List (Option DR)) : List He.DefD := ds.filterMap fun o => o.map (·.2)
/-! ### the look -/
abbrev AlM : Type := Bool × List He.FnW
def obsM (p : Pg) (ds : List (Option DR)) (K : PySem.W.Frag) : AlM := (p.factsB K && (fnsOf ds).all fun d => d.ok K, (fnsOf ds).map fun d => He.fnW K d.at_)
def valM (ds : List (Option DR)) : AlM := (true, (fnsOf ds).map He.DefD.val)
def SaysM (p : Pg) (ds : List (Option DR)) (K : PySem.W.Frag) : Prop := obsM p ds K = valM ds
def obsMG (n : Nat) (p : Pg) (ds : List (Option DR)) (g : Addr → Option Obj) : AlM := obsM p ds (He.frG g (He.asD g n ++ [sysModules, cStatics]))
def hookM (n : Nat) (p : Pg) (ds : List (Option DR)) : PySem.W.Hook where
  α := AlM
  obs := fun s => obsMG n p ds s.heap.get?
  val := fun _ => valM ds
  says := fun _ h => ∃ K : PySem.W.Frag, K.In h ∧ SaysM p ds K
  of := fun _ _ e => ⟨_, He.frG_in, e⟩
  keeps := fun _ _ _ ⟨K, hK, c⟩ k => ⟨K, PySem.W.Frag.In.keeps hK k, c⟩
theorem obsMG_eq {n : Nat} {p : Pg} {ds : List (Option DR)} {g : Addr → Option Obj} {s : Shared} (h : ∀ a, g a = s.heap.get? a) : obsMG n p ds g = (hookM n p ds).obs s := by
  have e : g = s.heap.get? := funext h
  rw [e]; rfl
theorem map_at {α β : Type} {f g : α → β} : ∀ {l : List α}, l.map f = l.map g → ∀ x ∈ l, f x = g x
  | [], _, _, h => by cases h
  | y :: l, e, x, h => by
    simp only [List.map_cons, List.cons.injEq] at e
    rcases List.mem_cons.mp h with rfl | h
    · exact e.1
    · exact map_at e.2 x h
section
variable {p : Pg} {ds : List (Option DR)} {K : PySem.W.Frag} {h : Heap} {mg : Str → Option Value}
theorem def_at (c : SaysM p ds K) (sd : defsB p ds = true) {g : Nat} {md : MDef} (hg : p.Pr g = some (.def_ md)) : DefAt p.C K (He.fAd K (p.at_ g)) md := by
  have q := List.all_eq_true.mp sd g (idx_mem hg)
  rw [hg] at q
  dsimp only at q
  split at q
  · rename_i r hr
    unfold defOk at q
    simp only [Bool.and_eq_true, decide_eq_true_eq, List.isEmpty_iff] at q
    obtain ⟨q1, q2, q3, q4, q5, q6⟩ := q
    have hm : r.2 ∈ fnsOf ds := List.mem_filterMap.mpr ⟨some r, List.mem_of_getElem? hr, rfl⟩
    have c1 : (p.factsB K && (fnsOf ds).all fun d => d.ok K) = true := congrArg (fun z : AlM => z.1) c
    have c2 : (fnsOf ds).map (fun d => He.fnW K d.at_) = (fnsOf ds).map He.DefD.val := congrArg (fun z : AlM => z.2) c
    obtain ⟨fd, F⟩ := He.DefD.funD (map_at c2 r.2 hm) (List.all_eq_true.mp (He.ba c1).2 r.2 hm)
    obtain ⟨oc, od, dV, kV, doc, pm, an, cdv, ct, osl, rfl, lk, hcd, df, _⟩ := F.ex
    have hd : dV = .none := by
      rcases df with ⟨_, z⟩ | ⟨z, _⟩
      · exact z
      · exact absurd (by unfold He.DefD.dvs; rw [q2]; rfl) z
    subst hd
    rw [q1] at lk
    exact ⟨_, _, _, _, _, kV, doc, pm, cdv, ct, oc, an, od, osl, r.1, lk, hcd, plain_by q3, C8.fnScope_by q4, q5, q6⟩
  · cases q
end
end Mini
set_option autoImplicit false
set_option maxHeartbeats 4000000
/-! Mini, twenty-first part: what the look tells; the end of a law. -/
namespace Mini
open PySem PySem.Spec L2
open PyProof.Rows hiding St
section
variable {p : Pg} {ds : List (Option DR)} {K : PySem.W.Frag} {h : Heap} {mg : Str → Option Value}
theorem at_none {g : Nat} (e : (p.at_ g).2.isNone = true) : p.at_ g = (p.nm g, none) := by
  unfold Pg.nm
  cases q : p.at_ g with
  | mk x o =>
    rw [q] at e
    cases o with
    | none => rfl
    | some _ => cases e
theorem ad_top {g : Nat} (e : (p.at_ g).2.isNone = true) : He.fAd K (p.at_ g) = He.ga K (p.nm g) := by rw [at_none e]; rfl
theorem known_of (c : SaysM p ds K) (sd : defsB p ds = true) (st : p.staticB = true) (X : K.In h) (G : h.Ns mainGlobals mg) : Known p.C (p.T K) mg := by
  have c1 : (p.factsB K && (fnsOf ds).all fun d => d.ok K) = true := congrArg (fun z : AlM => z.1) c
  have cf := (He.ba c1).1
  unfold Pg.factsB at cf
  simp only [Bool.and_eq_true] at cf
  obtain ⟨f1, f2, f3, f4, f5, f6, f7⟩ := cf
  have gb : ∀ {g : Nat} {m : MG}, p.Pr g = some m → p.gB K g = true := fun {g m} e => List.all_eq_true.mp f1 g (idx_mem e)
  have sb : ∀ {g : Nat} {m : MG}, p.Pr g = some m → _ := fun {g m} e => List.all_eq_true.mp st g (idx_mem e)
  have fre : ∀ x ∈ bnames, mg x = none := fun x hx => He.free_ok X G (List.all_eq_true.mp f2 x hx)
  have dtop : ∀ {g : Nat} {d : MDef}, p.Pr g = some (.def_ d) → (p.at_ g).2.isNone = true → mg (p.nm g) = some (.ref (He.fAd K (p.at_ g))) := fun {g d} e hn => by
    have q := gb e
    unfold Pg.gB at q
    rw [e] at q
    simp only [Bool.and_eq_true, Bool.or_eq_true] at q
    rcases q.2 with q2 | q2
    · cases z : (p.at_ g).2 with
      | none => rw [z] at q2; cases q2
      | some _ => rw [z] at hn; cases hn
    · rw [ad_top hn]; exact He.glo_ok X G q2
  have dkeep : ∀ {g : Nat} {d : MDef}, p.Pr g = some (.def_ d) → PySem.W.keepIn K (.ref (He.fAd K (p.at_ g))) = true := fun {g d} e => by
    have q := gb e
    unfold Pg.gB at q
    rw [e] at q
    simp only [Bool.and_eq_true] at q
    exact q.1
  have cst : ∀ {g : Nat} {c : MCls}, p.Pr g = some (.cls c) → (p.at_ g).2.isNone = true ∧ p.at_ c.init = (p.nm g, some ("__init__" : Str)) ∧ (∃ d x ps, p.Pr c.init = some (.def_ d) ∧ d.params = x :: ps) ∧
      (∀ e, c.eq = some e → p.at_ e = (p.nm g, some ("__eq__" : Str)) ∧ ∃ d, p.Pr e = some (.def_ d) ∧ d.np = 2) ∧ (∀ e, c.ne = some e → p.at_ e = (p.nm g, some ("__ne__" : Str)) ∧ ∃ d, p.Pr e = some (.def_ d) ∧ d.np = 2) := fun {g c} e => by
    have q := sb e
    rw [e] at q
    simp only [Bool.and_eq_true, decide_eq_true_eq] at q
    obtain ⟨⟨⟨⟨q1, q2⟩, q3⟩, q4⟩, q5⟩ := q
    refine ⟨q1, q2, ?_, fun x hx => ?_, fun x hx => ?_⟩
    · split at q3
      · rename_i d hd
        cases hp : d.params with
        | nil => rw [hp] at q3; cases q3
        | cons x ps => exact ⟨d, x, ps, hd, hp⟩
      · cases q3
    · rw [hx] at q4
      simp only [Bool.and_eq_true, decide_eq_true_eq] at q4
      obtain ⟨r1, r2⟩ := q4
      split at r2
      · rename_i d hd
        exact ⟨r1, d, hd, by simpa using r2⟩
      · cases r2
    · rw [hx] at q5
      simp only [Bool.and_eq_true, decide_eq_true_eq] at q5
      obtain ⟨r1, r2⟩ := q5
      split at r2
      · rename_i d hd
        exact ⟨r1, d, hd, by simpa using r2⟩
      · cases r2
  have cfa : ∀ {g : Nat} {c : MCls}, p.Pr g = some (.cls c) → (He.Fa.glo (p.nm g)).ok K = true ∧ p.clsB K g c = true := fun {g c} e => by
    have q := gb e
    unfold Pg.gB at q
    rw [e] at q
    simp only [Bool.and_eq_true] at q
    exact q
  have cok : ∀ g c, p.Pr g = some (.cls c) → ClsOk (p.T K) g c := fun g c e => by
    obtain ⟨s1, s2, s3, s4, s5⟩ := cst e
    have q := (cfa e).2
    unfold Pg.clsB at q
    simp only [Bool.and_eq_true, decide_eq_true_eq] at q
    obtain ⟨q1, q2, q3, q4, q5, q6, q7, q8⟩ := q
    have ea : (p.T K).G.ad g = He.ga K (p.nm g) := ad_top s1
    have em : ∀ {j : Nat} {m : Str}, p.at_ j = (p.nm g, some m) → (p.T K).G.ad j = He.ma K (He.ga K (p.nm g)) m := fun {j m} z => by
      show He.fAd K (p.at_ j) = _
      rw [z]; rfl
    refine ⟨?_, ?_, fun f hf => ?_, ?_, ?_, fun x hx => ?_, fun x hx => ?_, fun t ht => ?_⟩
    · rw [ea, em s2]; exact He.mkr_ok q1
    · rw [ea]; exact He.cls_ok q2
    · rw [ea]; exact He.noat_ok (List.all_eq_true.mp q3 f hf)
    · rw [ea]; exact He.eqO_ok q4
    · rw [ea]; exact q5
    · rw [hx] at q6
      obtain ⟨m1, m2, m3⟩ := He.meth_ok q6
      rw [ea, em (s4 x hx).1]
      exact ⟨m1, m2⟩
    · rw [hx] at q7
      obtain ⟨m1, m2, m3⟩ := He.meth_ok q7
      rw [ea, em (s5 x hx).1]
      exact ⟨m1, m2⟩
    · rw [ea]
      obtain ⟨b, hb⟩ := Option.isSome_iff_exists.mp ht
      have q9 := List.all_eq_true.mp q8 t (tds_of hb).1
      have ht' : (isTD p.Pr t t).isSome = true := ht
      rw [ht'] at q9
      exact q9
  have xfa : ∀ {g : Nat} {x : MExc}, p.Pr g = some (.exc x) → (He.Fa.glo (p.nm g)).ok K = true ∧ p.excB K g x = true := fun {g x} e => by
    have q := gb e
    unfold Pg.gB at q
    rw [e] at q
    simp only [Bool.and_eq_true] at q
    exact q
  have xst : ∀ {g : Nat} {x : MExc}, p.Pr g = some (.exc x) → (p.at_ g).2.isNone = true ∧ ∀ i, x.init = some i → p.at_ i = (p.nm g, some ("__init__" : Str)) ∧ ∃ d y ps, p.Pr i = some (.def_ d) ∧ d.params = y :: ps := fun {g x} e => by
    have q := sb e
    rw [e] at q
    simp only [Bool.and_eq_true] at q
    refine ⟨q.1, fun i hi => ?_⟩
    have q2 := q.2
    rw [hi] at q2
    simp only [Bool.and_eq_true, decide_eq_true_eq] at q2
    refine ⟨q2.1, ?_⟩
    have q3 := q2.2
    split at q3
    · rename_i d hd
      cases hp : d.params with
      | nil => rw [hp] at q3; cases q3
      | cons y ps => exact ⟨d, y, ps, hd, hp⟩
    · cases q3
  have xok : ∀ g x, p.Pr g = some (.exc x) → ExcOk (p.T K) g x := fun g x e => by
    obtain ⟨s1, s2⟩ := xst e
    have q := (xfa e).2
    unfold Pg.excB at q
    simp only [Bool.and_eq_true, decide_eq_true_eq] at q
    obtain ⟨q1, q2, q3, q4, q5, q6, q7, q8⟩ := q
    have ea : (p.T K).G.ad g = He.ga K (p.nm g) := ad_top s1
    refine ⟨?_, ?_, fun f hf => ?_, ?_, ?_, fun i hi => ?_, fun hi hb => ?_, fun k b hb => ?_⟩
    · rw [ea]; exact oexB_ok q1
    · rw [ea]; exact xfB_ok q2
    · rw [ea]; exact He.eqO_ok (List.all_eq_true.mp q3 f hf)
    · rw [ea]; exact He.eqO_ok q4
    · rw [ea]; exact q5
    · have em : (p.T K).G.ad i = He.ma K (He.ga K (p.nm g)) "__init__" := by
        show He.fAd K (p.at_ i) = _
        rw [(s2 i hi).1]; rfl
      rw [hi] at q6
      simp only [Bool.and_eq_true, decide_eq_true_eq] at q6
      obtain ⟨m1, m2, m3⟩ := He.meth_ok q6.1
      rw [ea, em]
      exact ⟨m1, q6.2⟩
    · rw [ea]
      rw [hi, hb] at q7
      have q7' : vinB K (He.ga K (p.nm g)) = true := by simpa using q7
      exact vinB_ok q7'
    · have hb' : isTD p.Pr (.x g) (.x k) = some b := hb
      have q := List.all_eq_true.mp q8 (.x k) (tds_of hb').2
      rw [hb'] at q
      rw [ea]
      exact of_decide_eq_true q
  refine ⟨rfl, rfl, rfl, fun g hg => ?_, fun hg => ?_, ⟨fun g d e _ => dkeep e, cok, fun g c e => (cst e).2.2.1, xok, fun g x i e hi => ((xst e).2 i hi).2, fun g d e => ?_, fun g c x e hx => ?_, fun g v e => ?_, fre, fun t u b e => ?_, ?_, ?_, ?_⟩, fun g d e => def_at c sd e⟩
  · have hg : p.top g = true := hg
    unfold Pg.top at hg
    simp only [Bool.and_eq_true] at hg
    obtain ⟨g1, g2⟩ := hg
    show mg (p.nm g) = some (.ref (He.fAd K (p.at_ g))) ∧ PySem.W.keepIn K (.ref (He.fAd K (p.at_ g))) = true
    cases e : p.Pr g with
    | none => rw [e] at g2; cases g2
    | some m =>
      rw [e] at g2
      cases m with
      | val v => cases g2
      | def_ d => exact ⟨dtop e g1, dkeep e⟩
      | cls c =>
        rw [ad_top g1]
        refine ⟨He.glo_ok X G (cfa e).1, ?_⟩
        have q := (cfa e).2
        unfold Pg.clsB at q
        simp only [Bool.and_eq_true] at q
        exact (He.mkr_ok q.1).kp
      | exc x =>
        rw [ad_top g1]
        refine ⟨He.glo_ok X G (xfa e).1, ?_⟩
        have q := (xfa e).2
        unfold Pg.excB at q
        simp only [Bool.and_eq_true] at q
        exact (oexB_ok q.1).kC
  · have hg : p.gcd = true := hg
    unfold Pg.gcdB at f5
    rw [hg] at f5
    exact PySem.W.mg_of X G (He.eqO_ok f5)
  · have q := sb e
    rw [show p.Pr g = some (.def_ d) from e] at q
    simpa using q
  · rcases hx with hx | hx
    · exact ((cst e).2.2.2.1 x hx).2
    · exact ((cst e).2.2.2.2 x hx).2
  · have q := gb (show p.Pr g = some (.val v) from e)
    have s := sb (show p.Pr g = some (.val v) from e)
    unfold Pg.gB at q
    rw [show p.Pr g = some (.val v) from e] at q s
    cases v with
    | int i =>
      obtain ⟨t, ht⟩ := He.int_ok X G q
      exact ⟨_, .int i, ht, ⟨t, rfl⟩, fun ρ H => .int i⟩
    | str z =>
      obtain ⟨t, ht⟩ := He.str_ok X G q
      exact ⟨_, .str z, ht, ⟨t, rfl⟩, fun ρ H => .str z⟩
    | _ => simp at s
  · have e : isTD p.Pr t u = some b := e
    obtain ⟨ht, hu⟩ := tds_of e
    have q := List.all_eq_true.mp (List.all_eq_true.mp f3 t ht) u hu
    rw [e] at q
    exact of_decide_eq_true q
  · unfold Pg.sysB at f4
    split at f4
    · rename_i o ho
      split at f4
      · rename_i es n hd
        exact ⟨o, es, n, ho, hd⟩
      · cases f4
    · cases f4
  · exact of_decide_eq_true f6
  · exact of_decide_eq_true f7
end
end Mini
set_option autoImplicit false
set_option maxHeartbeats 4000000
/-! Mini, twenty-second part: the end of a law. -/
namespace Mini
open PySem PySem.Spec L2
open PyProof.Rows hiding St
/-- the heap in which the script is tracked, or nothing -/
def scriptHp (K : PySem.W.Frag) (a : Addr) (o : Obj) (xs : List V) : Hp := fun b => if b = a ∧ K.lookup a = none then some (.frz o (.lst xs)) else none
theorem script_none {K : PySem.W.Frag} {a : Addr} {o : Obj} {xs : List V} {b : Addr} (h : b ≠ a ∨ K.lookup a ≠ none) : scriptHp K a o xs b = none := if_neg fun z => h.elim (fun q => q z.1) fun q => q z.2
theorem law_callG {P : Program} {w : World} {K : PySem.W.Frag} {mg mb : Str → Option Value} {k : Nat} {fa a : Addr} {x : Str} {sp : Sp} {s₁ : Shared} {vs : List Value} {ns : List Int}
    (KX : K.In s₁.heap) (hns : s₁.heap.Ns mainGlobals mg) (hb : s₁.heap.Ns builtinsNs mb) (hbb : ∀ x : Str, x ≠ "__name__" → mb x = bootBuiltins x) (hlim : s₁.heap.NoLimit) (hg : s₁.gens = #[])
    (ha : s₁.heap.get? a = some { cls := .type "list", data := .seq vs.toArray }) (hi : IntsAre vs ns) (hl : ns.length ≤ sizeLine) (hr : Room k callerA)
    (F : ∀ base : Heap, K.In base → base.Ns mainGlobals mg → ∃ fd, FnG P w K mg base k fa fd [x] sp ∧ ∀ (s : Shared) (u : Value), BindsTo s fd ⟨[u], []⟩ [(x, u)])
    (hsp : ∀ H : Hp, Only H → SqL K H a (ns.map V.int) → sp [.ref a] H (fun v _ => v = .bl true) fun _ _ _ => False) :
    codeAny (model P w) callerA (.call (.ref fa) ⟨[.ref a], []⟩) (fun r s' => r = .ok (.ret (.bool true)) ∧ OldK s₁.heap s'.heap ∧ s'.os = s₁.os ∧ AllBare s'.gens) s₁ := by
  have rv := vals_ints hi
  have lenV := hi.length
  generalize hO : ({ cls := .type "list", data := .seq vs.toArray } : Obj) = o at ha
  generalize hH : scriptHp K a o (ns.map V.int) = H
  have off : ∀ {b : Addr} {ob : Obj} {es : Array DictEntry} {ep : Nat}, s₁.heap.get? b = some ob → ob.data = .dict es ep → H b = none := fun {b ob es ep} e d => by
    rw [← hH]
    refine script_none (.inl fun z => ?_)
    subst z
    rw [ha] at e
    cases e
    rw [← hO] at d
    cases d
  have nsK : ∀ {b : Addr} {m : Str → Option Value}, s₁.heap.Ns b m → (hidT s₁.heap H).Ns b m := fun {b m} ⟨ob, es, ep, e, d, r⟩ => ⟨ob, es, ep, hidT_get e (off e d), d, r⟩
  have inK : K.In (hidT s₁.heap H) := fun b ob e => hidT_get (KX b ob e) (by
    rw [← hH]
    by_cases z : b = a
    · subst z; exact script_none (.inr (by rw [e]; simp))
    · exact script_none (.inl z))
  have is : ∀ {b : Addr} {u : HO}, H b = some u → b = a ∧ u = .frz o (.lst (ns.map V.int)) := fun {b u} z => by
    rw [← hH] at z
    unfold scriptHp at z
    split at z
    · rename_i c; cases z; exact ⟨c.1, rfl⟩
    · cases z
  have ok : HOk P w H s₁.heap := fun b u z => by
    obtain ⟨rfl, rfl⟩ := is z
    exact ⟨ha, by rw [List.length_map]; exact hl, vs, _, rv, ha.trans (congrArg some hO.symm)⟩
  have sq : SqL K H a (ns.map V.int) := by
    cases e : K.lookup a with
    | none => exact .inl (.inr ⟨o, by rw [← hH]; exact if_pos ⟨rfl, e⟩⟩)
    | some ob =>
      have e2 := KX a ob e
      rw [ha] at e2
      cases e2
      exact .inr ⟨_, vs.toArray, _, e, by rw [← hO], by rw [← hO], by rw [← hO], by rw [List.size_toArray, lenV]; exact hl, by simpa using rv⟩
  have on : Only H := fun b => by
    cases z : H b with
    | none => exact .inl rfl
    | some u => exact .inr ⟨o, _, congrArg some (is z).2⟩
  have hM : Mod K mg (hidT s₁.heap H) := ⟨inK, nsK hns, ⟨mb, nsK hb, hbb⟩, let ⟨mc, h1, h2⟩ := hlim; ⟨mc, nsK h1, h2⟩⟩
  have e0 : Env0 P w K mg (hidT s₁.heap H) callerA [] s₁ H := ⟨rfl, hM, fun b o e => of_hidT e, Nat.le_of_eq (hidT_size _ _), trivial, fun b hb => absurd (show b ∈ ([] : List Addr) from hb) (by simp), ok, .of_eq hg⟩
  obtain ⟨fd, Fg, hbind⟩ := F _ inK (nsK hns)
  refine codeAny_mono (Fg.run callerA [] s₁ H ⟨[.ref a], []⟩ [.ref a] [.ref a] _ _ rfl hr e0 (hbind s₁ (.ref a)) (.cons rfl .nil) (hsp H on sq)) fun r s' q => ?_
  cases r with
  | error e =>
    obtain ⟨_, _, _, _, _, _, _, _, _, _, _, _, z⟩ := (show L2.CX P w [] H s₁ (fun _ _ _ => False) e s' from q)
    exact z.elim
  | ok fl =>
    cases fl with
    | next => exact False.elim q
    | brk => exact False.elim q
    | cont => exact False.elim q
    | ret u =>
      obtain ⟨v, H', os, bare, un, hok', r', z⟩ := q
      obtain rfl : v = .bl true := z
      obtain rfl : u = Value.bool true := r'
      refine ⟨rfl, OldK.of_keep fun b ob e => ?_, os, bare⟩
      cases hq : H b with
      | none => exact un.keep b ob e hq (by intro z; exact absurd (show b ∈ ([] : List Addr) from z) (by simp)) (by simp)
      | some u =>
        obtain ⟨rfl, rfl⟩ := is hq
        have z2 := un.frzs b o _ hq
        obtain ⟨e1, _⟩ := hok' b _ z2
        rw [ha] at e
        cases e
        exact e1
theorem rs_script {G : Gr} {H : Hp} {a : Addr} {ns : List Int} (on : Only H) (sq : SqL G.K H a (ns.map V.int)) : RH G [a] [.rls (ns.map .int)] H ∧ RVs G [a] H [.ref 0] [.ref a] := by
  have rr : ∀ l : List Int, RVs G [a] H (l.map AV.int) (l.map V.int) := fun l => by
    induction l with
    | nil => exact .nil
    | cons n ns ih => exact .cons (.int n) ih
  have mk : RO G [a] H (.rls (ns.map .int)) a → RH G [a] [.rls (ns.map .int)] H := fun ro => by
    refine ⟨rfl, fun k o b h1 h2 => ?_, fun j k o u b h1 h2 m1 m2 _ _ => ?_⟩
    · cases k with
      | zero => simp at h1 h2; subst h1 h2; exact ro
      | succ k => simp at h1
    · cases j with
      | zero => simp at h1; subst h1; cases m1
      | succ j => simp at h1
  rcases sq with (z | ⟨o, z⟩) | ⟨o, its, n, e1, e2, e3, e4, e5, e6⟩
  · rcases on a with y | ⟨o, xs, y⟩
    · rw [z] at y; cases y
    · rw [z] at y; cases y
  · exact ⟨mk (.frz z (rr _)), .cons (.ref rfl) .nil⟩
  · exact ⟨mk (.kls ⟨o, its, n, e1, e2, e3, e4, e5, e6⟩ (rr _)), .cons (.ref rfl) .nil⟩
/-- the end: the law's promise from its run in the small syntax -/
theorem walk_mini {l : PySem.W.OpenLaw} {n m fu gl : Nat} {q : Program} {loose : List Str} {XP : (Str → Option Value) → Heap → Prop} {d : DefRec} {p : Pg} {ds : List (Option DR)} {md : MDef} {x : Str}
    (hn : l.most = some n) (hn2 : n ≤ sizeLine) (hdf : d.params.defaults = []) (hr : Room (2 * fu) callerA) (sd : defsB p ds = true) (st : p.staticB = true)
    (hg : p.Pr gl = some (.def_ md)) (hat : p.at_ gl = (d.name, none)) (hps : md.params = [x])
    (law : ∀ ns : List Int, ns.length ≤ n → (∀ k ∈ ns, Builtin.Int.intBits k ≤ 1048576) → ∃ h', calA p.Pr fu gl [.ref 0] [.rls (ns.map .int)] = .ok (.bl true) h') :
    PySem.W.WalkO q loose XP (hookM m p ds).says l.row.toRowW d [] (fun f vs => PySem.call f vs) := by
  refine Att.attach_callB hn hdf fun w s₀ s₁ mg mb fa o pm cd doc a vs ns Gr Y ho hd hcd hmg hobj hints hlen hbits hgens => ?_
  obtain ⟨K, KX, c⟩ := Y
  have top : p.top gl = true := by
    unfold Pg.top
    rw [hat, hg]; rfl
  have kn : Known p.C (p.T K) mg := known_of c sd st KX Gr.T.g
  have e1 := (kn.top gl top).1
  have e2 : mg d.name = some (.ref (He.fAd K (p.at_ gl))) := by
    have e3 : p.C.nm gl = d.name := by show (p.at_ gl).1 = _; rw [hat]
    rw [← e3]; exact e1
  have efa : fa = (p.T K).G.ad gl := by
    rw [hmg] at e2
    cases e2
    rfl
  subst efa
  have np : 1 = md.np := by rw [← kn.ok.np gl md hg, hps]; rfl
  obtain ⟨h', hl⟩ := law ns hlen hbits
  refine law_callG (x := x) (sp := spC (p.gr K) (calA p.Pr fu) gl md.np) KX Gr.T.g Gr.T.b Gr.T.builtins Gr.T.nolimit hgens hobj hints (Nat.le_trans hlen hn2) hr (fun base hK hG => ?_) fun H on sq => ?_
  · obtain ⟨fd, F, hb⟩ := (tab_all (P := l.prog) (w := w) (base := base) kn fu).fn gl md hg
    rw [hps] at F hb
    exact ⟨fd, F, fun s u => .of_eq (hb [u] [] [] [u] (bindK_nil rfl) rfl)⟩
  · obtain ⟨rh, rr⟩ := rs_script (G := p.gr K) on sq
    refine ⟨np, [a], [.ref 0], _, rr, rh, ?_⟩
    rw [hl]
    exact fun ρ' H' e rh' v rv => rv.bl_inv
end Mini
set_option autoImplicit false
set_option maxHeartbeats 4000000
/-! The pen of the laws: its making, its draws, for any program that holds its defs. -/
namespace Mini
open PySem L2
/-! ### heaps that grow -/
def Pre (h h' : AH) : Prop := ∃ l, h' = h ++ l
theorem Pre.refl (h : AH) : Pre h h := ⟨[], by simp⟩
theorem Pre.trans {a b c : AH} (x : Pre a b) (y : Pre b c) : Pre a c := by
  obtain ⟨l, rfl⟩ := x
  obtain ⟨m, rfl⟩ := y
  exact ⟨l ++ m, by simp⟩
theorem Pre.app (h l : AH) : Pre h (h ++ l) := ⟨l, rfl⟩
theorem Pre.get {h h' : AH} {k : Nat} {o : AO} (p : Pre h h') (e : h[k]? = some o) : h'[k]? = some o := by
  obtain ⟨l, rfl⟩ := p
  have hk : k < h.length := (List.getElem?_eq_some_iff.mp e).1
  rw [List.getElem?_append_left hk]; exact e
theorem Pre.len {h h' : AH} (p : Pre h h') : h.length ≤ h'.length := by
  obtain ⟨l, rfl⟩ := p
  simp
theorem get_new (h : AH) (o : AO) : (h ++ [o])[h.length]? = some o := by simp
theorem set_new (h : AH) (o u : AO) : (h ++ [o]).set h.length u = h ++ [u] := by rw [List.set_append_right _ _ (Nat.le_refl _)]; simp
theorem set_same {h : AH} {k : Nat} {o : AO} (e : h[k]? = some o) : h.set k o = h := by
  refine List.ext_getElem? fun j => ?_
  by_cases q : k = j
  · subst q
    rw [List.getElem?_set_self (List.getElem?_eq_some_iff.mp e).1, e]
  · rw [List.getElem?_set_ne q]
theorem lt_of {h : AH} {k : Nat} {o : AO} (e : h[k]? = some o) : k < h.length := (List.getElem?_eq_some_iff.mp e).1
theorem seq_lst {h : AH} {k : Nat} {xs : List AV} (z : h[k]? = some (.lst xs)) : seqOf h (.ref k) = some xs := by unfold seqOf; dsimp only; rw [z]
def fin : RS → R AV
  | .nx _ h => .ok .non h
  | .rt v h => .ok v h
  | .exc c fs _ h => .exc c fs h
  | _ => .bad
theorem calA_def {P : Prog} {g n : Nat} {d : MDef} {vs : List AV} {h : AH} (e : P g = some (.def_ d)) (l : vs.length = d.np) : calA P (n + 1) g vs h = fin (evSs P (calA P n) d.body (vs.map some ++ List.replicate (d.ns - d.np) none) h) := by
  unfold calA
  rw [e]
  dsimp only
  rw [if_pos l]
  unfold fin
  cases evSs P (calA P n) d.body (vs.map some ++ List.replicate (d.ns - d.np) none) h <;> rfl
theorem callP_def {P : Prog} {cal : Nat → List AV → AH → R AV} {g : Nat} {d : MDef} {vs : List AV} {h : AH} (e : P g = some (.def_ d)) (l : vs.length = d.params.length) : callP P cal g vs h = cal g vs h := by
  unfold callP paramsOf callG
  rw [e]
  dsimp only
  rw [if_pos l]
theorem bind_ok {α β : Type} {a : α} {h : AH} {f : α → AH → R β} : R.bind (.ok a h) f = f a h := rfl
theorem stm_ok {α : Type} {a : α} {h : AH} {σ : Sg} {f : α → AH → RS} : R.stm (.ok a h) σ f = f a h := rfl
theorem of_some {α : Type} {a : α} {h : AH} : R.of (some (a, h)) = .ok a h := rfl
theorem of_map {α : Type} {b : Bool} {h : AH} : R.of (Option.map (fun b => (AV.bl b, h)) (some b)) = .ok (.bl b) h := rfl
theorem kSeq_nx {f : Sg → AH → RS} {σ : Sg} {h : AH} : kSeqS f (.nx σ h) = f σ h := rfl
theorem kSeq_rt {f : Sg → AH → RS} {v : AV} {h : AH} : kSeqS f (.rt v h) = .rt v h := rfl
theorem kIf_t {f g : AH → RS} {h : AH} : kIf f g (.bl true) h = f h := rfl
theorem kIf_f {f g : AH → RS} {h : AH} : kIf f g (.bl false) h = g h := rfl
theorem kAnd_t {f : AH → R AV} {h : AH} : kAnd f (.bl true) h = f h := rfl
theorem kAnd_f {f : AH → R AV} {h : AH} : kAnd f (.bl false) h = .ok (.bl false) h := rfl
theorem kOr_t {f : AH → R AV} {h : AH} : kOr f (.bl true) h = .ok (.bl true) h := rfl
theorem kOr_f {f : AH → R AV} {h : AH} : kOr f (.bl false) h = f h := rfl
theorem kNot_b {b : Bool} {h : AH} : kNot (.bl b) h = .ok (.bl (!b)) h := rfl
theorem kTup1 {a0 : AV} {h : AH} : kTup [a0] h = .ok (.tup [a0]) h := if_pos (by show 1 ≤ sizeLine; decide)
theorem kTup2 {a0 a1 : AV} {h : AH} : kTup [a0, a1] h = .ok (.tup [a0, a1]) h := if_pos (by show 2 ≤ sizeLine; decide)
theorem kTup3 {a0 a1 a2 : AV} {h : AH} : kTup [a0, a1, a2] h = .ok (.tup [a0, a1, a2]) h := if_pos (by show 3 ≤ sizeLine; decide)
theorem kTup4 {a0 a1 a2 a3 : AV} {h : AH} : kTup [a0, a1, a2, a3] h = .ok (.tup [a0, a1, a2, a3]) h := if_pos (by show 4 ≤ sizeLine; decide)
theorem kTup5 {a0 a1 a2 a3 a4 : AV} {h : AH} : kTup [a0, a1, a2, a3, a4] h = .ok (.tup [a0, a1, a2, a3, a4]) h := if_pos (by show 5 ≤ sizeLine; decide)
theorem kTup6 {a0 a1 a2 a3 a4 a5 : AV} {h : AH} : kTup [a0, a1, a2, a3, a4, a5] h = .ok (.tup [a0, a1, a2, a3, a4, a5]) h := if_pos (by show 6 ≤ sizeLine; decide)
theorem fin_of {f : Sg → AH → RS} {σ : Sg} {r : O AV} : fin (kSeqS f ((R.of r).stm σ fun v h => .rt v h)) = R.of r := by
  cases r with
  | none => rfl
  | some p => rfl
theorem fin_rt {v : AV} {h : AH} : fin (.rt v h) = .ok v h := rfl
theorem ss_nx {P : Prog} {cal : Nat → List AV → AH → R AV} {s : MS} {r : MSs} {σ σ' : Sg} {h h' : AH} (e : evS P cal s σ h = .nx σ' h') : evSs P cal (.cons s r) σ h = evSs P cal r σ' h' := by
  rw [evSs, e]; rfl
theorem ss_rt {P : Prog} {cal : Nat → List AV → AH → R AV} {s : MS} {r : MSs} {σ : Sg} {v : AV} {h h' : AH} (e : evS P cal s σ h = .rt v h') : evSs P cal (.cons s r) σ h = .rt v h' := by
  rw [evSs, e]; rfl
theorem small {n : Nat} (h : n ≤ 1000) : n ≤ sizeLine := Nat.le_trans h (by decide)
section
variable {P : Prog}
theorem set_run {cal : Nat → List AV → AH → R AV} {i : Nat} {e : ME} {σ : Sg} {h h' : AH} {v : AV} (a : evE P cal e σ h = .ok v h') : evS P cal (.set i e) σ h = .nx (σ.set i (some v)) h' := by
  simp only [evS, a, stm_ok]
/-! ### the pen -/
def penL (kc : Nat) (t dg ct fo : Int) : List (Str × AV) := [("cells", .ref kc), ("at", .int t), ("digits", .int dg), ("count", .int ct), ("fold", .int fo)]
theorem lk1 {kc : Nat} {t dg ct fo : Int} : (penL kc t dg ct fo).lookup ("cells" : Str) = some (AV.ref kc) := rfl
theorem lk2 {kc : Nat} {t dg ct fo : Int} : (penL kc t dg ct fo).lookup ("at" : Str) = some (AV.int t) := rfl
theorem lk3 {kc : Nat} {t dg ct fo : Int} : (penL kc t dg ct fo).lookup ("digits" : Str) = some (AV.int dg) := rfl
theorem lk4 {kc : Nat} {t dg ct fo : Int} : (penL kc t dg ct fo).lookup ("count" : Str) = some (AV.int ct) := rfl
theorem lk5 {kc : Nat} {t dg ct fo : Int} : (penL kc t dg ct fo).lookup ("fold" : Str) = some (AV.int fo) := rfl
theorem pu2 {kc : Nat} {t dg ct fo v : Int} : putA (penL kc t dg ct fo) "at" (.int v) = penL kc v dg ct fo := rfl
theorem pu3 {kc : Nat} {t dg ct fo v : Int} : putA (penL kc t dg ct fo) "digits" (.int v) = penL kc t v ct fo := rfl
theorem pu4 {kc : Nat} {t dg ct fo v : Int} : putA (penL kc t dg ct fo) "count" (.int v) = penL kc t dg v fo := rfl
theorem pu5 {kc : Nat} {t dg ct fo v : Int} : putA (penL kc t dg ct fo) "fold" (.int v) = penL kc t dg ct v := rfl
theorem pln {kc : Nat} {t dg ct fo : Int} : (penL kc t dg ct fo).length = 5 := rfl
structure PenOk (m : Nat) (h : AH) (kp kc : Nat) (t dg ct fo : Int) (xs : List Int) : Prop where
  pen : h[kp]? = some (.dct (penL kc t dg ct fo))
  cells : h[kc]? = some (.lst (xs.map .int))
  t0 : 0 ≤ t
  c0 : 0 ≤ ct
  c1 : ct ≤ m
  f0 : 0 ≤ fo
  f1 : fo < 2147483059
theorem pen_ne {h : AH} {kp kc : Nat} {a : List (Str × AV)} {b : List AV} (x : h[kp]? = some (.dct a)) (y : h[kc]? = some (.lst b)) : kp ≠ kc := fun q => by subst q; rw [x] at y; cases y
theorem mul_ok {i j : Int} (hi : i.natAbs < 2 ^ 64) (hj : j.natAbs < 2 ^ 64) : mulOk i j = true := by
  unfold mulOk
  refine decide_eq_true ?_
  have a : i.natAbs.log2 < 64 := by
    by_cases z : i.natAbs = 0
    · rw [z]; decide
    · exact (Nat.log2_lt z).mpr hi
  have b : j.natAbs.log2 < 64 := by
    by_cases z : j.natAbs = 0
    · rw [z]; decide
    · exact (Nat.log2_lt z).mpr hj
  omega
theorem getE {cal : Nat → List AV → AH → R AV} {σ : Sg} {h : AH} {kp kc : Nat} {t dg ct fo : Int} {z : Str} {v : AV} (v0 : getS σ 0 = some (.ref kp)) (p : h[kp]? = some (.dct (penL kc t dg ct fo))) (l : (penL kc t dg ct fo).lookup z = some v) :
    evE P cal (.idx (.var 0) (.str z)) σ h = .ok v h := by
  simp only [evE, v0, bind_ok, idxA, idxD, p, l, Option.map_some, of_some]
theorem putE {cal : Nat → List AV → AH → R AV} {σ : Sg} {h : AH} {kp kc : Nat} {t dg ct fo : Int} {z : Str} {e : ME} {v : AV} (v0 : getS σ 0 = some (.ref kp)) (p : h[kp]? = some (.dct (penL kc t dg ct fo))) (a : evE P cal e σ h = .ok v h) :
    evS P cal (.setI (.var 0) (.str z) e) σ h = .nx σ (h.set kp (.dct (putA (penL kc t dg ct fo) z v))) := by
  simp only [evS, evE, a, v0, stm_ok, setIA, p, pln]
  rfl
theorem opE {cal : Nat → List AV → AH → R AV} {σ : Sg} {h : AH} {a b : ME} {i j k : Int} {o : Bop} (x : evE P cal a σ h = .ok (.int i) h) (y : evE P cal b σ h = .ok (.int j) h) (z : bopI o i j = some k) : evE P cal (.bop o a b) σ h = .ok (.int k) h := by
  simp only [evE, x, y, bind_ok, bopA, z, Option.map_some, of_some]
theorem cmE {cal : Nat → List AV → AH → R AV} {σ : Sg} {h : AH} {a b : ME} {i j : Int} {k : Bool} {o : Cop} (x : evE P cal a σ h = .ok (.int i) h) (y : evE P cal b σ h = .ok (.int j) h) (z : cmpI o i j = some k) : evE P cal (.cmp o a b) σ h = .ok (.bl k) h := by
  simp only [evE, x, y, bind_ok, cmpA, z, Option.map_some, of_some]
theorem inE {cal : Nat → List AV → AH → R AV} {σ : Sg} {h : AH} {i : Int} : evE P cal (.int i) σ h = .ok (.int i) h := by simp only [evE]
theorem vaE {cal : Nat → List AV → AH → R AV} {σ : Sg} {h : AH} {i : Nat} {v : AV} (e : getS σ i = some v) : evE P cal (.var i) σ h = .ok v h := by simp only [evE, e]
theorem iiE {cal : Nat → List AV → AH → R AV} {σ : Sg} {h : AH} {a : ME} {i : Int} (x : evE P cal a σ h = .ok (.int i) h) : evE P cal (.bi .int (.cons a .nil)) σ h = .ok (.int i) h := by
  simp only [evE, evEs, x, bind_ok, biA, biInt, of_some]
theorem if_t {cal : Nat → List AV → AH → R AV} {σ : Sg} {h h' : AH} {c : ME} {a b : MSs} (e : evE P cal c σ h = .ok (.bl true) h') : evS P cal (.if_ c a b) σ h = evSs P cal a σ h' := by
  rw [evS, e]; rfl
theorem if_f {cal : Nat → List AV → AH → R AV} {σ : Sg} {h h' : AH} {c : ME} {a : MSs} (e : evE P cal c σ h = .ok (.bl false) h') : evS P cal (.if_ c a .nil) σ h = .nx σ h' := by
  rw [evS, e]
  show evSs P cal .nil σ h' = _
  rw [evSs]
theorem if_e {cal : Nat → List AV → AH → R AV} {σ : Sg} {h h' : AH} {c : ME} {a b : MSs} (e : evE P cal c σ h = .ok (.bl false) h') : evS P cal (.if_ c a b) σ h = evSs P cal b σ h' := by
  rw [evS, e]; rfl
theorem ret_run {cal : Nat → List AV → AH → R AV} {σ : Sg} {h h' : AH} {e : ME} {v : AV} (a : evE P cal e σ h = .ok v h') : evS P cal (.ret e) σ h = .rt v h' := by
  rw [evS, a]; rfl
/-- a draw's last part: the pen's count told, no cell is waiting or one was taken -/
def drawC : MSs := (.cons (.if_ (.cmp .gt (.idx (.var 0) (.str "digits")) (.int 0)) (.cons (.set 3 (.bop .mod (.bi .int (.cons (.idx (.var 0) (.str "digits")) .nil)) (.var 1)))
    (.cons (.setI (.var 0) (.str "digits") (.bop .fdiv (.idx (.var 0) (.str "digits")) (.var 1)))
    (.cons (.ret (.var 3))
    .nil))) .nil)
    (.cons (.set 4 (.bop .add (.bop .add (.idx (.var 0) (.str "fold")) (.bop .mul (.idx (.var 0) (.str "count")) (.int 4903))) (.int 167)))
    (.cons (.ret (.bop .mod (.bop .fdiv (.bi .int (.cons (.bop .mod (.bop .pow (.var 4) (.int 59)) (.int 2305843009213693951)) .nil)) (.int 128)) (.var 1)))
    .nil)))
theorem fmod_in {i j : Int} (h : 0 < j) : 0 ≤ i.fmod j ∧ i.fmod j < j := ⟨Int.fmod_nonneg_of_pos _ h, Int.fmod_lt_of_pos _ h⟩
theorem drawC_run {cal : Nat → List AV → AH → R AV} {m : Nat} {h : AH} {kp kc : Nat} {t dg ct fo many : Int} {xs : List Int} {s2 s3 s4 : Option AV} (x : PenOk m h kp kc t dg ct fo xs) (hm : m ≤ 1000) (h0 : 0 < many) (h1 : many ≤ 1000) :
    ∃ r dg', fin (evSs P cal drawC [some (.ref kp), some (.int many), s2, s3, s4] h) = .ok (.int r) (h.set kp (.dct (penL kc t dg' ct fo))) ∧ 0 ≤ r ∧ r < many := by
  have hp := x.pen
  have hmn : decide (many ≠ 0) = true := decide_eq_true (by omega)
  have many_log : decide (many.natAbs.log2 < 9000) = true := decide_eq_true (by
    have : many.natAbs < 2 ^ 64 := by omega
    by_cases z : many.natAbs = 0
    · rw [z]; decide
    · have := (Nat.log2_lt z).mpr this; omega)
  unfold drawC
  by_cases hd : 0 < dg
  · refine ⟨dg.fmod many, dg.fdiv many, ?_, (fmod_in h0).1, (fmod_in h0).2⟩
    have e1 : evE P cal (.cmp .gt (.idx (.var 0) (.str "digits")) (.int 0)) [some (.ref kp), some (.int many), s2, s3, s4] h = .ok (.bl true) h := cmE (getE rfl hp lk3) inE (by simp [cmpI, hd])
    have e2 : evE P cal (.bop .mod (.bi .int (.cons (.idx (.var 0) (.str "digits")) .nil)) (.var 1)) [some (.ref kp), some (.int many), s2, s3, s4] h = .ok (.int (dg.fmod many)) h := opE (iiE (getE rfl hp lk3)) (vaE rfl) (by simp only [bopI, hmn, if_true])
    have e3 : evE P cal (.bop .fdiv (.idx (.var 0) (.str "digits")) (.var 1)) [some (.ref kp), some (.int many), s2, some (.int (dg.fmod many)), s4] h = .ok (.int (dg.fdiv many)) h := opE (getE rfl hp lk3) (vaE rfl) (by simp only [bopI, hmn, many_log, Bool.and_self, if_true])
    have e4 := putE (P := P) (cal := cal) (z := "digits") (σ := [some (.ref kp), some (.int many), s2, some (.int (dg.fmod many)), s4]) rfl hp e3
    have e5 : evS P cal (.if_ (.cmp .gt (.idx (.var 0) (.str "digits")) (.int 0)) (.cons (.set 3 (.bop .mod (.bi .int (.cons (.idx (.var 0) (.str "digits")) .nil)) (.var 1))) (.cons (.setI (.var 0) (.str "digits") (.bop .fdiv (.idx (.var 0) (.str "digits")) (.var 1))) (.cons (.ret (.var 3)) .nil))) .nil)
        [some (.ref kp), some (.int many), s2, s3, s4] h = .rt (.int (dg.fmod many)) (h.set kp (.dct (penL kc t (dg.fdiv many) ct fo))) := by
      rw [if_t e1, ss_nx (set_run e2)]
      simp only [List.set_cons_zero, List.set_cons_succ]
      rw [ss_nx e4, pu3]
      exact ss_rt (ret_run (vaE rfl))
    rw [ss_rt e5]
    rfl
  · refine ⟨((((fo + ct * 4903 + 167) ^ 59).fmod 2305843009213693951).fdiv 128).fmod many, dg, ?_, (fmod_in h0).1, (fmod_in h0).2⟩
    have e1 : evE P cal (.cmp .gt (.idx (.var 0) (.str "digits")) (.int 0)) [some (.ref kp), some (.int many), s2, s3, s4] h = .ok (.bl false) h := cmE (getE rfl hp lk3) inE (by simp [cmpI]; omega)
    have c0 := x.c0
    have c1 := x.c1
    have f0 := x.f0
    have f1 := x.f1
    have e2 : evE P cal (.bop .add (.bop .add (.idx (.var 0) (.str "fold")) (.bop .mul (.idx (.var 0) (.str "count")) (.int 4903))) (.int 167)) [some (.ref kp), some (.int many), s2, s3, s4] h = .ok (.int (fo + ct * 4903 + 167)) h :=
      opE (opE (getE rfl hp lk5) (opE (getE rfl hp lk4) inE (by simp only [bopI, mul_ok (i := ct) (j := 4903) (by omega) (by decide), if_true])) rfl) inE rfl
    have e3 : evE P cal (.bop .mod (.bop .fdiv (.bi .int (.cons (.bop .mod (.bop .pow (.var 4) (.int 59)) (.int 2305843009213693951)) .nil)) (.int 128)) (.var 1)) [some (.ref kp), some (.int many), s2, s3, some (.int (fo + ct * 4903 + 167))] h = .ok (.int (((((fo + ct * 4903 + 167) ^ 59).fmod 2305843009213693951).fdiv 128).fmod many)) h := by
      have hB : decide ((fo + ct * 4903 + 167).natAbs < 2 ^ 64) = true := decide_eq_true (by omega)
      generalize fo + ct * 4903 + 167 = B at hB
      have f1 : evE P cal (.bop .pow (.var 4) (.int 59)) [some (.ref kp), some (.int many), s2, s3, some (.int B)] h = .ok (.int (B ^ 59)) h := opE (i := B) (j := 59) (vaE rfl) inE (by
        unfold bopI
        dsimp only
        rw [if_pos (by rw [hB]; rfl)]
        rfl)
      have f2 : evE P cal (.bop .mod (.bop .pow (.var 4) (.int 59)) (.int 2305843009213693951)) [some (.ref kp), some (.int many), s2, s3, some (.int B)] h = .ok (.int ((B ^ 59).fmod 2305843009213693951)) h := opE f1 inE rfl
      have f3 : evE P cal (.bop .fdiv (.bi .int (.cons (.bop .mod (.bop .pow (.var 4) (.int 59)) (.int 2305843009213693951)) .nil)) (.int 128)) [some (.ref kp), some (.int many), s2, s3, some (.int B)] h = .ok (.int (((B ^ 59).fmod 2305843009213693951).fdiv 128)) h := opE (iiE f2) inE (by
        unfold bopI
        dsimp only
        rw [if_pos (by decide)])
      exact opE f3 (vaE rfl) (by simp only [bopI, hmn, if_true])
    rw [ss_nx (if_f e1), ss_nx (set_run e2)]
    simp only [List.set_cons_zero, List.set_cons_succ]
    rw [ss_rt (ret_run e3), set_same hp]
    rfl
theorem PenOk.mk2 {m : Nat} {h : AH} {kp kc : Nat} {t dg ct fo t' dg' ct' fo' : Int} {xs : List Int} (x : PenOk m h kp kc t dg ct fo xs) {m' : Nat} (a : 0 ≤ t') (b : 0 ≤ ct') (c : ct' ≤ m') (d : 0 ≤ fo') (e : fo' < 2147483059) : PenOk m' (h.set kp (.dct (penL kc t' dg' ct' fo'))) kp kc t' dg' ct' fo' xs :=
  ⟨List.getElem?_set_self (lt_of x.pen), by rw [List.getElem?_set_ne (pen_ne x.pen x.cells)]; exact x.cells, a, b, c, d, e⟩
def drawB : MSs := (.cons (.set 2 (.idx (.idx (.var 0) (.str "cells")) (.idx (.var 0) (.str "at"))))
    (.cons (.setI (.var 0) (.str "at") (.bop .add (.idx (.var 0) (.str "at")) (.int 1)))
    (.cons (.if_ (.cmp .ge (.var 2) (.bop .pow (.int 10) (.int 18))) (.cons (.setI (.var 0) (.str "digits") (.bop .sub (.var 2) (.bop .pow (.int 10) (.int 18))))
    .nil) (.cons (.setI (.var 0) (.str "fold") (.bop .mod (.bi .int (.cons (.bop .add (.bop .mul (.idx (.var 0) (.str "fold")) (.int 23003)) (.var 2)) .nil)) (.int 2147483059)))
    .nil))
    .nil)))
theorem powE {cal : Nat → List AV → AH → R AV} {σ : Sg} {h : AH} : evE P cal (.bop .pow (.int 10) (.int 18)) σ h = .ok (.int 1000000000000000000) h := opE inE inE (by decide)
theorem drawB_run {cal : Nat → List AV → AH → R AV} {m : Nat} {h : AH} {kp kc : Nat} {t dg ct fo : Int} {xs : List Int} {many : Int} (x : PenOk m h kp kc t dg ct fo xs) (ht : t < xs.length) :
    ∃ s2 t' dg' fo', evSs P cal drawB [some (.ref kp), some (.int many), none, none, none] h = .nx [some (.ref kp), some (.int many), s2, none, none] (h.set kp (.dct (penL kc t' dg' ct fo'))) ∧ 0 ≤ t' ∧ 0 ≤ fo' ∧ fo' < 2147483059 := by
  have hp := x.pen
  have t0 := x.t0
  have htn : t.toNat < xs.length := by omega
  have eat : atI (xs.map AV.int) t = some (.int xs[t.toNat]) := by
    have e : ixN (xs.map AV.int).length t = some t.toNat := by
      unfold ixN
      rw [List.length_map]
      rw [if_pos t0, if_pos ht]
    unfold atI
    rw [e]
    simp [List.getElem?_eq_getElem htn]
  generalize xs[t.toNat] = cell at eat
  have e1 : evE P cal (.idx (.idx (.var 0) (.str "cells")) (.idx (.var 0) (.str "at"))) [some (.ref kp), some (.int many), none, none, none] h = .ok (.int cell) h := by
    have g1 := getE (P := P) (cal := cal) (σ := [some (.ref kp), some (.int many), none, none, none]) rfl hp lk1
    have g2 := getE (P := P) (cal := cal) (σ := [some (.ref kp), some (.int many), none, none, none]) rfl hp lk2
    rw [evE, g1]
    show ((evE P cal (.idx (.var 0) (.str "at")) _ h).bind fun y h2 => R.of (idxA (.ref kc) y h2)) = _
    rw [g2]
    show R.of (idxS (.ref kc) t h) = _
    unfold idxS
    rw [seq_lst x.cells]
    dsimp only
    rw [eat]; rfl
  have e2 : evE P cal (.bop .add (.idx (.var 0) (.str "at")) (.int 1)) [some (.ref kp), some (.int many), some (.int cell), none, none] h = .ok (.int (t + 1)) h := opE (getE rfl hp lk2) inE rfl
  have p2 := putE (P := P) (cal := cal) (z := "at") (σ := [some (.ref kp), some (.int many), some (.int cell), none, none]) rfl hp e2
  rw [pu2] at p2
  have x2 := x.mk2 (m' := m) (t' := t + 1) (dg' := dg) (ct' := ct) (fo' := fo) (by omega) x.c0 x.c1 x.f0 x.f1
  unfold drawB
  rw [ss_nx (set_run e1)]
  simp only [List.set_cons_zero, List.set_cons_succ]
  rw [ss_nx p2]
  generalize hH : h.set kp (.dct (penL kc (t + 1) dg ct fo)) = H at x2
  have fin2 : ∀ o : AO, H.set kp o = h.set kp o := fun o => by rw [← hH, List.set_set]
  by_cases hc : cell ≥ 1000000000000000000
  · refine ⟨some (.int cell), t + 1, cell - 1000000000000000000, fo, ?_, by omega, x.f0, x.f1⟩
    have e3 : evE P cal (.cmp .ge (.var 2) (.bop .pow (.int 10) (.int 18))) [some (.ref kp), some (.int many), some (.int cell), none, none] H = .ok (.bl true) H := cmE (vaE rfl) powE (by simp [cmpI, hc])
    have e4 : evE P cal (.bop .sub (.var 2) (.bop .pow (.int 10) (.int 18))) [some (.ref kp), some (.int many), some (.int cell), none, none] H = .ok (.int (cell - 1000000000000000000)) H := opE (vaE rfl) powE rfl
    have p3 := putE (P := P) (cal := cal) (z := "digits") (σ := [some (.ref kp), some (.int many), some (.int cell), none, none]) rfl x2.pen e4
    rw [pu3, fin2] at p3
    rw [ss_nx (h' := h.set kp (.dct (penL kc (t + 1) (cell - 1000000000000000000) ct fo))) (σ' := [some (.ref kp), some (.int many), some (.int cell), none, none]) (by rw [if_t e3, ss_nx p3, evSs])]
    rw [evSs]
  · refine ⟨some (.int cell), t + 1, dg, (fo * 23003 + cell).fmod 2147483059, ?_, by omega, (fmod_in (by decide)).1, (fmod_in (by decide)).2⟩
    have e3 : evE P cal (.cmp .ge (.var 2) (.bop .pow (.int 10) (.int 18))) [some (.ref kp), some (.int many), some (.int cell), none, none] H = .ok (.bl false) H := cmE (vaE rfl) powE (by simp [cmpI]; omega)
    have f0 := x.f0
    have f1 := x.f1
    have e4 : evE P cal (.bop .mod (.bi .int (.cons (.bop .add (.bop .mul (.idx (.var 0) (.str "fold")) (.int 23003)) (.var 2)) .nil)) (.int 2147483059)) [some (.ref kp), some (.int many), some (.int cell), none, none] H = .ok (.int ((fo * 23003 + cell).fmod 2147483059)) H :=
      opE (iiE (opE (opE (getE rfl x2.pen lk5) inE (by simp only [bopI, mul_ok (i := fo) (j := 23003) (by omega) (by decide), if_true])) (vaE rfl) rfl)) inE rfl
    have p3 := putE (P := P) (cal := cal) (z := "fold") (σ := [some (.ref kp), some (.int many), some (.int cell), none, none]) rfl x2.pen e4
    rw [pu5, fin2] at p3
    rw [ss_nx (h' := h.set kp (.dct (penL kc (t + 1) dg ct ((fo * 23003 + cell).fmod 2147483059)))) (σ' := [some (.ref kp), some (.int many), some (.int cell), none, none]) (by rw [if_e e3, ss_nx p3, evSs])]
    rw [evSs]
/-- _law_draw -/
def drawD : MDef := ⟨2, ["pen", "many"], 5, (.cons (.setI (.var 0) (.str "count") (.bop .add (.idx (.var 0) (.str "count")) (.int 1)))
    (.cons (.if_ (.and_ (.cmp .eq (.idx (.var 0) (.str "digits")) (.int 0)) (.cmp .lt (.idx (.var 0) (.str "at")) (.bi .len (.cons (.idx (.var 0) (.str "cells")) .nil)))) drawB .nil) drawC))⟩
/-- a draw -/
theorem draw_run {n m g : Nat} (hg : P g = some (.def_ drawD)) {h : AH} {kp kc : Nat} {t dg ct fo many : Int} {xs : List Int} (x : PenOk m h kp kc t dg ct fo xs) (hm : m < 1000) (h0 : 0 < many) (h1 : many ≤ 1000) :
    ∃ r t' dg' ct' fo', calA P (n + 1) g [.ref kp, .int many] h = .ok (.int r) (h.set kp (.dct (penL kc t' dg' ct' fo'))) ∧ 0 ≤ r ∧ r < many ∧ PenOk (m + 1) (h.set kp (.dct (penL kc t' dg' ct' fo'))) kp kc t' dg' ct' fo' xs := by
  have hp := x.pen
  have e1 : evE P (calA P n) (.bop .add (.idx (.var 0) (.str "count")) (.int 1)) [some (.ref kp), some (.int many), none, none, none] h = .ok (.int (ct + 1)) h := opE (getE rfl hp lk4) inE rfl
  have p1 := putE (P := P) (cal := calA P n) (z := "count") (σ := [some (.ref kp), some (.int many), none, none, none]) rfl hp e1
  rw [pu4] at p1
  have x1 := x.mk2 (m' := m + 1) (t' := t) (dg' := dg) (ct' := ct + 1) (fo' := fo) x.t0 (by have := x.c0; omega) (by have := x.c1; push_cast; omega) x.f0 x.f1
  generalize hH : h.set kp (.dct (penL kc t dg (ct + 1) fo)) = H at p1 x1
  have hset : ∀ o : AO, H.set kp o = h.set kp o := fun o => by rw [← hH, List.set_set]
  have eb : calA P (n + 1) g [.ref kp, .int many] h = fin (evSs P (calA P n) (.cons (.if_ (.and_ (.cmp .eq (.idx (.var 0) (.str "digits")) (.int 0)) (.cmp .lt (.idx (.var 0) (.str "at")) (.bi .len (.cons (.idx (.var 0) (.str "cells")) .nil)))) drawB .nil) drawC) [some (.ref kp), some (.int many), none, none, none] H) := by
    rw [calA_def (d := drawD) hg rfl]
    show fin (evSs P (calA P n) (.cons _ _) [some (.ref kp), some (.int many), none, none, none] h) = _
    rw [ss_nx p1]
  rw [eb]
  have g3 := getE (P := P) (cal := calA P n) (σ := [some (.ref kp), some (.int many), none, none, none]) rfl x1.pen lk3
  have c1 : evE P (calA P n) (.cmp .eq (.idx (.var 0) (.str "digits")) (.int 0)) [some (.ref kp), some (.int many), none, none, none] H = .ok (.bl (decide (dg = 0))) H := cmE g3 inE rfl
  have c2 : evE P (calA P n) (.cmp .lt (.idx (.var 0) (.str "at")) (.bi .len (.cons (.idx (.var 0) (.str "cells")) .nil))) [some (.ref kp), some (.int many), none, none, none] H = .ok (.bl (decide (t < xs.length))) H := by
    refine cmE (getE rfl x1.pen lk2) (j := xs.length) ?_ rfl
    have g1 := getE (P := P) (cal := calA P n) (σ := [some (.ref kp), some (.int many), none, none, none]) rfl x1.pen lk1
    rw [evE, evEs, g1]
    simp only [bind_ok, evEs, biA, biLen, seq_lst x1.cells, Option.map_some, of_some, List.length_map]
  have c3 : evE P (calA P n) (.and_ (.cmp .eq (.idx (.var 0) (.str "digits")) (.int 0)) (.cmp .lt (.idx (.var 0) (.str "at")) (.bi .len (.cons (.idx (.var 0) (.str "cells")) .nil)))) [some (.ref kp), some (.int many), none, none, none] H = .ok (.bl (decide (dg = 0) && decide (t < xs.length))) H := by
    rw [evE, c1]
    show kAnd _ (.bl (decide (dg = 0))) H = _
    cases decide (dg = 0) with
    | false => rfl
    | true => rw [kAnd_t, c2]; rfl
  by_cases hb : (decide (dg = 0) && decide (t < xs.length)) = true
  · rw [hb] at c3
    simp only [Bool.and_eq_true, decide_eq_true_eq] at hb
    obtain ⟨s2, t', dg', fo', d1, d2, d3, d4⟩ := drawB_run (cal := calA P n) (many := many) x1 hb.2
    have x2 := x1.mk2 (m' := m + 1) (t' := t') (dg' := dg') (ct' := ct + 1) (fo' := fo') d2 x1.c0 x1.c1 d3 d4
    obtain ⟨r, dg2, q1, q2, q3⟩ := drawC_run (cal := calA P n) (s2 := s2) (s3 := none) (s4 := none) x2 (by omega) h0 h1
    refine ⟨r, t', dg2, ct + 1, fo', ?_, q2, q3, ?_⟩
    · rw [ss_nx (h' := H.set kp (.dct (penL kc t' dg' (ct + 1) fo'))) (σ' := [some (.ref kp), some (.int many), s2, none, none]) (by rw [if_t c3]; exact d1), q1, List.set_set, hset]
    · exact x.mk2 d2 x1.c0 x1.c1 d3 d4
  · have hb : (decide (dg = 0) && decide (t < xs.length)) = false := by simpa using hb
    rw [hb] at c3
    obtain ⟨r, dg2, q1, q2, q3⟩ := drawC_run (cal := calA P n) (s2 := none) (s3 := none) (s4 := none) x1 (by omega) h0 h1
    refine ⟨r, t, dg2, ct + 1, fo, ?_, q2, q3, ?_⟩
    · rw [ss_nx (if_f c3), q1, hset]
    · exact x.mk2 x.t0 x1.c0 x1.c1 x.f0 x.f1
/-- one turn of a comprehension -/
theorem ct_run {cal : Nat → List AV → AH → R AV} {D : Nat} {own : List Nat} {t : MT} {e : ME} {x y : AV} {σ σ1 : Sg} {h h1 : AH} {acc : List AV} (p : putT (wipeS σ own) h t x = some σ1) (a : evE P cal e σ1 h = .ok y h1) (z : h1[D]? = some (.lst acc)) (l : acc.length < sizeLine) :
    compTurn D own t (evE P cal e) x σ h = .nx σ (h1.set D (.lst (acc ++ [y]))) := by
  unfold compTurn
  rw [p]
  dsimp only
  rw [a]
  dsimp only
  rw [z]
  dsimp only
  rw [if_pos l]
/-! ### the pen is made -/
def penB : MSs := (.cons (.set 1 (.bop .mod (.bi .int (.cons (.bop .add (.bop .mul (.var 1) (.int 179)) (.var 2)) .nil)) (.int 999999223))) .nil)
theorem pen_loop {cal : Nat → List AV → AH → R AV} {h : AH} {ns : List Int} (z : h[0]? = some (.rls (ns.map .int))) : ∀ (m i : Nat) (fo : Int) (s2 : Option AV), i + m = ns.length → 0 ≤ fo → fo < 999999223 →
    ∃ fo' s2', walkL (kTurn (.name 2) (evSs P cal penB)) 0 m i [some (.ref 0), some (.int fo), s2] h = .nx [some (.ref 0), some (.int fo'), s2'] h ∧ 0 ≤ fo' ∧ fo' < 999999223
  | 0, i, fo, s2, hm, h0, h1 => by
    refine ⟨fo, s2, ?_, h0, h1⟩
    unfold walkL seqOf
    dsimp only
    rw [z]
    dsimp only
    rw [if_pos (by simp; omega)]
  | m + 1, i, fo, s2, hm, h0, h1 => by
    have hi : i < ns.length := by omega
    have e1 : evE P cal (.bop .mod (.bi .int (.cons (.bop .add (.bop .mul (.var 1) (.int 179)) (.var 2)) .nil)) (.int 999999223)) [some (.ref 0), some (.int fo), some (.int ns[i])] h = .ok (.int ((fo * 179 + ns[i]).fmod 999999223)) h :=
      opE (iiE (opE (opE (vaE rfl) inE (by simp only [bopI, mul_ok (i := fo) (j := 179) (by omega) (by decide), if_true])) (vaE rfl) rfl)) inE rfl
    obtain ⟨f1, f2⟩ := fmod_in (i := fo * 179 + ns[i]) (j := 999999223) (by decide)
    obtain ⟨fo', s2', q, a, b⟩ := pen_loop z m (i + 1) ((fo * 179 + ns[i]).fmod 999999223) (some (.int ns[i])) (by omega) f1 f2
    refine ⟨fo', s2', ?_, a, b⟩
    unfold walkL seqOf
    dsimp only
    rw [z]
    dsimp only
    rw [List.getElem?_map, List.getElem?_eq_getElem hi]
    simp only [Option.map_some]
    have e2 : kTurn (.name 2) (evSs P cal penB) (.int ns[i]) [some (.ref 0), some (.int fo), s2] h = .nx [some (.ref 0), some (.int ((fo * 179 + ns[i]).fmod 999999223)), some (.int ns[i])] h := by
      unfold kTurn putT penB
      simp only [List.set_cons_zero, List.set_cons_succ]
      rw [ss_nx (set_run e1)]
      rw [evSs]
      rfl
    rw [e2]
    exact q
/-- _law_pen -/
def penD : MDef := ⟨1, ["script"], 3, (.cons (.set 1 (.int 0)) (.cons (.for_ (.name 2) (.seq (.var 0)) penB) (.cons (.ret (.dct ["cells", "at", "digits", "count", "fold"] (.cons (.bi .list (.cons (.var 0) .nil)) (.cons (.int 0) (.cons (.int 0) (.cons (.int 0) (.cons (.var 1) .nil))))))) .nil)))⟩
theorem pen_run {n g : Nat} (hg : P g = some (.def_ penD)) {ns : List Int} : ∃ fo, calA P (n + 1) g [.ref 0] [.rls (ns.map .int)] = .ok (.ref 1) [.rls (ns.map .int), .dct (penL 2 0 0 0 fo), .lst (ns.map .int)] ∧ 0 ≤ fo ∧ fo < 2147483059 := by
  obtain ⟨fo, s2, q, a, b⟩ := pen_loop (cal := calA P n) (h := [.rls (ns.map .int)]) (ns := ns) rfl ns.length 0 0 none (by simp) (by decide) (by decide)
  refine ⟨fo, ?_, a, by omega⟩
  rw [calA_def (d := penD) hg rfl]
  show fin (evSs P (calA P n) (.cons (.set 1 (.int 0)) (.cons (.for_ (.name 2) (.seq (.var 0)) penB) (.cons (.ret (.dct ["cells", "at", "digits", "count", "fold"] (.cons (.bi .list (.cons (.var 0) .nil)) (.cons (.int 0) (.cons (.int 0) (.cons (.int 0) (.cons (.var 1) .nil))))))) .nil))) [some (.ref 0), none, none] [.rls (ns.map .int)]) = _
  rw [ss_nx (set_run inE)]
  simp only [List.set_cons_zero, List.set_cons_succ]
  have ef : evS P (calA P n) (.for_ (.name 2) (.seq (.var 0)) penB) [some (.ref 0), some (.int 0), none] [.rls (ns.map .int)] = .nx [some (.ref 0), some (.int fo), s2] [.rls (ns.map .int)] := by
    have el : (List.map AV.int ns).length = ns.length := List.length_map ..
    rw [evS, evI, vaE (v := .ref 0) rfl]
    show walkI (kTurn (.name 2) (evSs P (calA P n) penB)) (.lst 0) [some (.ref 0), some (.int 0), none] [.rls (ns.map .int)] = _
    unfold walkI
    show walkL (kTurn (.name 2) (evSs P (calA P n) penB)) 0 (List.map AV.int ns).length 0 [some (.ref 0), some (.int 0), none] [.rls (ns.map .int)] = _
    rw [el]
    exact q
  rw [ss_nx ef]
  have ed : evE P (calA P n) (.dct ["cells", "at", "digits", "count", "fold"] (.cons (.bi .list (.cons (.var 0) .nil)) (.cons (.int 0) (.cons (.int 0) (.cons (.int 0) (.cons (.var 1) .nil)))))) [some (.ref 0), some (.int fo), s2] [.rls (ns.map .int)] = .ok (.ref 1) [.rls (ns.map .int), .dct (penL 2 0 0 0 fo), .lst (ns.map .int)] := by
    simp only [evE, evEs, getS, List.getElem?_cons_zero, List.getElem?_cons_succ, bind_ok, biA, biList, seqOf, List.cons_append, List.nil_append, Option.map_some, of_some, List.length_cons, List.length_nil]
    rfl
  rw [ss_rt (ret_run ed)]
  rfl
/-- the pen, whatever it shows -/
def Pen (m : Nat) (h : AH) (kp : Nat) : Prop := ∃ kc t dg ct fo xs, PenOk m h kp kc t dg ct fo xs ∧ kc ≤ kp + 1
theorem Pen.lt {m : Nat} {h : AH} {kp : Nat} (x : Pen m h kp) : kp < h.length := by
  obtain ⟨kc, t, dg, ct, fo, xs, p, _⟩ := x
  exact lt_of p.pen
/-- what lies up to the pen stays -/
theorem Pen.up {m : Nat} {h h' : AH} {kp : Nat} (x : Pen m h kp) (k : ∀ j o, j ≤ kp + 1 → h[j]? = some o → h'[j]? = some o) : Pen m h' kp := by
  obtain ⟨kc, t, dg, ct, fo, xs, p, l⟩ := x
  exact ⟨kc, t, dg, ct, fo, xs, ⟨k _ _ (Nat.le_succ _) p.pen, k _ _ l p.cells, p.t0, p.c0, p.c1, p.f0, p.f1⟩, l⟩
theorem Pen.pre {m : Nat} {h h' : AH} {kp : Nat} (x : Pen m h kp) (p : Pre h h') : Pen m h' kp := x.up fun _ _ _ e => p.get e
theorem Pen.set {m : Nat} {h : AH} {kp k : Nat} {o : AO} (x : Pen m h kp) (l : kp + 1 < k) : Pen m (h.set k o) kp := x.up fun j u q e => by rw [List.getElem?_set_ne (by omega)]; exact e
/-- a pick -/
def pickD (g : Nat) : MDef := ⟨2, ["pen", "some"], 2, (.cons (.ret (.idx (.var 1) (.call g (.cons (.var 0) (.cons (.bi .len (.cons (.var 1) .nil)) .nil))))) .nil)⟩
/-- a draw, what is written -/
theorem drawO {n m g : Nat} (hg : P g = some (.def_ drawD)) {h : AH} {kp : Nat} {many : Int} (x : Pen m h kp) (hm : m < 1000) (h0 : 0 < many) (h1 : many ≤ 1000) : ∃ r o, calA P (n + 1) g [.ref kp, .int many] h = .ok (.int r) (h.set kp o) ∧ 0 ≤ r ∧ r < many ∧ Pen (m + 1) (h.set kp o) kp := by
  obtain ⟨kc, t, dg, ct, fo, xs, p, l⟩ := x
  obtain ⟨r, t', dg', ct', fo', e, a, b, c⟩ := draw_run (n := n) hg p hm h0 h1
  exact ⟨r, _, e, a, b, ⟨kc, t', dg', ct', fo', xs, c, l⟩⟩
theorem pickO {n m g gp : Nat} (hg : P g = some (.def_ drawD)) (hp : P gp = some (.def_ (pickD g))) {h : AH} {kp k : Nat} {xs : List AV} (x : Pen m h kp) (hm : m < 1000) (z : h[k]? = some (.lst xs)) (hk : k ≠ kp) (l0 : 0 < xs.length) (l1 : xs.length ≤ 1000) :
    ∃ v o, calA P (n + 2) gp [.ref kp, .ref k] h = .ok v (h.set kp o) ∧ v ∈ xs ∧ Pen (m + 1) (h.set kp o) kp := by
  obtain ⟨r, o, e, a, b, c⟩ := drawO (P := P) (n := n) (many := (xs.length : Int)) hg x hm (by omega) (by omega)
  have hr : r.toNat < xs.length := by omega
  have eat : atI xs r = some xs[r.toNat] := by
    have e : ixN xs.length r = some r.toNat := by
      unfold ixN
      rw [if_pos a, if_pos b]
    unfold atI
    rw [e]
    simp [List.getElem?_eq_getElem hr]
  have z2 : (h.set kp o)[k]? = some (.lst xs) := by rw [List.getElem?_set_ne (Ne.symm hk)]; exact z
  refine ⟨xs[r.toNat], o, ?_, List.getElem_mem _, c⟩
  rw [calA_def (d := pickD g) hp rfl]
  show fin (evSs P (calA P (n + 1)) (pickD g).body [some (.ref kp), some (.ref k)] h) = _
  have q : evE P (calA P (n + 1)) (.idx (.var 1) (.call g (.cons (.var 0) (.cons (.bi .len (.cons (.var 1) .nil)) .nil)))) [some (.ref kp), some (.ref k)] h = .ok xs[r.toNat] (h.set kp o) := by
    simp only [evE, evEs, getS, List.getElem?_cons_zero, List.getElem?_cons_succ, bind_ok, biA, biLen, seq_lst z, Option.map_some, of_some]
    rw [callP_def hg rfl, e]
    simp only [bind_ok, idxA, idxS, seq_lst z2, eat, Option.map_some, of_some]
  show fin (evSs P (calA P (n + 1)) (.cons (.ret _) .nil) _ h) = _
  rw [ss_rt (ret_run q)]; rfl
end
/-! ### what is shown -/
theorem text_len : ∀ (ts : List Str) (k : Nat) (acc : Str), (textFrom k acc ts).length ≤ acc.length + (ts.map fun t => t.length + 2).sum
  | [], k, acc => by unfold textFrom; simp
  | t :: ts, k, acc => by
    unfold textFrom
    refine Nat.le_trans (text_len ts (k + 1) _) ?_
    rw [strLen_append, strLen_append, List.map_cons, List.sum_cons]
    have : (if k > 0 then (", " : Str) else ("" : Str)).length ≤ 2 := by
      split
      · exact Nat.le_refl _
      · exact Nat.zero_le _
    have e : ((if k > 0 then ", " else "" : String) : Str) = if k > 0 then (", " : Str) else ("" : Str) := by split <;> rfl
    rw [e]
    omega
/-- data that may be shown within a row -/
def Sh (d : PyData) : Prop := d.showable = true ∧ d.shown.length ≤ 1000 ∧ d.depth ≤ 10
theorem sh_sum : ∀ {l : List PyData}, (∀ z ∈ l, Sh z) → ((PyData.shownAll l).map fun t => t.length + 2).sum ≤ 1002 * l.length ∧ PyData.showableAll l = true ∧ PyData.depthAll l ≤ 10
  | [], _ => ⟨by simp [PyData.shownAll], rfl, Nat.zero_le _⟩
  | d :: l, h => by
    obtain ⟨h1, h2, h3⟩ := h d List.mem_cons_self
    obtain ⟨i1, i2, i3⟩ := sh_sum fun z hz => h z (List.mem_cons_of_mem _ hz)
    refine ⟨?_, ?_, ?_⟩
    · rw [PyData.shownAll, List.map_cons, List.sum_cons, List.length_cons]
      omega
    · rw [PyData.showableAll, h1, i2]; rfl
    · rw [PyData.depthAll]; omega
theorem show_lst {ds : List PyData} (hl : ds.length ≤ 7) (h : ∀ z ∈ ds, Sh z) : showOk (.list ds) = true := by
  obtain ⟨i1, i2, i3⟩ := sh_sum (l := ds) h
  unfold showOk
  have e1 : PyData.showable (.list ds) = true := by rw [PyData.showable]; exact i2
  have e2 : (PyData.list ds).shown.length ≤ sizeLine := by
    rw [PyData.shown]
    unfold listText
    rw [strLen_append]
    have := text_len (PyData.shownAll ds) 0 "["
    have a1 : ("[" : Str).length = 1 := rfl
    have a2 : ("]" : Str).length = 1 := rfl
    have a4 : (10000 : Nat) ≤ sizeLine := by decide
    omega
  have e3 : (PyData.list ds).depth ≤ 64 := by rw [PyData.depth]; omega
  rw [e1, decide_eq_true e2, decide_eq_true e3]
  rfl
/-- repr(x) == repr(y) of two lists of the same items -/
theorem repr2 {P : Prog} {cal : Nat → List AV → AH → R AV} {σ : Sg} {h : AH} {i j k l : Nat} {xs : List AV} {ds : List PyData} (a : getS σ i = some (.ref k)) (b : getS σ j = some (.ref l)) (za : h[k]? = some (.lst xs)) (zb : h[l]? = some (.lst xs)) (e : optAll (toPyD h 59) xs = some ds) (s : showOk (.list ds) = true) :
    evE P cal (.cmp .eq (.bi .repr (.cons (.var i) .nil)) (.bi .repr (.cons (.var j) .nil))) σ h = .ok (.bl true) h := by
  have r : ∀ {k : Nat}, h[k]? = some (.lst xs) → biRepr [.ref k] h = some (.str (PyData.list ds).shown, h) := fun {k} z => by
    have t : toPyD h 60 (.ref k) = some (.list ds) := by
      unfold toPyD
      dsimp only
      rw [z]
      dsimp only
      rw [e]; rfl
    unfold biRepr
    dsimp only
    rw [t]
    dsimp only
    rw [if_pos s]
  simp only [evE, evEs, a, b, bind_ok, biA, r za, r zb, of_some]
  simp [cmpA, ownA, insOf, eqTop, eqStr, R.of]
/-- a walk over the items of a list, each turn told -/
theorem walk_rows {f : AV → Sg → AH → RS} {k n : Nat} {σ : Sg} {xs : List AV} {Hs : Nat → AH} (hl : xs.length = n) (hs : ∀ i, i ≤ n → seqOf (Hs i) (.ref k) = some xs) (hf : ∀ i x, xs[i]? = some x → f x σ (Hs i) = .nx σ (Hs (i + 1))) : walkL f k n 0 σ (Hs 0) = .nx σ (Hs n) := by
  have go : ∀ m i, i + m = n → walkL f k m i σ (Hs i) = .nx σ (Hs n) := by
    intro m
    induction m with
    | zero =>
      intro i hi
      have : i = n := by omega
      subst this
      unfold walkL
      rw [hs i (Nat.le_refl _)]
      dsimp only
      rw [if_pos (by omega)]
    | succ m ih =>
      intro i hi
      have hi2 : i < xs.length := by omega
      unfold walkL
      rw [hs i (by omega)]
      dsimp only
      rw [List.getElem?_eq_getElem hi2]
      dsimp only
      rw [hf i _ (List.getElem?_eq_getElem hi2)]
      exact ih (i + 1) (by omega)
  exact go n 0 (by omega)
end Mini
set_option autoImplicit false
set_option maxHeartbeats 0
namespace Mini.K00
open PySem PySem.Spec L2
open PyProof.Rows hiding St
abbrev row : PySem.W.OpenLaw := PySem.Challenge.rw_growthpapers_k00_errors_made_by_hand
def top (i : Nat) : Stmt := PySem.Challenge.pw_growthpapers_k00_errors_made_by_hand.main.body.getD i (.Pass ⟨0, 0, 0, 0⟩)
def meth (i j : Nat) : Stmt := (C8.clsBody (top i)).getD j (.Pass ⟨0, 0, 0, 0⟩)
/-- BadNumber.__init__ -/
def d2 : MDef := ⟨3, ["self", "what", "number"], 3, (.cons (.ex (.einit 0 (.cons (.var 0) (.cons (.str "A number that is not allowed here.") .nil))))
    (.cons (.setF (.var 0) "what" (.var 1))
    (.cons (.setF (.var 0) "number" (.var 2))
    .nil)))⟩
def r2 : DR := (["self", "what", "number"], ⟨("BadNumber", some ("__init__" : Str)), "__init__", "BadNumber.__init__", C8.fnArgs (meth 2 0), C8.fnBody (meth 2 0), C8.fnScope (meth 2 0), [], []⟩)
/-- BadText.__init__ -/
def d4 : MDef := ⟨3, ["self", "line", "column"], 3, (.cons (.ex (.einit 0 (.cons (.var 0) (.cons (.str "A text that is wrong at a place.") .nil))))
    (.cons (.setF (.var 0) "line" (.var 1))
    (.cons (.setF (.var 0) "column" (.var 2))
    .nil)))⟩
def r4 : DR := (["self", "line", "column"], ⟨("BadText", some ("__init__" : Str)), "__init__", "BadText.__init__", C8.fnArgs (meth 3 0), C8.fnBody (meth 3 0), C8.fnScope (meth 3 0), [], []⟩)
/-- BadPoly.__init__ -/
def d6 : MDef := ⟨2, ["self", "value"], 2, (.cons (.ex (.einit 0 (.cons (.var 0) (.cons (.str "A value of which no polynomial is made.") .nil))))
    (.cons (.setF (.var 0) "value" (.var 1))
    .nil))⟩
def r6 : DR := (["self", "value"], ⟨("BadPoly", some ("__init__" : Str)), "__init__", "BadPoly.__init__", C8.fnArgs (meth 4 0), C8.fnBody (meth 4 0), C8.fnScope (meth 4 0), [], []⟩)
/-- BadField.__init__ -/
def d8 : MDef := ⟨2, ["self", "value"], 2, (.cons (.ex (.einit 0 (.cons (.var 0) (.cons (.str "A value that is no such field.") .nil))))
    (.cons (.setF (.var 0) "value" (.var 1))
    .nil))⟩
def r8 : DR := (["self", "value"], ⟨("BadField", some ("__init__" : Str)), "__init__", "BadField.__init__", C8.fnArgs (meth 5 0), C8.fnBody (meth 5 0), C8.fnScope (meth 5 0), [], []⟩)
/-- BadRow.__init__ -/
def d10 : MDef := ⟨2, ["self", "row"], 2, (.cons (.ex (.einit 0 (.cons (.var 0) (.cons (.str "A value that is no such row.") .nil))))
    (.cons (.setF (.var 0) "row" (.var 1))
    .nil))⟩
def r10 : DR := (["self", "row"], ⟨("BadRow", some ("__init__" : Str)), "__init__", "BadRow.__init__", C8.fnArgs (meth 6 0), C8.fnBody (meth 6 0), C8.fnScope (meth 6 0), [], []⟩)
/-- BadTable.__init__ -/
def d12 : MDef := ⟨2, ["self", "table"], 2, (.cons (.ex (.einit 0 (.cons (.var 0) (.cons (.str "A value that is no such table.") .nil))))
    (.cons (.setF (.var 0) "table" (.var 1))
    .nil))⟩
def r12 : DR := (["self", "table"], ⟨("BadTable", some ("__init__" : Str)), "__init__", "BadTable.__init__", C8.fnArgs (meth 7 0), C8.fnBody (meth 7 0), C8.fnScope (meth 7 0), [], []⟩)
/-- BadPaper.__init__ -/
def d14 : MDef := ⟨2, ["self", "value"], 2, (.cons (.ex (.einit 0 (.cons (.var 0) (.cons (.str "A value that is no such paper.") .nil))))
    (.cons (.setF (.var 0) "value" (.var 1))
    .nil))⟩
def r14 : DR := (["self", "value"], ⟨("BadPaper", some ("__init__" : Str)), "__init__", "BadPaper.__init__", C8.fnArgs (meth 8 0), C8.fnBody (meth 8 0), C8.fnScope (meth 8 0), [], []⟩)
/-- Unlike.__init__ -/
def d16 : MDef := ⟨2, ["self", "what"], 2, (.cons (.ex (.einit 0 (.cons (.var 0) (.cons (.str "Things that do not fit together.") .nil))))
    (.cons (.setF (.var 0) "what" (.var 1))
    .nil))⟩
def r16 : DR := (["self", "what"], ⟨("Unlike", some ("__init__" : Str)), "__init__", "Unlike.__init__", C8.fnArgs (meth 9 0), C8.fnBody (meth 9 0), C8.fnScope (meth 9 0), [], []⟩)
/-- TooMany.__init__ -/
def d18 : MDef := ⟨4, ["self", "what", "many", "limit"], 4, (.cons (.ex (.einit 0 (.cons (.var 0) (.cons (.str "More than may be.") .nil))))
    (.cons (.setF (.var 0) "what" (.var 1))
    (.cons (.setF (.var 0) "many" (.var 2))
    (.cons (.setF (.var 0) "limit" (.var 3))
    .nil))))⟩
def r18 : DR := (["self", "what", "many", "limit"], ⟨("TooMany", some ("__init__" : Str)), "__init__", "TooMany.__init__", C8.fnArgs (meth 10 0), C8.fnBody (meth 10 0), C8.fnScope (meth 10 0), [], []⟩)
/-- NoName.__init__ -/
def d20 : MDef := ⟨2, ["self", "name"], 2, (.cons (.ex (.einit 0 (.cons (.var 0) (.cons (.str "Nothing has this name.") .nil))))
    (.cons (.setF (.var 0) "name" (.var 1))
    .nil))⟩
def r20 : DR := (["self", "name"], ⟨("NoName", some ("__init__" : Str)), "__init__", "NoName.__init__", C8.fnArgs (meth 11 0), C8.fnBody (meth 11 0), C8.fnScope (meth 11 0), [], []⟩)
/-- NothingToUndo.__init__ -/
def d22 : MDef := ⟨1, ["self"], 1, (.cons (.ex (.einit 0 (.cons (.var 0) (.cons (.str "There is no edit to be taken back.") .nil))))
    .nil)⟩
def r22 : DR := (["self"], ⟨("NothingToUndo", some ("__init__" : Str)), "__init__", "NothingToUndo.__init__", C8.fnArgs (meth 12 0), C8.fnBody (meth 12 0), C8.fnScope (meth 12 0), [], []⟩)
/-- NothingToRedo.__init__ -/
def d24 : MDef := ⟨1, ["self"], 1, (.cons (.ex (.einit 0 (.cons (.var 0) (.cons (.str "There is no edit to be done again.") .nil))))
    .nil)⟩
def r24 : DR := (["self"], ⟨("NothingToRedo", some ("__init__" : Str)), "__init__", "NothingToRedo.__init__", C8.fnArgs (meth 13 0), C8.fnBody (meth 13 0), C8.fnScope (meth 13 0), [], []⟩)
/-- _law_pen -/
def d25 : MDef := ⟨1, ["script"], 3, (.cons (.set 1 (.int 0))
    (.cons (.for_ (.name 2) (.seq (.var 0)) (.cons (.set 1 (.bop .mod (.bi .int (.cons (.bop .add (.bop .mul (.var 1) (.int 179)) (.var 2)) .nil)) (.int 999999223)))
    .nil))
    (.cons (.ret (.dct ["cells", "at", "digits", "count", "fold"] (.cons (.bi .list (.cons (.var 0) .nil)) (.cons (.int 0) (.cons (.int 0) (.cons (.int 0) (.cons (.var 1) .nil)))))))
    .nil)))⟩
def r25 : DR := (["script", "fold", "cell"], ⟨("_law_pen", none), "_law_pen", "_law_pen", C8.fnArgs (top 15), C8.fnBody (top 15), C8.fnScope (top 15), [], []⟩)
/-- _law_draw -/
def d26 : MDef := ⟨2, ["pen", "many"], 5, (.cons (.setI (.var 0) (.str "count") (.bop .add (.idx (.var 0) (.str "count")) (.int 1)))
    (.cons (.if_ (.and_ (.cmp .eq (.idx (.var 0) (.str "digits")) (.int 0)) (.cmp .lt (.idx (.var 0) (.str "at")) (.bi .len (.cons (.idx (.var 0) (.str "cells")) .nil)))) (.cons (.set 2 (.idx (.idx (.var 0) (.str "cells")) (.idx (.var 0) (.str "at"))))
    (.cons (.setI (.var 0) (.str "at") (.bop .add (.idx (.var 0) (.str "at")) (.int 1)))
    (.cons (.if_ (.cmp .ge (.var 2) (.bop .pow (.int 10) (.int 18))) (.cons (.setI (.var 0) (.str "digits") (.bop .sub (.var 2) (.bop .pow (.int 10) (.int 18))))
    .nil) (.cons (.setI (.var 0) (.str "fold") (.bop .mod (.bi .int (.cons (.bop .add (.bop .mul (.idx (.var 0) (.str "fold")) (.int 23003)) (.var 2)) .nil)) (.int 2147483059)))
    .nil))
    .nil))) .nil)
    (.cons (.if_ (.cmp .gt (.idx (.var 0) (.str "digits")) (.int 0)) (.cons (.set 3 (.bop .mod (.bi .int (.cons (.idx (.var 0) (.str "digits")) .nil)) (.var 1)))
    (.cons (.setI (.var 0) (.str "digits") (.bop .fdiv (.idx (.var 0) (.str "digits")) (.var 1)))
    (.cons (.ret (.var 3))
    .nil))) .nil)
    (.cons (.set 4 (.bop .add (.bop .add (.idx (.var 0) (.str "fold")) (.bop .mul (.idx (.var 0) (.str "count")) (.int 4903))) (.int 167)))
    (.cons (.ret (.bop .mod (.bop .fdiv (.bi .int (.cons (.bop .mod (.bop .pow (.var 4) (.int 59)) (.int 2305843009213693951)) .nil)) (.int 128)) (.var 1)))
    .nil)))))⟩
def r26 : DR := (["pen", "many", "cell", "digit", "blend"], ⟨("_law_draw", none), "_law_draw", "_law_draw", C8.fnArgs (top 16), C8.fnBody (top 16), C8.fnScope (top 16), [], []⟩)
/-- _law_pick -/
def d27 : MDef := ⟨2, ["pen", "some"], 2, (.cons (.ret (.idx (.var 1) (.call 26 (.cons (.var 0) (.cons (.bi .len (.cons (.var 1) .nil)) .nil)))))
    .nil)⟩
def r27 : DR := (["pen", "some"], ⟨("_law_pick", none), "_law_pick", "_law_pick", C8.fnArgs (top 17), C8.fnBody (top 17), C8.fnScope (top 17), [], []⟩)
/-- _law_values -/
def d28 : MDef := ⟨1, ["pen"], 3, (.cons (.set 1 (.lst (.cons (.tup (.cons (.int 1) (.cons (.int 2) .nil))) (.cons (.lst (.cons (.int 3) (.cons (.lst (.cons (.int 4) .nil)) .nil))) (.cons (.dct ["a"] (.cons (.int 1) .nil)) (.cons (.str "") (.cons (.str "abc") (.cons (.int 0) (.cons (.neg (.int 7)) (.cons (.bl true) (.cons .non (.cons (.bop .pow (.int 10) (.int 41)) (.cons (.tup .nil) (.cons (.tup (.cons (.tup .nil) .nil)) (.cons (.tup (.cons (.str "x") (.cons .non .nil))) .nil)))))))))))))))
    (.cons (.ret (.comp (.name 2) (.range (.int 3)) (.call 27 (.cons (.var 0) (.cons (.var 1) .nil))) [2]))
    .nil))⟩
def r28 : DR := (["pen", "deep", "k"], ⟨("_law_values", none), "_law_values", "_law_values", C8.fnArgs (top 18), C8.fnBody (top 18), C8.fnScope (top 18), [], []⟩)
/-- _law_kinds_of -/
def d29 : MDef := ⟨1, ["fault"], 2, (.cons (.set 1 (.lst .nil))
    (.cons (.if_ (.bi .isinst (.cons (.var 0) (.cons (.glo 1) .nil))) (.cons (.ex (.met .append (.var 1) (.cons (.str "BadNumber") .nil)))
    .nil) .nil)
    (.cons (.if_ (.bi .isinst (.cons (.var 0) (.cons (.glo 3) .nil))) (.cons (.ex (.met .append (.var 1) (.cons (.str "BadText") .nil)))
    .nil) .nil)
    (.cons (.if_ (.bi .isinst (.cons (.var 0) (.cons (.glo 5) .nil))) (.cons (.ex (.met .append (.var 1) (.cons (.str "BadPoly") .nil)))
    .nil) .nil)
    (.cons (.if_ (.bi .isinst (.cons (.var 0) (.cons (.glo 7) .nil))) (.cons (.ex (.met .append (.var 1) (.cons (.str "BadField") .nil)))
    .nil) .nil)
    (.cons (.if_ (.bi .isinst (.cons (.var 0) (.cons (.glo 9) .nil))) (.cons (.ex (.met .append (.var 1) (.cons (.str "BadRow") .nil)))
    .nil) .nil)
    (.cons (.if_ (.bi .isinst (.cons (.var 0) (.cons (.glo 11) .nil))) (.cons (.ex (.met .append (.var 1) (.cons (.str "BadTable") .nil)))
    .nil) .nil)
    (.cons (.if_ (.bi .isinst (.cons (.var 0) (.cons (.glo 13) .nil))) (.cons (.ex (.met .append (.var 1) (.cons (.str "BadPaper") .nil)))
    .nil) .nil)
    (.cons (.if_ (.bi .isinst (.cons (.var 0) (.cons (.glo 15) .nil))) (.cons (.ex (.met .append (.var 1) (.cons (.str "Unlike") .nil)))
    .nil) .nil)
    (.cons (.if_ (.bi .isinst (.cons (.var 0) (.cons (.glo 17) .nil))) (.cons (.ex (.met .append (.var 1) (.cons (.str "TooMany") .nil)))
    .nil) .nil)
    (.cons (.if_ (.bi .isinst (.cons (.var 0) (.cons (.glo 19) .nil))) (.cons (.ex (.met .append (.var 1) (.cons (.str "NoName") .nil)))
    .nil) .nil)
    (.cons (.if_ (.bi .isinst (.cons (.var 0) (.cons (.glo 21) .nil))) (.cons (.ex (.met .append (.var 1) (.cons (.str "NothingToUndo") .nil)))
    .nil) .nil)
    (.cons (.if_ (.bi .isinst (.cons (.var 0) (.cons (.glo 23) .nil))) (.cons (.ex (.met .append (.var 1) (.cons (.str "NothingToRedo") .nil)))
    .nil) .nil)
    (.cons (.ret (.var 1))
    .nil))))))))))))))⟩
def r29 : DR := (["fault", "found"], ⟨("_law_kinds_of", none), "_law_kinds_of", "_law_kinds_of", C8.fnArgs (top 19), C8.fnBody (top 19), C8.fnScope (top 19), [], []⟩)
/-- _law_alone -/
def d30 : MDef := ⟨4, ["name", "fault", "due", "found"], 4, (.cons (.ret (.and_ (.bi .isinst (.cons (.var 1) (.cons (.glo 0) .nil))) (.and_ (.bi .isinst (.cons (.var 1) (.cons (.ty "ValueError") .nil))) (.and_ (.cmp .eq (.call 29 (.cons (.var 1) .nil)) (.lst (.cons (.var 0) .nil))) (.cmp .eq (.bi .repr (.cons (.var 3) .nil)) (.bi .repr (.cons (.var 2) .nil)))))))
    .nil)⟩
def r30 : DR := (["name", "fault", "due", "found"], ⟨("_law_alone", none), "_law_alone", "_law_alone", C8.fnArgs (top 20), C8.fnBody (top 20), C8.fnScope (top 20), [], []⟩)
/-- _law_first_right -/
def d31 : MDef := ⟨3, ["a", "b", "c"], 10, (.cons (.set 3 (.lst .nil))
    (.cons (.set 4 (.call 1 (.cons (.var 0) (.cons (.var 1) .nil))))
    (.cons (.set 5 (.callk 1 .nil ["number", "what"] (.cons (.var 1) (.cons (.var 0) .nil))))
    (.cons (.ex (.met .append (.var 3) (.cons (.tup (.cons (.str "BadNumber") (.cons (.var 4) (.cons (.lst (.cons (.var 0) (.cons (.var 1) .nil))) (.cons (.lst (.cons (.fld (.var 4) "what") (.cons (.fld (.var 4) "number") .nil))) .nil))))) .nil)))
    (.cons (.ex (.met .append (.var 3) (.cons (.tup (.cons (.str "BadNumber") (.cons (.var 5) (.cons (.lst (.cons (.var 0) (.cons (.var 1) .nil))) (.cons (.lst (.cons (.fld (.var 5) "what") (.cons (.fld (.var 5) "number") .nil))) .nil))))) .nil)))
    (.cons (.set 4 (.call 3 (.cons (.var 0) (.cons (.var 1) .nil))))
    (.cons (.set 5 (.callk 3 .nil ["column", "line"] (.cons (.var 1) (.cons (.var 0) .nil))))
    (.cons (.ex (.met .append (.var 3) (.cons (.tup (.cons (.str "BadText") (.cons (.var 4) (.cons (.lst (.cons (.var 0) (.cons (.var 1) .nil))) (.cons (.lst (.cons (.fld (.var 4) "line") (.cons (.fld (.var 4) "column") .nil))) .nil))))) .nil)))
    (.cons (.ex (.met .append (.var 3) (.cons (.tup (.cons (.str "BadText") (.cons (.var 5) (.cons (.lst (.cons (.var 0) (.cons (.var 1) .nil))) (.cons (.lst (.cons (.fld (.var 5) "line") (.cons (.fld (.var 5) "column") .nil))) .nil))))) .nil)))
    (.cons (.set 4 (.call 5 (.cons (.var 0) .nil)))
    (.cons (.set 5 (.callk 5 .nil ["value"] (.cons (.var 0) .nil)))
    (.cons (.ex (.met .append (.var 3) (.cons (.tup (.cons (.str "BadPoly") (.cons (.var 4) (.cons (.lst (.cons (.var 0) .nil)) (.cons (.lst (.cons (.fld (.var 4) "value") .nil)) .nil))))) .nil)))
    (.cons (.ex (.met .append (.var 3) (.cons (.tup (.cons (.str "BadPoly") (.cons (.var 5) (.cons (.lst (.cons (.var 0) .nil)) (.cons (.lst (.cons (.fld (.var 5) "value") .nil)) .nil))))) .nil)))
    (.cons (.set 4 (.call 7 (.cons (.var 0) .nil)))
    (.cons (.set 5 (.callk 7 .nil ["value"] (.cons (.var 0) .nil)))
    (.cons (.ex (.met .append (.var 3) (.cons (.tup (.cons (.str "BadField") (.cons (.var 4) (.cons (.lst (.cons (.var 0) .nil)) (.cons (.lst (.cons (.fld (.var 4) "value") .nil)) .nil))))) .nil)))
    (.cons (.ex (.met .append (.var 3) (.cons (.tup (.cons (.str "BadField") (.cons (.var 5) (.cons (.lst (.cons (.var 0) .nil)) (.cons (.lst (.cons (.fld (.var 5) "value") .nil)) .nil))))) .nil)))
    (.cons (.set 4 (.call 9 (.cons (.var 0) .nil)))
    (.cons (.set 5 (.callk 9 .nil ["row"] (.cons (.var 0) .nil)))
    (.cons (.ex (.met .append (.var 3) (.cons (.tup (.cons (.str "BadRow") (.cons (.var 4) (.cons (.lst (.cons (.var 0) .nil)) (.cons (.lst (.cons (.fld (.var 4) "row") .nil)) .nil))))) .nil)))
    (.cons (.ex (.met .append (.var 3) (.cons (.tup (.cons (.str "BadRow") (.cons (.var 5) (.cons (.lst (.cons (.var 0) .nil)) (.cons (.lst (.cons (.fld (.var 5) "row") .nil)) .nil))))) .nil)))
    (.cons (.set 4 (.call 11 (.cons (.var 0) .nil)))
    (.cons (.set 5 (.callk 11 .nil ["table"] (.cons (.var 0) .nil)))
    (.cons (.ex (.met .append (.var 3) (.cons (.tup (.cons (.str "BadTable") (.cons (.var 4) (.cons (.lst (.cons (.var 0) .nil)) (.cons (.lst (.cons (.fld (.var 4) "table") .nil)) .nil))))) .nil)))
    (.cons (.ex (.met .append (.var 3) (.cons (.tup (.cons (.str "BadTable") (.cons (.var 5) (.cons (.lst (.cons (.var 0) .nil)) (.cons (.lst (.cons (.fld (.var 5) "table") .nil)) .nil))))) .nil)))
    (.cons (.ret (.bi .all (.cons (.comp (.tup [6, 7, 8, 9]) (.seq (.var 3)) (.call 30 (.cons (.var 6) (.cons (.var 7) (.cons (.var 8) (.cons (.var 9) .nil))))) [6, 7, 8, 9]) .nil)))
    .nil))))))))))))))))))))))))))⟩
def r31 : DR := (["a", "b", "c", "rows", "one", "two", "name", "fault", "due", "found"], ⟨("_law_first_right", none), "_law_first_right", "_law_first_right", C8.fnArgs (top 21), C8.fnBody (top 21), C8.fnScope (top 21), [], []⟩)
/-- _law_last_right -/
def d32 : MDef := ⟨3, ["a", "b", "c"], 10, (.cons (.set 3 (.lst .nil))
    (.cons (.set 4 (.call 13 (.cons (.var 0) .nil)))
    (.cons (.set 5 (.callk 13 .nil ["value"] (.cons (.var 0) .nil)))
    (.cons (.ex (.met .append (.var 3) (.cons (.tup (.cons (.str "BadPaper") (.cons (.var 4) (.cons (.lst (.cons (.var 0) .nil)) (.cons (.lst (.cons (.fld (.var 4) "value") .nil)) .nil))))) .nil)))
    (.cons (.ex (.met .append (.var 3) (.cons (.tup (.cons (.str "BadPaper") (.cons (.var 5) (.cons (.lst (.cons (.var 0) .nil)) (.cons (.lst (.cons (.fld (.var 5) "value") .nil)) .nil))))) .nil)))
    (.cons (.set 4 (.call 15 (.cons (.var 0) .nil)))
    (.cons (.set 5 (.callk 15 .nil ["what"] (.cons (.var 0) .nil)))
    (.cons (.ex (.met .append (.var 3) (.cons (.tup (.cons (.str "Unlike") (.cons (.var 4) (.cons (.lst (.cons (.var 0) .nil)) (.cons (.lst (.cons (.fld (.var 4) "what") .nil)) .nil))))) .nil)))
    (.cons (.ex (.met .append (.var 3) (.cons (.tup (.cons (.str "Unlike") (.cons (.var 5) (.cons (.lst (.cons (.var 0) .nil)) (.cons (.lst (.cons (.fld (.var 5) "what") .nil)) .nil))))) .nil)))
    (.cons (.set 4 (.call 17 (.cons (.var 0) (.cons (.var 1) (.cons (.var 2) .nil)))))
    (.cons (.set 5 (.callk 17 .nil ["limit", "many", "what"] (.cons (.var 2) (.cons (.var 1) (.cons (.var 0) .nil)))))
    (.cons (.ex (.met .append (.var 3) (.cons (.tup (.cons (.str "TooMany") (.cons (.var 4) (.cons (.lst (.cons (.var 0) (.cons (.var 1) (.cons (.var 2) .nil)))) (.cons (.lst (.cons (.fld (.var 4) "what") (.cons (.fld (.var 4) "many") (.cons (.fld (.var 4) "limit") .nil)))) .nil))))) .nil)))
    (.cons (.ex (.met .append (.var 3) (.cons (.tup (.cons (.str "TooMany") (.cons (.var 5) (.cons (.lst (.cons (.var 0) (.cons (.var 1) (.cons (.var 2) .nil)))) (.cons (.lst (.cons (.fld (.var 5) "what") (.cons (.fld (.var 5) "many") (.cons (.fld (.var 5) "limit") .nil)))) .nil))))) .nil)))
    (.cons (.set 4 (.call 19 (.cons (.var 0) .nil)))
    (.cons (.set 5 (.callk 19 .nil ["name"] (.cons (.var 0) .nil)))
    (.cons (.ex (.met .append (.var 3) (.cons (.tup (.cons (.str "NoName") (.cons (.var 4) (.cons (.lst (.cons (.var 0) .nil)) (.cons (.lst (.cons (.fld (.var 4) "name") .nil)) .nil))))) .nil)))
    (.cons (.ex (.met .append (.var 3) (.cons (.tup (.cons (.str "NoName") (.cons (.var 5) (.cons (.lst (.cons (.var 0) .nil)) (.cons (.lst (.cons (.fld (.var 5) "name") .nil)) .nil))))) .nil)))
    (.cons (.set 4 (.call 21 .nil))
    (.cons (.set 5 (.call 21 .nil))
    (.cons (.ex (.met .append (.var 3) (.cons (.tup (.cons (.str "NothingToUndo") (.cons (.var 4) (.cons (.lst .nil) (.cons (.lst .nil) .nil))))) .nil)))
    (.cons (.ex (.met .append (.var 3) (.cons (.tup (.cons (.str "NothingToUndo") (.cons (.var 5) (.cons (.lst .nil) (.cons (.lst .nil) .nil))))) .nil)))
    (.cons (.set 4 (.call 23 .nil))
    (.cons (.set 5 (.call 23 .nil))
    (.cons (.ex (.met .append (.var 3) (.cons (.tup (.cons (.str "NothingToRedo") (.cons (.var 4) (.cons (.lst .nil) (.cons (.lst .nil) .nil))))) .nil)))
    (.cons (.ex (.met .append (.var 3) (.cons (.tup (.cons (.str "NothingToRedo") (.cons (.var 5) (.cons (.lst .nil) (.cons (.lst .nil) .nil))))) .nil)))
    (.cons (.ret (.bi .all (.cons (.comp (.tup [6, 7, 8, 9]) (.seq (.var 3)) (.call 30 (.cons (.var 6) (.cons (.var 7) (.cons (.var 8) (.cons (.var 9) .nil))))) [6, 7, 8, 9]) .nil)))
    .nil))))))))))))))))))))))))))⟩
def r32 : DR := (["a", "b", "c", "rows", "one", "two", "name", "fault", "due", "found"], ⟨("_law_last_right", none), "_law_last_right", "_law_last_right", C8.fnArgs (top 22), C8.fnBody (top 22), C8.fnScope (top 22), [], []⟩)
/-- _law_is_caught -/
def d33 : MDef := ⟨2, ["a", "b"], 2, (.cons (.try_ (.cons (.raise 1 (.cons (.var 0) (.cons (.var 1) .nil)))
    .nil) [⟨0, none, .bl true⟩])
    (.cons (.ret (.bl false))
    .nil))⟩
def r33 : DR := (["a", "b"], ⟨("_law_is_caught", none), "_law_is_caught", "_law_is_caught", C8.fnArgs (top 23), C8.fnBody (top 23), C8.fnScope (top 23), [], []⟩)
/-- law -/
def d34 : MDef := ⟨1, ["script"], 5, (.cons (.set 1 (.call 25 (.cons (.var 0) .nil)))
    (.cons (.unp [2, 3, 4] (.call 28 (.cons (.var 1) .nil)))
    (.cons (.ret (.and_ (.call 31 (.cons (.var 2) (.cons (.var 3) (.cons (.var 4) .nil)))) (.and_ (.call 32 (.cons (.var 2) (.cons (.var 3) (.cons (.var 4) .nil)))) (.call 33 (.cons (.var 2) (.cons (.var 3) .nil))))))
    .nil)))⟩
def r34 : DR := (["script", "pen", "a", "b", "c"], ⟨("law", none), "law", "law", C8.fnArgs (top 24), C8.fnBody (top 24), C8.fnScope (top 24), [], []⟩)
def ats : List (Str × Option Str) := [(("GrowthError" : Str), none), (("BadNumber" : Str), none), (("BadNumber" : Str), some ("__init__" : Str)), (("BadText" : Str), none), (("BadText" : Str), some ("__init__" : Str)), (("BadPoly" : Str), none), (("BadPoly" : Str), some ("__init__" : Str)), (("BadField" : Str), none), (("BadField" : Str), some ("__init__" : Str)), (("BadRow" : Str), none), (("BadRow" : Str), some ("__init__" : Str)), (("BadTable" : Str), none), (("BadTable" : Str), some ("__init__" : Str)), (("BadPaper" : Str), none), (("BadPaper" : Str), some ("__init__" : Str)), (("Unlike" : Str), none), (("Unlike" : Str), some ("__init__" : Str)), (("TooMany" : Str), none), (("TooMany" : Str), some ("__init__" : Str)), (("NoName" : Str), none), (("NoName" : Str), some ("__init__" : Str)), (("NothingToUndo" : Str), none), (("NothingToUndo" : Str), some ("__init__" : Str)), (("NothingToRedo" : Str), none), (("NothingToRedo" : Str), some ("__init__" : Str)), (("_law_pen" : Str), none), (("_law_draw" : Str), none), (("_law_pick" : Str), none), (("_law_values" : Str), none), (("_law_kinds_of" : Str), none), (("_law_alone" : Str), none), (("_law_first_right" : Str), none), (("_law_last_right" : Str), none), (("_law_is_caught" : Str), none), (("law" : Str), none)]
def gs : List MG := [.exc ⟨none, none⟩, .exc ⟨some 0, some 2⟩, .def_ d2, .exc ⟨some 0, some 4⟩, .def_ d4, .exc ⟨some 0, some 6⟩, .def_ d6, .exc ⟨some 0, some 8⟩, .def_ d8, .exc ⟨some 0, some 10⟩, .def_ d10, .exc ⟨some 0, some 12⟩, .def_ d12, .exc ⟨some 0, some 14⟩, .def_ d14, .exc ⟨some 0, some 16⟩, .def_ d16, .exc ⟨some 0, some 18⟩, .def_ d18, .exc ⟨some 0, some 20⟩, .def_ d20, .exc ⟨some 0, some 22⟩, .def_ d22, .exc ⟨some 0, some 24⟩, .def_ d24, .def_ d25, .def_ d26, .def_ d27, .def_ d28, .def_ d29, .def_ d30, .def_ d31, .def_ d32, .def_ d33, .def_ d34]
def p : Pg := ⟨ats, gs, ["number", "what", "column", "line", "value", "row", "table", "limit", "many", "name"], false⟩
def ds : List (Option DR) := [none, none, some r2, none, some r4, none, some r6, none, some r8, none, some r10, none, some r12, none, some r14, none, some r16, none, some r18, none, some r20, none, some r22, none, some r24, some r25, some r26, some r27, some r28, some r29, some r30, some r31, some r32, some r33, some r34]
def loose0 : List Str := ["GrowthError", "BadNumber", "BadText", "BadPoly", "BadField", "BadRow", "BadTable", "BadPaper", "Unlike", "TooMany", "NoName", "NothingToUndo", "NothingToRedo", "_law_pen", "_law_draw", "_law_pick", "_law_values", "_law_kinds_of", "_law_alone", "_law_first_right", "_law_last_right", "_law_is_caught"]
def loose : List Str := loose0
theorem sd : defsB p ds = true := by kernel_rfl
theorem st : p.staticB = true := by kernel_rfl
end Mini.K00
set_option autoImplicit false
set_option maxHeartbeats 4000000
/-! k00: the rows of all classes, walked with the values unknown. -/
namespace Mini
open PySem L2
def takeS : Nat → MSs → MSs
  | 0, _ => .nil
  | _ + 1, .nil => .nil
  | n + 1, .cons s r => .cons s (takeS n r)
def dropS : Nat → MSs → MSs
  | 0, r => r
  | _ + 1, .nil => .nil
  | n + 1, .cons _ r => dropS n r
theorem split_run {P : Prog} {cal : Nat → List AV → AH → R AV} {σ' : Sg} {h' : AH} : ∀ {k : Nat} {b : MSs} {σ : Sg} {h : AH}, evSs P cal (takeS k b) σ h = .nx σ' h' → evSs P cal b σ h = evSs P cal (dropS k b) σ' h'
  | 0, b, σ, h, e => by
    unfold takeS evSs at e
    cases e; rfl
  | k + 1, .nil, σ, h, e => by
    unfold takeS at e
    unfold evSs at e
    cases e
    rfl
  | k + 1, .cons s r, σ, h, e => by
    unfold takeS at e
    unfold dropS
    rw [evSs] at e ⊢
    cases q : evS P cal s σ h with
    | nx σ2 h2 => rw [q] at e; exact split_run (k := k) e
    | _ => rw [q] at e; cases e
namespace K00
abbrev P : Prog := p.Pr
/-- the values that are drawn from -/
def deepO : List AO := [.lst [.int 4], .lst [.int 3, .ref 3], .dct [("a", .int 1)], .lst [.tup [.int 1, .int 2], .ref 4, .ref 5, .str "", .str "abc", .int 0, .int (-7), .bl true, .non, .int 100000000000000000000000000000000000000000, .tup [], .tup [.tup []], .tup [.str "x", .non]]]
def Z0 (x0 x1 x2 : AO) (r : List AO) : AH := x0 :: x1 :: x2 :: (deepO ++ r)
/-- a value of those, its data -/
structure VD (v : AV) (d : PyData) : Prop where
  dat : ∀ (x0 x1 x2 : AO) (r : AH), toPyD (Z0 x0 x1 x2 r) 59 v = some d
  sh : Sh d
theorem VD.at {v : AV} {d : PyData} (x : VD v d) {h : AH} (e : ∃ x0 x1 x2 r, h = Z0 x0 x1 x2 r) : toPyD h 59 v = some d := by
  obtain ⟨x0, x1, x2, r, rfl⟩ := e
  exact x.dat x0 x1 x2 r
theorem Z0_app {h l : AH} (e : ∃ x0 x1 x2 r, h = Z0 x0 x1 x2 r) : ∃ x0 x1 x2 r, h ++ l = Z0 x0 x1 x2 r := by
  obtain ⟨x0, x1, x2, r, rfl⟩ := e
  exact ⟨x0, x1, x2, r ++ l, by simp [Z0]⟩
theorem ds0X {h : AH} (e : ∃ x0 x1 x2 r, h = Z0 x0 x1 x2 r) : ∃ ds, optAll (toPyD h 59) [] = some ds ∧ showOk (.list ds) = true := ⟨[], rfl, show_lst (by decide) (by simp)⟩
theorem ds1 {a : AV} {da : PyData} (ha : VD a da) {h : AH} (e : ∃ x0 x1 x2 r, h = Z0 x0 x1 x2 r) : ∃ ds, optAll (toPyD h 59) [a] = some ds ∧ showOk (.list ds) = true := ⟨[da], by simp only [optAll, ha.at e], show_lst (by simp) (by simpa using ha.sh)⟩
theorem ds2 {a b : AV} {da db : PyData} (ha : VD a da) (hb : VD b db) {h : AH} (e : ∃ x0 x1 x2 r, h = Z0 x0 x1 x2 r) : ∃ ds, optAll (toPyD h 59) [a, b] = some ds ∧ showOk (.list ds) = true :=
  ⟨[da, db], by simp only [optAll, ha.at e, hb.at e], show_lst (by simp) (by simpa using ⟨ha.sh, hb.sh⟩)⟩
theorem ds3 {a b c : AV} {da db dc : PyData} (ha : VD a da) (hb : VD b db) (hc : VD c dc) {h : AH} (e : ∃ x0 x1 x2 r, h = Z0 x0 x1 x2 r) : ∃ ds, optAll (toPyD h 59) [a, b, c] = some ds ∧ showOk (.list ds) = true :=
  ⟨[da, db, dc], by simp only [optAll, ha.at e, hb.at e, hc.at e], show_lst (by simp) (by simpa using ⟨ha.sh, hb.sh, hc.sh⟩)⟩
def reprE : ME := .cmp .eq (.bi .repr (.cons (.var 3) .nil)) (.bi .repr (.cons (.var 2) .nil))
def aloneE : ME := .call 30 (.cons (.var 6) (.cons (.var 7) (.cons (.var 8) (.cons (.var 9) .nil))))
def two (nm : Str) : List AO := [.lst [.str nm], .lst [.str nm]]
/-- a row's look, once its first three parts are told -/
theorem alone_end {cal : Nat → List AV → AH → R AV} {σ : Sg} {h : AH} {k l : Nat} {xs : List AV} {nm kf : AV} (e : σ = [some nm, some kf, some (.ref k), some (.ref l)]) (za : h[k]? = some (.lst xs)) (zb : h[l]? = some (.lst xs)) (d : ∃ ds, optAll (toPyD h 59) xs = some ds ∧ showOk (.list ds) = true) :
    fin (evSs P cal (.cons (.ret reprE) .nil) σ h) = .ok (.bl true) h := by
  subst e
  obtain ⟨ds, d1, d2⟩ := d
  have q : evE P cal reprE [some nm, some kf, some (.ref k), some (.ref l)] h = .ok (.bl true) h := repr2 (k := l) (l := k) rfl rfl zb za d1 d2
  rw [ss_rt (ret_run q)]
  rfl
def isE (g : Nat) : ME := .bi .isinst (.cons (.var 1) (.cons (.glo g) .nil))
def kindE : ME := .cmp .eq (.call 29 (.cons (.var 1) .nil)) (.lst (.cons (.var 0) .nil))
theorem and_t {cal : Nat → List AV → AH → R AV} {σ : Sg} {h h1 : AH} {x y : ME} {r : R AV} (e : evE P cal x σ h = .ok (.bl true) h1) (f : evE P cal y σ h1 = r) : evE P cal (.and_ x y) σ h = r := by
  rw [evE, e]
  exact f
theorem d30_body : d30.body = .cons (.ret (.and_ (isE 0) (.and_ (.bi .isinst (.cons (.var 1) (.cons (.ty "ValueError") .nil))) (.and_ kindE reprE)))) .nil := rfl
/-- _law_alone -/
theorem alone_run {n : Nat} {h h2 : AH} {k l : Nat} {xs : List AV} {nm kf : AV} (e1 : evE P (calA P (n + 1)) (isE 0) [some nm, some kf, some (.ref k), some (.ref l)] h = .ok (.bl true) h) (e2 : evE P (calA P (n + 1)) (.bi .isinst (.cons (.var 1) (.cons (.ty "ValueError") .nil))) [some nm, some kf, some (.ref k), some (.ref l)] h = .ok (.bl true) h)
    (e3 : evE P (calA P (n + 1)) kindE [some nm, some kf, some (.ref k), some (.ref l)] h = .ok (.bl true) h2) (za : h2[k]? = some (.lst xs)) (zb : h2[l]? = some (.lst xs)) (d : ∃ ds, optAll (toPyD h2 59) xs = some ds ∧ showOk (.list ds) = true) :
    calA P (n + 2) 30 [nm, kf, .ref k, .ref l] h = .ok (.bl true) h2 := by
  obtain ⟨ds, d1, d2⟩ := d
  have q : evE P (calA P (n + 1)) reprE [some nm, some kf, some (.ref k), some (.ref l)] h2 = .ok (.bl true) h2 := repr2 (k := l) (l := k) rfl rfl zb za d1 d2
  rw [calA_def (d := d30) rfl rfl]
  show fin (evSs P (calA P (n + 1)) d30.body [some nm, some kf, some (.ref k), some (.ref l)] h) = _
  rw [d30_body, ss_rt (ret_run (and_t e1 (and_t e2 (and_t e3 q))))]
  rfl
theorem aloneE_run {cal : Nat → List AV → AH → R AV} {σ : Sg} {h h2 : AH} {u v w x : AV} (a : getS σ 6 = some u) (b : getS σ 7 = some v) (c : getS σ 8 = some w) (d : getS σ 9 = some x) (e : cal 30 [u, v, w, x] h = .ok (.bl true) h2) : evE P cal aloneE σ h = .ok (.bl true) h2 := by
  unfold aloneE
  simp only [evE, evEs, a, b, c, d, bind_ok]
  rw [callP_def (d := d30) rfl rfl, e]
section
variable (x0 x1 x2 : AO) (a b c : AV)
def s1 (a b c : AV) : Sg := [some a, some b, some c, some (AV.ref 8), some (AV.ref 49), some (AV.ref 51), none, none, none, none]
def rows1 : List AV := [AV.tup
          [AV.str ("BadNumber" : Str), AV.ref 9, AV.ref 13, AV.ref 14],
    AV.tup
          [AV.str ("BadNumber" : Str), AV.ref 11, AV.ref 15, AV.ref 16],
    AV.tup [AV.str ("BadText" : Str), AV.ref 17, AV.ref 21, AV.ref 22],
    AV.tup [AV.str ("BadText" : Str), AV.ref 19, AV.ref 23, AV.ref 24],
    AV.tup [AV.str ("BadPoly" : Str), AV.ref 25, AV.ref 29, AV.ref 30],
    AV.tup [AV.str ("BadPoly" : Str), AV.ref 27, AV.ref 31, AV.ref 32],
    AV.tup [AV.str ("BadField" : Str), AV.ref 33, AV.ref 37, AV.ref 38],
    AV.tup [AV.str ("BadField" : Str), AV.ref 35, AV.ref 39, AV.ref 40],
    AV.tup [AV.str ("BadRow" : Str), AV.ref 41, AV.ref 45, AV.ref 46],
    AV.tup [AV.str ("BadRow" : Str), AV.ref 43, AV.ref 47, AV.ref 48],
    AV.tup [AV.str ("BadTable" : Str), AV.ref 49, AV.ref 53, AV.ref 54],
    AV.tup [AV.str ("BadTable" : Str), AV.ref 51, AV.ref 55, AV.ref 56]]
def nm1 : List Str := [("BadNumber" : Str), ("BadNumber" : Str), ("BadText" : Str), ("BadText" : Str), ("BadPoly" : Str), ("BadPoly" : Str), ("BadField" : Str), ("BadField" : Str), ("BadRow" : Str), ("BadRow" : Str), ("BadTable" : Str), ("BadTable" : Str)]
def N1 (a b c : AV) : List AO := [AO.lst rows1,
    AO.exn 1 (some 10),
    AO.xdc
      [(("number" : Str), b), (("what" : Str), a)],
    AO.exn 1 (some 12),
    AO.xdc
      [(("number" : Str), b), (("what" : Str), a)],
    AO.lst [a, b],
    AO.lst [a, b],
    AO.lst [a, b],
    AO.lst [a, b],
    AO.exn 3 (some 18),
    AO.xdc
      [(("column" : Str), b), (("line" : Str), a)],
    AO.exn 3 (some 20),
    AO.xdc
      [(("column" : Str), b), (("line" : Str), a)],
    AO.lst [a, b],
    AO.lst [a, b],
    AO.lst [a, b],
    AO.lst [a, b],
    AO.exn 5 (some 26),
    AO.xdc [(("value" : Str), a)],
    AO.exn 5 (some 28),
    AO.xdc [(("value" : Str), a)],
    AO.lst [a],
    AO.lst [a],
    AO.lst [a],
    AO.lst [a],
    AO.exn 7 (some 34),
    AO.xdc [(("value" : Str), a)],
    AO.exn 7 (some 36),
    AO.xdc [(("value" : Str), a)],
    AO.lst [a],
    AO.lst [a],
    AO.lst [a],
    AO.lst [a],
    AO.exn 9 (some 42),
    AO.xdc [(("row" : Str), a)],
    AO.exn 9 (some 44),
    AO.xdc [(("row" : Str), a)],
    AO.lst [a],
    AO.lst [a],
    AO.lst [a],
    AO.lst [a],
    AO.exn 11 (some 50),
    AO.xdc [(("table" : Str), a)],
    AO.exn 11 (some 52),
    AO.xdc [(("table" : Str), a)],
    AO.lst [a],
    AO.lst [a],
    AO.lst [a],
    AO.lst [a]]
def H1 : AH := Z0 x0 x1 x2 [.lst [a, b, c]] ++ N1 a b c
def Hs1 (i : Nat) : AH := H1 x0 x1 x2 a b c ++ (.lst (List.replicate i (.bl true)) :: (nm1.take i).flatMap two)
theorem pre1 : evSs P (calA P 38) (takeS 25 d31.body) [some a, some b, some c, none, none, none, none, none, none, none] (Z0 x0 x1 x2 [.lst [a, b, c]]) = .nx (s1 a b c) (H1 x0 x1 x2 a b c) := by kernel_rfl
theorem isZ1 (l : List AO) : ∃ y0 y1 y2 r, H1 x0 x1 x2 a b c ++ l = Z0 y0 y1 y2 r := ⟨x0, x1, x2, _, rfl⟩
theorem row1_0 {da db dc : PyData} (ha : VD a da) (hb : VD b db) (hc : VD c dc) : compTurn 57 [6, 7, 8, 9] (.tup [6, 7, 8, 9]) (evE P (calA P 38) aloneE) (AV.tup
          [AV.str ("BadNumber" : Str), AV.ref 9, AV.ref 13, AV.ref 14]) (s1 a b c) (Hs1 x0 x1 x2 a b c 0) = .nx (s1 a b c) (Hs1 x0 x1 x2 a b c 1) := by
  have e := aloneE_run (cal := calA P 38) (σ := (s1 a b c).take 6 ++ [some (.str "BadNumber"), some (.ref 9), some (.ref 13), some (.ref 14)]) (h := Hs1 x0 x1 x2 a b c 0) (h2 := Hs1 x0 x1 x2 a b c 0 ++ two "BadNumber") rfl rfl rfl rfl (alone_run (n := 36) (by kernel_rfl) (by kernel_rfl) (by kernel_rfl) (show _ = some (AO.lst [a, b]) by kernel_rfl) (show _ = some (AO.lst [a, b]) by kernel_rfl) (ds2 ha hb (by unfold Hs1; rw [List.append_assoc]; exact isZ1 x0 x1 x2 a b c _)))
  have p1 : putT (wipeS (s1 a b c) [6, 7, 8, 9]) (Hs1 x0 x1 x2 a b c 0) (.tup [6, 7, 8, 9]) (AV.tup
          [AV.str ("BadNumber" : Str), AV.ref 9, AV.ref 13, AV.ref 14]) = some ((s1 a b c).take 6 ++ [some (.str "BadNumber"), some (.ref 9), some (.ref 13), some (.ref 14)]) := by kernel_rfl
  have p2 : (Hs1 x0 x1 x2 a b c 0 ++ two "BadNumber")[57]? = some (.lst (List.replicate 0 (.bl true))) := by kernel_rfl
  have p3 : (List.replicate 0 (AV.bl true)).length < sizeLine := by decide
  have p4 := ct_run (P := P) p1 e p2 p3
  have p5 : RS.nx (s1 a b c) ((Hs1 x0 x1 x2 a b c 0 ++ two "BadNumber").set 57 (.lst (List.replicate 0 (.bl true) ++ [.bl true]))) = .nx (s1 a b c) (Hs1 x0 x1 x2 a b c 1) := by kernel_rfl
  exact p4.trans p5
theorem row1_1 {da db dc : PyData} (ha : VD a da) (hb : VD b db) (hc : VD c dc) : compTurn 57 [6, 7, 8, 9] (.tup [6, 7, 8, 9]) (evE P (calA P 38) aloneE) (AV.tup
          [AV.str ("BadNumber" : Str), AV.ref 11, AV.ref 15, AV.ref 16]) (s1 a b c) (Hs1 x0 x1 x2 a b c 1) = .nx (s1 a b c) (Hs1 x0 x1 x2 a b c 2) := by
  have e := aloneE_run (cal := calA P 38) (σ := (s1 a b c).take 6 ++ [some (.str "BadNumber"), some (.ref 11), some (.ref 15), some (.ref 16)]) (h := Hs1 x0 x1 x2 a b c 1) (h2 := Hs1 x0 x1 x2 a b c 1 ++ two "BadNumber") rfl rfl rfl rfl (alone_run (n := 36) (by kernel_rfl) (by kernel_rfl) (by kernel_rfl) (show _ = some (AO.lst [a, b]) by kernel_rfl) (show _ = some (AO.lst [a, b]) by kernel_rfl) (ds2 ha hb (by unfold Hs1; rw [List.append_assoc]; exact isZ1 x0 x1 x2 a b c _)))
  have p1 : putT (wipeS (s1 a b c) [6, 7, 8, 9]) (Hs1 x0 x1 x2 a b c 1) (.tup [6, 7, 8, 9]) (AV.tup
          [AV.str ("BadNumber" : Str), AV.ref 11, AV.ref 15, AV.ref 16]) = some ((s1 a b c).take 6 ++ [some (.str "BadNumber"), some (.ref 11), some (.ref 15), some (.ref 16)]) := by kernel_rfl
  have p2 : (Hs1 x0 x1 x2 a b c 1 ++ two "BadNumber")[57]? = some (.lst (List.replicate 1 (.bl true))) := by kernel_rfl
  have p3 : (List.replicate 1 (AV.bl true)).length < sizeLine := by decide
  have p4 := ct_run (P := P) p1 e p2 p3
  have p5 : RS.nx (s1 a b c) ((Hs1 x0 x1 x2 a b c 1 ++ two "BadNumber").set 57 (.lst (List.replicate 1 (.bl true) ++ [.bl true]))) = .nx (s1 a b c) (Hs1 x0 x1 x2 a b c 2) := by kernel_rfl
  exact p4.trans p5
theorem row1_2 {da db dc : PyData} (ha : VD a da) (hb : VD b db) (hc : VD c dc) : compTurn 57 [6, 7, 8, 9] (.tup [6, 7, 8, 9]) (evE P (calA P 38) aloneE) (AV.tup [AV.str ("BadText" : Str), AV.ref 17, AV.ref 21, AV.ref 22]) (s1 a b c) (Hs1 x0 x1 x2 a b c 2) = .nx (s1 a b c) (Hs1 x0 x1 x2 a b c 3) := by
  have e := aloneE_run (cal := calA P 38) (σ := (s1 a b c).take 6 ++ [some (.str "BadText"), some (.ref 17), some (.ref 21), some (.ref 22)]) (h := Hs1 x0 x1 x2 a b c 2) (h2 := Hs1 x0 x1 x2 a b c 2 ++ two "BadText") rfl rfl rfl rfl (alone_run (n := 36) (by kernel_rfl) (by kernel_rfl) (by kernel_rfl) (show _ = some (AO.lst [a, b]) by kernel_rfl) (show _ = some (AO.lst [a, b]) by kernel_rfl) (ds2 ha hb (by unfold Hs1; rw [List.append_assoc]; exact isZ1 x0 x1 x2 a b c _)))
  have p1 : putT (wipeS (s1 a b c) [6, 7, 8, 9]) (Hs1 x0 x1 x2 a b c 2) (.tup [6, 7, 8, 9]) (AV.tup [AV.str ("BadText" : Str), AV.ref 17, AV.ref 21, AV.ref 22]) = some ((s1 a b c).take 6 ++ [some (.str "BadText"), some (.ref 17), some (.ref 21), some (.ref 22)]) := by kernel_rfl
  have p2 : (Hs1 x0 x1 x2 a b c 2 ++ two "BadText")[57]? = some (.lst (List.replicate 2 (.bl true))) := by kernel_rfl
  have p3 : (List.replicate 2 (AV.bl true)).length < sizeLine := by decide
  have p4 := ct_run (P := P) p1 e p2 p3
  have p5 : RS.nx (s1 a b c) ((Hs1 x0 x1 x2 a b c 2 ++ two "BadText").set 57 (.lst (List.replicate 2 (.bl true) ++ [.bl true]))) = .nx (s1 a b c) (Hs1 x0 x1 x2 a b c 3) := by kernel_rfl
  exact p4.trans p5
theorem row1_3 {da db dc : PyData} (ha : VD a da) (hb : VD b db) (hc : VD c dc) : compTurn 57 [6, 7, 8, 9] (.tup [6, 7, 8, 9]) (evE P (calA P 38) aloneE) (AV.tup [AV.str ("BadText" : Str), AV.ref 19, AV.ref 23, AV.ref 24]) (s1 a b c) (Hs1 x0 x1 x2 a b c 3) = .nx (s1 a b c) (Hs1 x0 x1 x2 a b c 4) := by
  have e := aloneE_run (cal := calA P 38) (σ := (s1 a b c).take 6 ++ [some (.str "BadText"), some (.ref 19), some (.ref 23), some (.ref 24)]) (h := Hs1 x0 x1 x2 a b c 3) (h2 := Hs1 x0 x1 x2 a b c 3 ++ two "BadText") rfl rfl rfl rfl (alone_run (n := 36) (by kernel_rfl) (by kernel_rfl) (by kernel_rfl) (show _ = some (AO.lst [a, b]) by kernel_rfl) (show _ = some (AO.lst [a, b]) by kernel_rfl) (ds2 ha hb (by unfold Hs1; rw [List.append_assoc]; exact isZ1 x0 x1 x2 a b c _)))
  have p1 : putT (wipeS (s1 a b c) [6, 7, 8, 9]) (Hs1 x0 x1 x2 a b c 3) (.tup [6, 7, 8, 9]) (AV.tup [AV.str ("BadText" : Str), AV.ref 19, AV.ref 23, AV.ref 24]) = some ((s1 a b c).take 6 ++ [some (.str "BadText"), some (.ref 19), some (.ref 23), some (.ref 24)]) := by kernel_rfl
  have p2 : (Hs1 x0 x1 x2 a b c 3 ++ two "BadText")[57]? = some (.lst (List.replicate 3 (.bl true))) := by kernel_rfl
  have p3 : (List.replicate 3 (AV.bl true)).length < sizeLine := by decide
  have p4 := ct_run (P := P) p1 e p2 p3
  have p5 : RS.nx (s1 a b c) ((Hs1 x0 x1 x2 a b c 3 ++ two "BadText").set 57 (.lst (List.replicate 3 (.bl true) ++ [.bl true]))) = .nx (s1 a b c) (Hs1 x0 x1 x2 a b c 4) := by kernel_rfl
  exact p4.trans p5
theorem row1_4 {da db dc : PyData} (ha : VD a da) (hb : VD b db) (hc : VD c dc) : compTurn 57 [6, 7, 8, 9] (.tup [6, 7, 8, 9]) (evE P (calA P 38) aloneE) (AV.tup [AV.str ("BadPoly" : Str), AV.ref 25, AV.ref 29, AV.ref 30]) (s1 a b c) (Hs1 x0 x1 x2 a b c 4) = .nx (s1 a b c) (Hs1 x0 x1 x2 a b c 5) := by
  have e := aloneE_run (cal := calA P 38) (σ := (s1 a b c).take 6 ++ [some (.str "BadPoly"), some (.ref 25), some (.ref 29), some (.ref 30)]) (h := Hs1 x0 x1 x2 a b c 4) (h2 := Hs1 x0 x1 x2 a b c 4 ++ two "BadPoly") rfl rfl rfl rfl (alone_run (n := 36) (by kernel_rfl) (by kernel_rfl) (by kernel_rfl) (show _ = some (AO.lst [a]) by kernel_rfl) (show _ = some (AO.lst [a]) by kernel_rfl) (ds1 ha (by unfold Hs1; rw [List.append_assoc]; exact isZ1 x0 x1 x2 a b c _)))
  have p1 : putT (wipeS (s1 a b c) [6, 7, 8, 9]) (Hs1 x0 x1 x2 a b c 4) (.tup [6, 7, 8, 9]) (AV.tup [AV.str ("BadPoly" : Str), AV.ref 25, AV.ref 29, AV.ref 30]) = some ((s1 a b c).take 6 ++ [some (.str "BadPoly"), some (.ref 25), some (.ref 29), some (.ref 30)]) := by kernel_rfl
  have p2 : (Hs1 x0 x1 x2 a b c 4 ++ two "BadPoly")[57]? = some (.lst (List.replicate 4 (.bl true))) := by kernel_rfl
  have p3 : (List.replicate 4 (AV.bl true)).length < sizeLine := by decide
  have p4 := ct_run (P := P) p1 e p2 p3
  have p5 : RS.nx (s1 a b c) ((Hs1 x0 x1 x2 a b c 4 ++ two "BadPoly").set 57 (.lst (List.replicate 4 (.bl true) ++ [.bl true]))) = .nx (s1 a b c) (Hs1 x0 x1 x2 a b c 5) := by kernel_rfl
  exact p4.trans p5
theorem row1_5 {da db dc : PyData} (ha : VD a da) (hb : VD b db) (hc : VD c dc) : compTurn 57 [6, 7, 8, 9] (.tup [6, 7, 8, 9]) (evE P (calA P 38) aloneE) (AV.tup [AV.str ("BadPoly" : Str), AV.ref 27, AV.ref 31, AV.ref 32]) (s1 a b c) (Hs1 x0 x1 x2 a b c 5) = .nx (s1 a b c) (Hs1 x0 x1 x2 a b c 6) := by
  have e := aloneE_run (cal := calA P 38) (σ := (s1 a b c).take 6 ++ [some (.str "BadPoly"), some (.ref 27), some (.ref 31), some (.ref 32)]) (h := Hs1 x0 x1 x2 a b c 5) (h2 := Hs1 x0 x1 x2 a b c 5 ++ two "BadPoly") rfl rfl rfl rfl (alone_run (n := 36) (by kernel_rfl) (by kernel_rfl) (by kernel_rfl) (show _ = some (AO.lst [a]) by kernel_rfl) (show _ = some (AO.lst [a]) by kernel_rfl) (ds1 ha (by unfold Hs1; rw [List.append_assoc]; exact isZ1 x0 x1 x2 a b c _)))
  have p1 : putT (wipeS (s1 a b c) [6, 7, 8, 9]) (Hs1 x0 x1 x2 a b c 5) (.tup [6, 7, 8, 9]) (AV.tup [AV.str ("BadPoly" : Str), AV.ref 27, AV.ref 31, AV.ref 32]) = some ((s1 a b c).take 6 ++ [some (.str "BadPoly"), some (.ref 27), some (.ref 31), some (.ref 32)]) := by kernel_rfl
  have p2 : (Hs1 x0 x1 x2 a b c 5 ++ two "BadPoly")[57]? = some (.lst (List.replicate 5 (.bl true))) := by kernel_rfl
  have p3 : (List.replicate 5 (AV.bl true)).length < sizeLine := by decide
  have p4 := ct_run (P := P) p1 e p2 p3
  have p5 : RS.nx (s1 a b c) ((Hs1 x0 x1 x2 a b c 5 ++ two "BadPoly").set 57 (.lst (List.replicate 5 (.bl true) ++ [.bl true]))) = .nx (s1 a b c) (Hs1 x0 x1 x2 a b c 6) := by kernel_rfl
  exact p4.trans p5
theorem row1_6 {da db dc : PyData} (ha : VD a da) (hb : VD b db) (hc : VD c dc) : compTurn 57 [6, 7, 8, 9] (.tup [6, 7, 8, 9]) (evE P (calA P 38) aloneE) (AV.tup [AV.str ("BadField" : Str), AV.ref 33, AV.ref 37, AV.ref 38]) (s1 a b c) (Hs1 x0 x1 x2 a b c 6) = .nx (s1 a b c) (Hs1 x0 x1 x2 a b c 7) := by
  have e := aloneE_run (cal := calA P 38) (σ := (s1 a b c).take 6 ++ [some (.str "BadField"), some (.ref 33), some (.ref 37), some (.ref 38)]) (h := Hs1 x0 x1 x2 a b c 6) (h2 := Hs1 x0 x1 x2 a b c 6 ++ two "BadField") rfl rfl rfl rfl (alone_run (n := 36) (by kernel_rfl) (by kernel_rfl) (by kernel_rfl) (show _ = some (AO.lst [a]) by kernel_rfl) (show _ = some (AO.lst [a]) by kernel_rfl) (ds1 ha (by unfold Hs1; rw [List.append_assoc]; exact isZ1 x0 x1 x2 a b c _)))
  have p1 : putT (wipeS (s1 a b c) [6, 7, 8, 9]) (Hs1 x0 x1 x2 a b c 6) (.tup [6, 7, 8, 9]) (AV.tup [AV.str ("BadField" : Str), AV.ref 33, AV.ref 37, AV.ref 38]) = some ((s1 a b c).take 6 ++ [some (.str "BadField"), some (.ref 33), some (.ref 37), some (.ref 38)]) := by kernel_rfl
  have p2 : (Hs1 x0 x1 x2 a b c 6 ++ two "BadField")[57]? = some (.lst (List.replicate 6 (.bl true))) := by kernel_rfl
  have p3 : (List.replicate 6 (AV.bl true)).length < sizeLine := by decide
  have p4 := ct_run (P := P) p1 e p2 p3
  have p5 : RS.nx (s1 a b c) ((Hs1 x0 x1 x2 a b c 6 ++ two "BadField").set 57 (.lst (List.replicate 6 (.bl true) ++ [.bl true]))) = .nx (s1 a b c) (Hs1 x0 x1 x2 a b c 7) := by kernel_rfl
  exact p4.trans p5
theorem row1_7 {da db dc : PyData} (ha : VD a da) (hb : VD b db) (hc : VD c dc) : compTurn 57 [6, 7, 8, 9] (.tup [6, 7, 8, 9]) (evE P (calA P 38) aloneE) (AV.tup [AV.str ("BadField" : Str), AV.ref 35, AV.ref 39, AV.ref 40]) (s1 a b c) (Hs1 x0 x1 x2 a b c 7) = .nx (s1 a b c) (Hs1 x0 x1 x2 a b c 8) := by
  have e := aloneE_run (cal := calA P 38) (σ := (s1 a b c).take 6 ++ [some (.str "BadField"), some (.ref 35), some (.ref 39), some (.ref 40)]) (h := Hs1 x0 x1 x2 a b c 7) (h2 := Hs1 x0 x1 x2 a b c 7 ++ two "BadField") rfl rfl rfl rfl (alone_run (n := 36) (by kernel_rfl) (by kernel_rfl) (by kernel_rfl) (show _ = some (AO.lst [a]) by kernel_rfl) (show _ = some (AO.lst [a]) by kernel_rfl) (ds1 ha (by unfold Hs1; rw [List.append_assoc]; exact isZ1 x0 x1 x2 a b c _)))
  have p1 : putT (wipeS (s1 a b c) [6, 7, 8, 9]) (Hs1 x0 x1 x2 a b c 7) (.tup [6, 7, 8, 9]) (AV.tup [AV.str ("BadField" : Str), AV.ref 35, AV.ref 39, AV.ref 40]) = some ((s1 a b c).take 6 ++ [some (.str "BadField"), some (.ref 35), some (.ref 39), some (.ref 40)]) := by kernel_rfl
  have p2 : (Hs1 x0 x1 x2 a b c 7 ++ two "BadField")[57]? = some (.lst (List.replicate 7 (.bl true))) := by kernel_rfl
  have p3 : (List.replicate 7 (AV.bl true)).length < sizeLine := by decide
  have p4 := ct_run (P := P) p1 e p2 p3
  have p5 : RS.nx (s1 a b c) ((Hs1 x0 x1 x2 a b c 7 ++ two "BadField").set 57 (.lst (List.replicate 7 (.bl true) ++ [.bl true]))) = .nx (s1 a b c) (Hs1 x0 x1 x2 a b c 8) := by kernel_rfl
  exact p4.trans p5
theorem row1_8 {da db dc : PyData} (ha : VD a da) (hb : VD b db) (hc : VD c dc) : compTurn 57 [6, 7, 8, 9] (.tup [6, 7, 8, 9]) (evE P (calA P 38) aloneE) (AV.tup [AV.str ("BadRow" : Str), AV.ref 41, AV.ref 45, AV.ref 46]) (s1 a b c) (Hs1 x0 x1 x2 a b c 8) = .nx (s1 a b c) (Hs1 x0 x1 x2 a b c 9) := by
  have e := aloneE_run (cal := calA P 38) (σ := (s1 a b c).take 6 ++ [some (.str "BadRow"), some (.ref 41), some (.ref 45), some (.ref 46)]) (h := Hs1 x0 x1 x2 a b c 8) (h2 := Hs1 x0 x1 x2 a b c 8 ++ two "BadRow") rfl rfl rfl rfl (alone_run (n := 36) (by kernel_rfl) (by kernel_rfl) (by kernel_rfl) (show _ = some (AO.lst [a]) by kernel_rfl) (show _ = some (AO.lst [a]) by kernel_rfl) (ds1 ha (by unfold Hs1; rw [List.append_assoc]; exact isZ1 x0 x1 x2 a b c _)))
  have p1 : putT (wipeS (s1 a b c) [6, 7, 8, 9]) (Hs1 x0 x1 x2 a b c 8) (.tup [6, 7, 8, 9]) (AV.tup [AV.str ("BadRow" : Str), AV.ref 41, AV.ref 45, AV.ref 46]) = some ((s1 a b c).take 6 ++ [some (.str "BadRow"), some (.ref 41), some (.ref 45), some (.ref 46)]) := by kernel_rfl
  have p2 : (Hs1 x0 x1 x2 a b c 8 ++ two "BadRow")[57]? = some (.lst (List.replicate 8 (.bl true))) := by kernel_rfl
  have p3 : (List.replicate 8 (AV.bl true)).length < sizeLine := by decide
  have p4 := ct_run (P := P) p1 e p2 p3
  have p5 : RS.nx (s1 a b c) ((Hs1 x0 x1 x2 a b c 8 ++ two "BadRow").set 57 (.lst (List.replicate 8 (.bl true) ++ [.bl true]))) = .nx (s1 a b c) (Hs1 x0 x1 x2 a b c 9) := by kernel_rfl
  exact p4.trans p5
theorem row1_9 {da db dc : PyData} (ha : VD a da) (hb : VD b db) (hc : VD c dc) : compTurn 57 [6, 7, 8, 9] (.tup [6, 7, 8, 9]) (evE P (calA P 38) aloneE) (AV.tup [AV.str ("BadRow" : Str), AV.ref 43, AV.ref 47, AV.ref 48]) (s1 a b c) (Hs1 x0 x1 x2 a b c 9) = .nx (s1 a b c) (Hs1 x0 x1 x2 a b c 10) := by
  have e := aloneE_run (cal := calA P 38) (σ := (s1 a b c).take 6 ++ [some (.str "BadRow"), some (.ref 43), some (.ref 47), some (.ref 48)]) (h := Hs1 x0 x1 x2 a b c 9) (h2 := Hs1 x0 x1 x2 a b c 9 ++ two "BadRow") rfl rfl rfl rfl (alone_run (n := 36) (by kernel_rfl) (by kernel_rfl) (by kernel_rfl) (show _ = some (AO.lst [a]) by kernel_rfl) (show _ = some (AO.lst [a]) by kernel_rfl) (ds1 ha (by unfold Hs1; rw [List.append_assoc]; exact isZ1 x0 x1 x2 a b c _)))
  have p1 : putT (wipeS (s1 a b c) [6, 7, 8, 9]) (Hs1 x0 x1 x2 a b c 9) (.tup [6, 7, 8, 9]) (AV.tup [AV.str ("BadRow" : Str), AV.ref 43, AV.ref 47, AV.ref 48]) = some ((s1 a b c).take 6 ++ [some (.str "BadRow"), some (.ref 43), some (.ref 47), some (.ref 48)]) := by kernel_rfl
  have p2 : (Hs1 x0 x1 x2 a b c 9 ++ two "BadRow")[57]? = some (.lst (List.replicate 9 (.bl true))) := by kernel_rfl
  have p3 : (List.replicate 9 (AV.bl true)).length < sizeLine := by decide
  have p4 := ct_run (P := P) p1 e p2 p3
  have p5 : RS.nx (s1 a b c) ((Hs1 x0 x1 x2 a b c 9 ++ two "BadRow").set 57 (.lst (List.replicate 9 (.bl true) ++ [.bl true]))) = .nx (s1 a b c) (Hs1 x0 x1 x2 a b c 10) := by kernel_rfl
  exact p4.trans p5
theorem row1_10 {da db dc : PyData} (ha : VD a da) (hb : VD b db) (hc : VD c dc) : compTurn 57 [6, 7, 8, 9] (.tup [6, 7, 8, 9]) (evE P (calA P 38) aloneE) (AV.tup [AV.str ("BadTable" : Str), AV.ref 49, AV.ref 53, AV.ref 54]) (s1 a b c) (Hs1 x0 x1 x2 a b c 10) = .nx (s1 a b c) (Hs1 x0 x1 x2 a b c 11) := by
  have e := aloneE_run (cal := calA P 38) (σ := (s1 a b c).take 6 ++ [some (.str "BadTable"), some (.ref 49), some (.ref 53), some (.ref 54)]) (h := Hs1 x0 x1 x2 a b c 10) (h2 := Hs1 x0 x1 x2 a b c 10 ++ two "BadTable") rfl rfl rfl rfl (alone_run (n := 36) (by kernel_rfl) (by kernel_rfl) (by kernel_rfl) (show _ = some (AO.lst [a]) by kernel_rfl) (show _ = some (AO.lst [a]) by kernel_rfl) (ds1 ha (by unfold Hs1; rw [List.append_assoc]; exact isZ1 x0 x1 x2 a b c _)))
  have p1 : putT (wipeS (s1 a b c) [6, 7, 8, 9]) (Hs1 x0 x1 x2 a b c 10) (.tup [6, 7, 8, 9]) (AV.tup [AV.str ("BadTable" : Str), AV.ref 49, AV.ref 53, AV.ref 54]) = some ((s1 a b c).take 6 ++ [some (.str "BadTable"), some (.ref 49), some (.ref 53), some (.ref 54)]) := by kernel_rfl
  have p2 : (Hs1 x0 x1 x2 a b c 10 ++ two "BadTable")[57]? = some (.lst (List.replicate 10 (.bl true))) := by kernel_rfl
  have p3 : (List.replicate 10 (AV.bl true)).length < sizeLine := by decide
  have p4 := ct_run (P := P) p1 e p2 p3
  have p5 : RS.nx (s1 a b c) ((Hs1 x0 x1 x2 a b c 10 ++ two "BadTable").set 57 (.lst (List.replicate 10 (.bl true) ++ [.bl true]))) = .nx (s1 a b c) (Hs1 x0 x1 x2 a b c 11) := by kernel_rfl
  exact p4.trans p5
theorem row1_11 {da db dc : PyData} (ha : VD a da) (hb : VD b db) (hc : VD c dc) : compTurn 57 [6, 7, 8, 9] (.tup [6, 7, 8, 9]) (evE P (calA P 38) aloneE) (AV.tup [AV.str ("BadTable" : Str), AV.ref 51, AV.ref 55, AV.ref 56]) (s1 a b c) (Hs1 x0 x1 x2 a b c 11) = .nx (s1 a b c) (Hs1 x0 x1 x2 a b c 12) := by
  have e := aloneE_run (cal := calA P 38) (σ := (s1 a b c).take 6 ++ [some (.str "BadTable"), some (.ref 51), some (.ref 55), some (.ref 56)]) (h := Hs1 x0 x1 x2 a b c 11) (h2 := Hs1 x0 x1 x2 a b c 11 ++ two "BadTable") rfl rfl rfl rfl (alone_run (n := 36) (by kernel_rfl) (by kernel_rfl) (by kernel_rfl) (show _ = some (AO.lst [a]) by kernel_rfl) (show _ = some (AO.lst [a]) by kernel_rfl) (ds1 ha (by unfold Hs1; rw [List.append_assoc]; exact isZ1 x0 x1 x2 a b c _)))
  have p1 : putT (wipeS (s1 a b c) [6, 7, 8, 9]) (Hs1 x0 x1 x2 a b c 11) (.tup [6, 7, 8, 9]) (AV.tup [AV.str ("BadTable" : Str), AV.ref 51, AV.ref 55, AV.ref 56]) = some ((s1 a b c).take 6 ++ [some (.str "BadTable"), some (.ref 51), some (.ref 55), some (.ref 56)]) := by kernel_rfl
  have p2 : (Hs1 x0 x1 x2 a b c 11 ++ two "BadTable")[57]? = some (.lst (List.replicate 11 (.bl true))) := by kernel_rfl
  have p3 : (List.replicate 11 (AV.bl true)).length < sizeLine := by decide
  have p4 := ct_run (P := P) p1 e p2 p3
  have p5 : RS.nx (s1 a b c) ((Hs1 x0 x1 x2 a b c 11 ++ two "BadTable").set 57 (.lst (List.replicate 11 (.bl true) ++ [.bl true]))) = .nx (s1 a b c) (Hs1 x0 x1 x2 a b c 12) := by kernel_rfl
  exact p4.trans p5
theorem seqs1 : ∀ i, seqOf (Hs1 x0 x1 x2 a b c i) (.ref 8) = some rows1 := fun i => by kernel_rfl
theorem turns1 {da db dc : PyData} (ha : VD a da) (hb : VD b db) (hc : VD c dc) : ∀ i x, rows1[i]? = some x → compTurn 57 [6, 7, 8, 9] (.tup [6, 7, 8, 9]) (evE P (calA P 38) aloneE) x (s1 a b c) (Hs1 x0 x1 x2 a b c i) = .nx (s1 a b c) (Hs1 x0 x1 x2 a b c (i + 1))
  | 0, x, h => by cases h; exact row1_0 x0 x1 x2 a b c ha hb hc
  | 1, x, h => by cases h; exact row1_1 x0 x1 x2 a b c ha hb hc
  | 2, x, h => by cases h; exact row1_2 x0 x1 x2 a b c ha hb hc
  | 3, x, h => by cases h; exact row1_3 x0 x1 x2 a b c ha hb hc
  | 4, x, h => by cases h; exact row1_4 x0 x1 x2 a b c ha hb hc
  | 5, x, h => by cases h; exact row1_5 x0 x1 x2 a b c ha hb hc
  | 6, x, h => by cases h; exact row1_6 x0 x1 x2 a b c ha hb hc
  | 7, x, h => by cases h; exact row1_7 x0 x1 x2 a b c ha hb hc
  | 8, x, h => by cases h; exact row1_8 x0 x1 x2 a b c ha hb hc
  | 9, x, h => by cases h; exact row1_9 x0 x1 x2 a b c ha hb hc
  | 10, x, h => by cases h; exact row1_10 x0 x1 x2 a b c ha hb hc
  | 11, x, h => by cases h; exact row1_11 x0 x1 x2 a b c ha hb hc
  | n + 12, x, h => by cases h
theorem all1 {da db dc : PyData} (ha : VD a da) (hb : VD b db) (hc : VD c dc) : calA P 39 31 [a, b, c] (Z0 x0 x1 x2 [.lst [a, b, c]]) = .ok (.bl true) (Hs1 x0 x1 x2 a b c 12) := by
  rw [calA_def (d := d31) rfl rfl]
  show fin (evSs P (calA P 38) d31.body [some a, some b, some c, none, none, none, none, none, none, none] _) = _
  rw [split_run (pre1 x0 x1 x2 a b c)]
  show fin (evSs P (calA P 38) (.cons (.ret (.bi .all (.cons (.comp (.tup [6, 7, 8, 9]) (.seq (.var 3)) aloneE [6, 7, 8, 9]) .nil))) .nil) (s1 a b c) (H1 x0 x1 x2 a b c)) = _
  have w := walk_rows (f := compTurn 57 [6, 7, 8, 9] (.tup [6, 7, 8, 9]) (evE P (calA P 38) aloneE)) (k := 8) (n := 12) (σ := s1 a b c) (xs := rows1) (Hs := Hs1 x0 x1 x2 a b c) rfl (fun i _ => seqs1 x0 x1 x2 a b c i) (turns1 x0 x1 x2 a b c ha hb hc)
  have hl : (H1 x0 x1 x2 a b c).length = 57 := by kernel_rfl
  have ec : evE P (calA P 38) (.comp (.tup [6, 7, 8, 9]) (.seq (.var 3)) aloneE [6, 7, 8, 9]) (s1 a b c) (H1 x0 x1 x2 a b c) = .ok (.ref 57) (Hs1 x0 x1 x2 a b c 12) := by
    rw [evE]
    have ei : evI P (calA P 38) (.seq (.var 3)) (s1 a b c) (H1 x0 x1 x2 a b c) = .ok (.lst 8) (H1 x0 x1 x2 a b c) := by kernel_rfl
    rw [ei]
    show kComp (H1 x0 x1 x2 a b c).length (walkI (compTurn (H1 x0 x1 x2 a b c).length [6, 7, 8, 9] (.tup [6, 7, 8, 9]) (evE P (calA P 38) aloneE)) (.lst 8) (s1 a b c) (H1 x0 x1 x2 a b c ++ [AO.lst []])) = _
    rw [hl]
    unfold walkI
    have e0 : H1 x0 x1 x2 a b c ++ [AO.lst []] = Hs1 x0 x1 x2 a b c 0 := rfl
    rw [e0]
    dsimp only
    rw [seqs1]
    dsimp only
    have hr : rows1.length = 12 := rfl
    rw [hr, w]
    rfl
  have ea : evE P (calA P 38) (.bi .all (.cons (.comp (.tup [6, 7, 8, 9]) (.seq (.var 3)) aloneE [6, 7, 8, 9]) .nil)) (s1 a b c) (H1 x0 x1 x2 a b c) = .ok (.bl true) (Hs1 x0 x1 x2 a b c 12) := by
    rw [evE, evEs, ec]
    kernel_rfl
  rw [ss_rt (ret_run ea)]
  rfl
end
end K00
end Mini
set_option autoImplicit false
set_option maxHeartbeats 4000000
namespace Mini
open PySem L2
namespace K00
section
variable (x0 x1 x2 : AO) (a b c : AV)
def s2 (a b c : AV) : Sg := [some a, some b, some c, some (AV.ref 82), some (AV.ref 121), some (AV.ref 122), none, none, none, none]
def rows2 : List AV := [AV.tup [AV.str ("BadPaper" : Str), AV.ref 83, AV.ref 87, AV.ref 88],
    AV.tup [AV.str ("BadPaper" : Str), AV.ref 85, AV.ref 89, AV.ref 90],
    AV.tup [AV.str ("Unlike" : Str), AV.ref 91, AV.ref 95, AV.ref 96],
    AV.tup [AV.str ("Unlike" : Str), AV.ref 93, AV.ref 97, AV.ref 98],
    AV.tup [AV.str ("TooMany" : Str), AV.ref 99, AV.ref 103, AV.ref 104],
    AV.tup [AV.str ("TooMany" : Str), AV.ref 101, AV.ref 105, AV.ref 106],
    AV.tup [AV.str ("NoName" : Str), AV.ref 107, AV.ref 111, AV.ref 112],
    AV.tup [AV.str ("NoName" : Str), AV.ref 109, AV.ref 113, AV.ref 114],
    AV.tup
          [AV.str ("NothingToUndo" : Str), AV.ref 115,
            AV.ref 117, AV.ref 118],
    AV.tup
          [AV.str ("NothingToUndo" : Str), AV.ref 116,
            AV.ref 119, AV.ref 120],
    AV.tup
          [AV.str ("NothingToRedo" : Str), AV.ref 121,
            AV.ref 123, AV.ref 124],
    AV.tup
          [AV.str ("NothingToRedo" : Str), AV.ref 122,
            AV.ref 125, AV.ref 126]]
def nm2 : List Str := [("BadPaper" : Str), ("BadPaper" : Str), ("Unlike" : Str), ("Unlike" : Str), ("TooMany" : Str), ("TooMany" : Str), ("NoName" : Str), ("NoName" : Str), ("NothingToUndo" : Str), ("NothingToUndo" : Str), ("NothingToRedo" : Str), ("NothingToRedo" : Str)]
def N2 (a b c : AV) : List AO := [AO.lst rows2,
    AO.exn 13 (some 84),
    AO.xdc [(("value" : Str), a)],
    AO.exn 13 (some 86),
    AO.xdc [(("value" : Str), a)],
    AO.lst [a],
    AO.lst [a],
    AO.lst [a],
    AO.lst [a],
    AO.exn 15 (some 92),
    AO.xdc [(("what" : Str), a)],
    AO.exn 15 (some 94),
    AO.xdc [(("what" : Str), a)],
    AO.lst [a],
    AO.lst [a],
    AO.lst [a],
    AO.lst [a],
    AO.exn 17 (some 100),
    AO.xdc
      [(("limit" : Str), c), (("many" : Str), b),
        (("what" : Str), a)],
    AO.exn 17 (some 102),
    AO.xdc
      [(("limit" : Str), c), (("many" : Str), b),
        (("what" : Str), a)],
    AO.lst [a, b, c],
    AO.lst [a, b, c],
    AO.lst [a, b, c],
    AO.lst [a, b, c],
    AO.exn 19 (some 108),
    AO.xdc [(("name" : Str), a)],
    AO.exn 19 (some 110),
    AO.xdc [(("name" : Str), a)],
    AO.lst [a],
    AO.lst [a],
    AO.lst [a],
    AO.lst [a],
    AO.exn 21 none,
    AO.exn 21 none,
    AO.lst [],
    AO.lst [],
    AO.lst [],
    AO.lst [],
    AO.exn 23 none,
    AO.exn 23 none,
    AO.lst [],
    AO.lst [],
    AO.lst [],
    AO.lst []]
def H2 : AH := Hs1 x0 x1 x2 a b c 12 ++ N2 a b c
def Hs2 (i : Nat) : AH := H2 x0 x1 x2 a b c ++ (.lst (List.replicate i (.bl true)) :: (nm2.take i).flatMap two)
theorem pre2 : evSs P (calA P 38) (takeS 25 d32.body) [some a, some b, some c, none, none, none, none, none, none, none] (Hs1 x0 x1 x2 a b c 12) = .nx (s2 a b c) (H2 x0 x1 x2 a b c) := by kernel_rfl
theorem isZ2 (l : List AO) : ∃ y0 y1 y2 r, H2 x0 x1 x2 a b c ++ l = Z0 y0 y1 y2 r := ⟨x0, x1, x2, _, rfl⟩
theorem row2_0 {da db dc : PyData} (ha : VD a da) (hb : VD b db) (hc : VD c dc) : compTurn 127 [6, 7, 8, 9] (.tup [6, 7, 8, 9]) (evE P (calA P 38) aloneE) (AV.tup [AV.str ("BadPaper" : Str), AV.ref 83, AV.ref 87, AV.ref 88]) (s2 a b c) (Hs2 x0 x1 x2 a b c 0) = .nx (s2 a b c) (Hs2 x0 x1 x2 a b c 1) := by
  have e := aloneE_run (cal := calA P 38) (σ := (s2 a b c).take 6 ++ [some (.str "BadPaper"), some (.ref 83), some (.ref 87), some (.ref 88)]) (h := Hs2 x0 x1 x2 a b c 0) (h2 := Hs2 x0 x1 x2 a b c 0 ++ two "BadPaper") rfl rfl rfl rfl (alone_run (n := 36) (by kernel_rfl) (by kernel_rfl) (by kernel_rfl) (show _ = some (AO.lst [a]) by kernel_rfl) (show _ = some (AO.lst [a]) by kernel_rfl) (ds1 ha (by unfold Hs2; rw [List.append_assoc]; exact isZ2 x0 x1 x2 a b c _)))
  have p1 : putT (wipeS (s2 a b c) [6, 7, 8, 9]) (Hs2 x0 x1 x2 a b c 0) (.tup [6, 7, 8, 9]) (AV.tup [AV.str ("BadPaper" : Str), AV.ref 83, AV.ref 87, AV.ref 88]) = some ((s2 a b c).take 6 ++ [some (.str "BadPaper"), some (.ref 83), some (.ref 87), some (.ref 88)]) := by kernel_rfl
  have p2 : (Hs2 x0 x1 x2 a b c 0 ++ two "BadPaper")[127]? = some (.lst (List.replicate 0 (.bl true))) := by kernel_rfl
  have p3 : (List.replicate 0 (AV.bl true)).length < sizeLine := by decide
  have p4 := ct_run (P := P) p1 e p2 p3
  have p5 : RS.nx (s2 a b c) ((Hs2 x0 x1 x2 a b c 0 ++ two "BadPaper").set 127 (.lst (List.replicate 0 (.bl true) ++ [.bl true]))) = .nx (s2 a b c) (Hs2 x0 x1 x2 a b c 1) := by kernel_rfl
  exact p4.trans p5
theorem row2_1 {da db dc : PyData} (ha : VD a da) (hb : VD b db) (hc : VD c dc) : compTurn 127 [6, 7, 8, 9] (.tup [6, 7, 8, 9]) (evE P (calA P 38) aloneE) (AV.tup [AV.str ("BadPaper" : Str), AV.ref 85, AV.ref 89, AV.ref 90]) (s2 a b c) (Hs2 x0 x1 x2 a b c 1) = .nx (s2 a b c) (Hs2 x0 x1 x2 a b c 2) := by
  have e := aloneE_run (cal := calA P 38) (σ := (s2 a b c).take 6 ++ [some (.str "BadPaper"), some (.ref 85), some (.ref 89), some (.ref 90)]) (h := Hs2 x0 x1 x2 a b c 1) (h2 := Hs2 x0 x1 x2 a b c 1 ++ two "BadPaper") rfl rfl rfl rfl (alone_run (n := 36) (by kernel_rfl) (by kernel_rfl) (by kernel_rfl) (show _ = some (AO.lst [a]) by kernel_rfl) (show _ = some (AO.lst [a]) by kernel_rfl) (ds1 ha (by unfold Hs2; rw [List.append_assoc]; exact isZ2 x0 x1 x2 a b c _)))
  have p1 : putT (wipeS (s2 a b c) [6, 7, 8, 9]) (Hs2 x0 x1 x2 a b c 1) (.tup [6, 7, 8, 9]) (AV.tup [AV.str ("BadPaper" : Str), AV.ref 85, AV.ref 89, AV.ref 90]) = some ((s2 a b c).take 6 ++ [some (.str "BadPaper"), some (.ref 85), some (.ref 89), some (.ref 90)]) := by kernel_rfl
  have p2 : (Hs2 x0 x1 x2 a b c 1 ++ two "BadPaper")[127]? = some (.lst (List.replicate 1 (.bl true))) := by kernel_rfl
  have p3 : (List.replicate 1 (AV.bl true)).length < sizeLine := by decide
  have p4 := ct_run (P := P) p1 e p2 p3
  have p5 : RS.nx (s2 a b c) ((Hs2 x0 x1 x2 a b c 1 ++ two "BadPaper").set 127 (.lst (List.replicate 1 (.bl true) ++ [.bl true]))) = .nx (s2 a b c) (Hs2 x0 x1 x2 a b c 2) := by kernel_rfl
  exact p4.trans p5
theorem row2_2 {da db dc : PyData} (ha : VD a da) (hb : VD b db) (hc : VD c dc) : compTurn 127 [6, 7, 8, 9] (.tup [6, 7, 8, 9]) (evE P (calA P 38) aloneE) (AV.tup [AV.str ("Unlike" : Str), AV.ref 91, AV.ref 95, AV.ref 96]) (s2 a b c) (Hs2 x0 x1 x2 a b c 2) = .nx (s2 a b c) (Hs2 x0 x1 x2 a b c 3) := by
  have e := aloneE_run (cal := calA P 38) (σ := (s2 a b c).take 6 ++ [some (.str "Unlike"), some (.ref 91), some (.ref 95), some (.ref 96)]) (h := Hs2 x0 x1 x2 a b c 2) (h2 := Hs2 x0 x1 x2 a b c 2 ++ two "Unlike") rfl rfl rfl rfl (alone_run (n := 36) (by kernel_rfl) (by kernel_rfl) (by kernel_rfl) (show _ = some (AO.lst [a]) by kernel_rfl) (show _ = some (AO.lst [a]) by kernel_rfl) (ds1 ha (by unfold Hs2; rw [List.append_assoc]; exact isZ2 x0 x1 x2 a b c _)))
  have p1 : putT (wipeS (s2 a b c) [6, 7, 8, 9]) (Hs2 x0 x1 x2 a b c 2) (.tup [6, 7, 8, 9]) (AV.tup [AV.str ("Unlike" : Str), AV.ref 91, AV.ref 95, AV.ref 96]) = some ((s2 a b c).take 6 ++ [some (.str "Unlike"), some (.ref 91), some (.ref 95), some (.ref 96)]) := by kernel_rfl
  have p2 : (Hs2 x0 x1 x2 a b c 2 ++ two "Unlike")[127]? = some (.lst (List.replicate 2 (.bl true))) := by kernel_rfl
  have p3 : (List.replicate 2 (AV.bl true)).length < sizeLine := by decide
  have p4 := ct_run (P := P) p1 e p2 p3
  have p5 : RS.nx (s2 a b c) ((Hs2 x0 x1 x2 a b c 2 ++ two "Unlike").set 127 (.lst (List.replicate 2 (.bl true) ++ [.bl true]))) = .nx (s2 a b c) (Hs2 x0 x1 x2 a b c 3) := by kernel_rfl
  exact p4.trans p5
theorem row2_3 {da db dc : PyData} (ha : VD a da) (hb : VD b db) (hc : VD c dc) : compTurn 127 [6, 7, 8, 9] (.tup [6, 7, 8, 9]) (evE P (calA P 38) aloneE) (AV.tup [AV.str ("Unlike" : Str), AV.ref 93, AV.ref 97, AV.ref 98]) (s2 a b c) (Hs2 x0 x1 x2 a b c 3) = .nx (s2 a b c) (Hs2 x0 x1 x2 a b c 4) := by
  have e := aloneE_run (cal := calA P 38) (σ := (s2 a b c).take 6 ++ [some (.str "Unlike"), some (.ref 93), some (.ref 97), some (.ref 98)]) (h := Hs2 x0 x1 x2 a b c 3) (h2 := Hs2 x0 x1 x2 a b c 3 ++ two "Unlike") rfl rfl rfl rfl (alone_run (n := 36) (by kernel_rfl) (by kernel_rfl) (by kernel_rfl) (show _ = some (AO.lst [a]) by kernel_rfl) (show _ = some (AO.lst [a]) by kernel_rfl) (ds1 ha (by unfold Hs2; rw [List.append_assoc]; exact isZ2 x0 x1 x2 a b c _)))
  have p1 : putT (wipeS (s2 a b c) [6, 7, 8, 9]) (Hs2 x0 x1 x2 a b c 3) (.tup [6, 7, 8, 9]) (AV.tup [AV.str ("Unlike" : Str), AV.ref 93, AV.ref 97, AV.ref 98]) = some ((s2 a b c).take 6 ++ [some (.str "Unlike"), some (.ref 93), some (.ref 97), some (.ref 98)]) := by kernel_rfl
  have p2 : (Hs2 x0 x1 x2 a b c 3 ++ two "Unlike")[127]? = some (.lst (List.replicate 3 (.bl true))) := by kernel_rfl
  have p3 : (List.replicate 3 (AV.bl true)).length < sizeLine := by decide
  have p4 := ct_run (P := P) p1 e p2 p3
  have p5 : RS.nx (s2 a b c) ((Hs2 x0 x1 x2 a b c 3 ++ two "Unlike").set 127 (.lst (List.replicate 3 (.bl true) ++ [.bl true]))) = .nx (s2 a b c) (Hs2 x0 x1 x2 a b c 4) := by kernel_rfl
  exact p4.trans p5
theorem row2_4 {da db dc : PyData} (ha : VD a da) (hb : VD b db) (hc : VD c dc) : compTurn 127 [6, 7, 8, 9] (.tup [6, 7, 8, 9]) (evE P (calA P 38) aloneE) (AV.tup [AV.str ("TooMany" : Str), AV.ref 99, AV.ref 103, AV.ref 104]) (s2 a b c) (Hs2 x0 x1 x2 a b c 4) = .nx (s2 a b c) (Hs2 x0 x1 x2 a b c 5) := by
  have e := aloneE_run (cal := calA P 38) (σ := (s2 a b c).take 6 ++ [some (.str "TooMany"), some (.ref 99), some (.ref 103), some (.ref 104)]) (h := Hs2 x0 x1 x2 a b c 4) (h2 := Hs2 x0 x1 x2 a b c 4 ++ two "TooMany") rfl rfl rfl rfl (alone_run (n := 36) (by kernel_rfl) (by kernel_rfl) (by kernel_rfl) (show _ = some (AO.lst [a, b, c]) by kernel_rfl) (show _ = some (AO.lst [a, b, c]) by kernel_rfl) (ds3 ha hb hc (by unfold Hs2; rw [List.append_assoc]; exact isZ2 x0 x1 x2 a b c _)))
  have p1 : putT (wipeS (s2 a b c) [6, 7, 8, 9]) (Hs2 x0 x1 x2 a b c 4) (.tup [6, 7, 8, 9]) (AV.tup [AV.str ("TooMany" : Str), AV.ref 99, AV.ref 103, AV.ref 104]) = some ((s2 a b c).take 6 ++ [some (.str "TooMany"), some (.ref 99), some (.ref 103), some (.ref 104)]) := by kernel_rfl
  have p2 : (Hs2 x0 x1 x2 a b c 4 ++ two "TooMany")[127]? = some (.lst (List.replicate 4 (.bl true))) := by kernel_rfl
  have p3 : (List.replicate 4 (AV.bl true)).length < sizeLine := by decide
  have p4 := ct_run (P := P) p1 e p2 p3
  have p5 : RS.nx (s2 a b c) ((Hs2 x0 x1 x2 a b c 4 ++ two "TooMany").set 127 (.lst (List.replicate 4 (.bl true) ++ [.bl true]))) = .nx (s2 a b c) (Hs2 x0 x1 x2 a b c 5) := by kernel_rfl
  exact p4.trans p5
theorem row2_5 {da db dc : PyData} (ha : VD a da) (hb : VD b db) (hc : VD c dc) : compTurn 127 [6, 7, 8, 9] (.tup [6, 7, 8, 9]) (evE P (calA P 38) aloneE) (AV.tup [AV.str ("TooMany" : Str), AV.ref 101, AV.ref 105, AV.ref 106]) (s2 a b c) (Hs2 x0 x1 x2 a b c 5) = .nx (s2 a b c) (Hs2 x0 x1 x2 a b c 6) := by
  have e := aloneE_run (cal := calA P 38) (σ := (s2 a b c).take 6 ++ [some (.str "TooMany"), some (.ref 101), some (.ref 105), some (.ref 106)]) (h := Hs2 x0 x1 x2 a b c 5) (h2 := Hs2 x0 x1 x2 a b c 5 ++ two "TooMany") rfl rfl rfl rfl (alone_run (n := 36) (by kernel_rfl) (by kernel_rfl) (by kernel_rfl) (show _ = some (AO.lst [a, b, c]) by kernel_rfl) (show _ = some (AO.lst [a, b, c]) by kernel_rfl) (ds3 ha hb hc (by unfold Hs2; rw [List.append_assoc]; exact isZ2 x0 x1 x2 a b c _)))
  have p1 : putT (wipeS (s2 a b c) [6, 7, 8, 9]) (Hs2 x0 x1 x2 a b c 5) (.tup [6, 7, 8, 9]) (AV.tup [AV.str ("TooMany" : Str), AV.ref 101, AV.ref 105, AV.ref 106]) = some ((s2 a b c).take 6 ++ [some (.str "TooMany"), some (.ref 101), some (.ref 105), some (.ref 106)]) := by kernel_rfl
  have p2 : (Hs2 x0 x1 x2 a b c 5 ++ two "TooMany")[127]? = some (.lst (List.replicate 5 (.bl true))) := by kernel_rfl
  have p3 : (List.replicate 5 (AV.bl true)).length < sizeLine := by decide
  have p4 := ct_run (P := P) p1 e p2 p3
  have p5 : RS.nx (s2 a b c) ((Hs2 x0 x1 x2 a b c 5 ++ two "TooMany").set 127 (.lst (List.replicate 5 (.bl true) ++ [.bl true]))) = .nx (s2 a b c) (Hs2 x0 x1 x2 a b c 6) := by kernel_rfl
  exact p4.trans p5
theorem row2_6 {da db dc : PyData} (ha : VD a da) (hb : VD b db) (hc : VD c dc) : compTurn 127 [6, 7, 8, 9] (.tup [6, 7, 8, 9]) (evE P (calA P 38) aloneE) (AV.tup [AV.str ("NoName" : Str), AV.ref 107, AV.ref 111, AV.ref 112]) (s2 a b c) (Hs2 x0 x1 x2 a b c 6) = .nx (s2 a b c) (Hs2 x0 x1 x2 a b c 7) := by
  have e := aloneE_run (cal := calA P 38) (σ := (s2 a b c).take 6 ++ [some (.str "NoName"), some (.ref 107), some (.ref 111), some (.ref 112)]) (h := Hs2 x0 x1 x2 a b c 6) (h2 := Hs2 x0 x1 x2 a b c 6 ++ two "NoName") rfl rfl rfl rfl (alone_run (n := 36) (by kernel_rfl) (by kernel_rfl) (by kernel_rfl) (show _ = some (AO.lst [a]) by kernel_rfl) (show _ = some (AO.lst [a]) by kernel_rfl) (ds1 ha (by unfold Hs2; rw [List.append_assoc]; exact isZ2 x0 x1 x2 a b c _)))
  have p1 : putT (wipeS (s2 a b c) [6, 7, 8, 9]) (Hs2 x0 x1 x2 a b c 6) (.tup [6, 7, 8, 9]) (AV.tup [AV.str ("NoName" : Str), AV.ref 107, AV.ref 111, AV.ref 112]) = some ((s2 a b c).take 6 ++ [some (.str "NoName"), some (.ref 107), some (.ref 111), some (.ref 112)]) := by kernel_rfl
  have p2 : (Hs2 x0 x1 x2 a b c 6 ++ two "NoName")[127]? = some (.lst (List.replicate 6 (.bl true))) := by kernel_rfl
  have p3 : (List.replicate 6 (AV.bl true)).length < sizeLine := by decide
  have p4 := ct_run (P := P) p1 e p2 p3
  have p5 : RS.nx (s2 a b c) ((Hs2 x0 x1 x2 a b c 6 ++ two "NoName").set 127 (.lst (List.replicate 6 (.bl true) ++ [.bl true]))) = .nx (s2 a b c) (Hs2 x0 x1 x2 a b c 7) := by kernel_rfl
  exact p4.trans p5
theorem row2_7 {da db dc : PyData} (ha : VD a da) (hb : VD b db) (hc : VD c dc) : compTurn 127 [6, 7, 8, 9] (.tup [6, 7, 8, 9]) (evE P (calA P 38) aloneE) (AV.tup [AV.str ("NoName" : Str), AV.ref 109, AV.ref 113, AV.ref 114]) (s2 a b c) (Hs2 x0 x1 x2 a b c 7) = .nx (s2 a b c) (Hs2 x0 x1 x2 a b c 8) := by
  have e := aloneE_run (cal := calA P 38) (σ := (s2 a b c).take 6 ++ [some (.str "NoName"), some (.ref 109), some (.ref 113), some (.ref 114)]) (h := Hs2 x0 x1 x2 a b c 7) (h2 := Hs2 x0 x1 x2 a b c 7 ++ two "NoName") rfl rfl rfl rfl (alone_run (n := 36) (by kernel_rfl) (by kernel_rfl) (by kernel_rfl) (show _ = some (AO.lst [a]) by kernel_rfl) (show _ = some (AO.lst [a]) by kernel_rfl) (ds1 ha (by unfold Hs2; rw [List.append_assoc]; exact isZ2 x0 x1 x2 a b c _)))
  have p1 : putT (wipeS (s2 a b c) [6, 7, 8, 9]) (Hs2 x0 x1 x2 a b c 7) (.tup [6, 7, 8, 9]) (AV.tup [AV.str ("NoName" : Str), AV.ref 109, AV.ref 113, AV.ref 114]) = some ((s2 a b c).take 6 ++ [some (.str "NoName"), some (.ref 109), some (.ref 113), some (.ref 114)]) := by kernel_rfl
  have p2 : (Hs2 x0 x1 x2 a b c 7 ++ two "NoName")[127]? = some (.lst (List.replicate 7 (.bl true))) := by kernel_rfl
  have p3 : (List.replicate 7 (AV.bl true)).length < sizeLine := by decide
  have p4 := ct_run (P := P) p1 e p2 p3
  have p5 : RS.nx (s2 a b c) ((Hs2 x0 x1 x2 a b c 7 ++ two "NoName").set 127 (.lst (List.replicate 7 (.bl true) ++ [.bl true]))) = .nx (s2 a b c) (Hs2 x0 x1 x2 a b c 8) := by kernel_rfl
  exact p4.trans p5
theorem row2_8 {da db dc : PyData} (ha : VD a da) (hb : VD b db) (hc : VD c dc) : compTurn 127 [6, 7, 8, 9] (.tup [6, 7, 8, 9]) (evE P (calA P 38) aloneE) (AV.tup
          [AV.str ("NothingToUndo" : Str), AV.ref 115,
            AV.ref 117, AV.ref 118]) (s2 a b c) (Hs2 x0 x1 x2 a b c 8) = .nx (s2 a b c) (Hs2 x0 x1 x2 a b c 9) := by
  have e := aloneE_run (cal := calA P 38) (σ := (s2 a b c).take 6 ++ [some (.str "NothingToUndo"), some (.ref 115), some (.ref 117), some (.ref 118)]) (h := Hs2 x0 x1 x2 a b c 8) (h2 := Hs2 x0 x1 x2 a b c 8 ++ two "NothingToUndo") rfl rfl rfl rfl (alone_run (n := 36) (by kernel_rfl) (by kernel_rfl) (by kernel_rfl) (show _ = some (AO.lst []) by kernel_rfl) (show _ = some (AO.lst []) by kernel_rfl) (ds0X (by unfold Hs2; rw [List.append_assoc]; exact isZ2 x0 x1 x2 a b c _)))
  have p1 : putT (wipeS (s2 a b c) [6, 7, 8, 9]) (Hs2 x0 x1 x2 a b c 8) (.tup [6, 7, 8, 9]) (AV.tup
          [AV.str ("NothingToUndo" : Str), AV.ref 115,
            AV.ref 117, AV.ref 118]) = some ((s2 a b c).take 6 ++ [some (.str "NothingToUndo"), some (.ref 115), some (.ref 117), some (.ref 118)]) := by kernel_rfl
  have p2 : (Hs2 x0 x1 x2 a b c 8 ++ two "NothingToUndo")[127]? = some (.lst (List.replicate 8 (.bl true))) := by kernel_rfl
  have p3 : (List.replicate 8 (AV.bl true)).length < sizeLine := by decide
  have p4 := ct_run (P := P) p1 e p2 p3
  have p5 : RS.nx (s2 a b c) ((Hs2 x0 x1 x2 a b c 8 ++ two "NothingToUndo").set 127 (.lst (List.replicate 8 (.bl true) ++ [.bl true]))) = .nx (s2 a b c) (Hs2 x0 x1 x2 a b c 9) := by kernel_rfl
  exact p4.trans p5
theorem row2_9 {da db dc : PyData} (ha : VD a da) (hb : VD b db) (hc : VD c dc) : compTurn 127 [6, 7, 8, 9] (.tup [6, 7, 8, 9]) (evE P (calA P 38) aloneE) (AV.tup
          [AV.str ("NothingToUndo" : Str), AV.ref 116,
            AV.ref 119, AV.ref 120]) (s2 a b c) (Hs2 x0 x1 x2 a b c 9) = .nx (s2 a b c) (Hs2 x0 x1 x2 a b c 10) := by
  have e := aloneE_run (cal := calA P 38) (σ := (s2 a b c).take 6 ++ [some (.str "NothingToUndo"), some (.ref 116), some (.ref 119), some (.ref 120)]) (h := Hs2 x0 x1 x2 a b c 9) (h2 := Hs2 x0 x1 x2 a b c 9 ++ two "NothingToUndo") rfl rfl rfl rfl (alone_run (n := 36) (by kernel_rfl) (by kernel_rfl) (by kernel_rfl) (show _ = some (AO.lst []) by kernel_rfl) (show _ = some (AO.lst []) by kernel_rfl) (ds0X (by unfold Hs2; rw [List.append_assoc]; exact isZ2 x0 x1 x2 a b c _)))
  have p1 : putT (wipeS (s2 a b c) [6, 7, 8, 9]) (Hs2 x0 x1 x2 a b c 9) (.tup [6, 7, 8, 9]) (AV.tup
          [AV.str ("NothingToUndo" : Str), AV.ref 116,
            AV.ref 119, AV.ref 120]) = some ((s2 a b c).take 6 ++ [some (.str "NothingToUndo"), some (.ref 116), some (.ref 119), some (.ref 120)]) := by kernel_rfl
  have p2 : (Hs2 x0 x1 x2 a b c 9 ++ two "NothingToUndo")[127]? = some (.lst (List.replicate 9 (.bl true))) := by kernel_rfl
  have p3 : (List.replicate 9 (AV.bl true)).length < sizeLine := by decide
  have p4 := ct_run (P := P) p1 e p2 p3
  have p5 : RS.nx (s2 a b c) ((Hs2 x0 x1 x2 a b c 9 ++ two "NothingToUndo").set 127 (.lst (List.replicate 9 (.bl true) ++ [.bl true]))) = .nx (s2 a b c) (Hs2 x0 x1 x2 a b c 10) := by kernel_rfl
  exact p4.trans p5
theorem row2_10 {da db dc : PyData} (ha : VD a da) (hb : VD b db) (hc : VD c dc) : compTurn 127 [6, 7, 8, 9] (.tup [6, 7, 8, 9]) (evE P (calA P 38) aloneE) (AV.tup
          [AV.str ("NothingToRedo" : Str), AV.ref 121,
            AV.ref 123, AV.ref 124]) (s2 a b c) (Hs2 x0 x1 x2 a b c 10) = .nx (s2 a b c) (Hs2 x0 x1 x2 a b c 11) := by
  have e := aloneE_run (cal := calA P 38) (σ := (s2 a b c).take 6 ++ [some (.str "NothingToRedo"), some (.ref 121), some (.ref 123), some (.ref 124)]) (h := Hs2 x0 x1 x2 a b c 10) (h2 := Hs2 x0 x1 x2 a b c 10 ++ two "NothingToRedo") rfl rfl rfl rfl (alone_run (n := 36) (by kernel_rfl) (by kernel_rfl) (by kernel_rfl) (show _ = some (AO.lst []) by kernel_rfl) (show _ = some (AO.lst []) by kernel_rfl) (ds0X (by unfold Hs2; rw [List.append_assoc]; exact isZ2 x0 x1 x2 a b c _)))
  have p1 : putT (wipeS (s2 a b c) [6, 7, 8, 9]) (Hs2 x0 x1 x2 a b c 10) (.tup [6, 7, 8, 9]) (AV.tup
          [AV.str ("NothingToRedo" : Str), AV.ref 121,
            AV.ref 123, AV.ref 124]) = some ((s2 a b c).take 6 ++ [some (.str "NothingToRedo"), some (.ref 121), some (.ref 123), some (.ref 124)]) := by kernel_rfl
  have p2 : (Hs2 x0 x1 x2 a b c 10 ++ two "NothingToRedo")[127]? = some (.lst (List.replicate 10 (.bl true))) := by kernel_rfl
  have p3 : (List.replicate 10 (AV.bl true)).length < sizeLine := by decide
  have p4 := ct_run (P := P) p1 e p2 p3
  have p5 : RS.nx (s2 a b c) ((Hs2 x0 x1 x2 a b c 10 ++ two "NothingToRedo").set 127 (.lst (List.replicate 10 (.bl true) ++ [.bl true]))) = .nx (s2 a b c) (Hs2 x0 x1 x2 a b c 11) := by kernel_rfl
  exact p4.trans p5
theorem row2_11 {da db dc : PyData} (ha : VD a da) (hb : VD b db) (hc : VD c dc) : compTurn 127 [6, 7, 8, 9] (.tup [6, 7, 8, 9]) (evE P (calA P 38) aloneE) (AV.tup
          [AV.str ("NothingToRedo" : Str), AV.ref 122,
            AV.ref 125, AV.ref 126]) (s2 a b c) (Hs2 x0 x1 x2 a b c 11) = .nx (s2 a b c) (Hs2 x0 x1 x2 a b c 12) := by
  have e := aloneE_run (cal := calA P 38) (σ := (s2 a b c).take 6 ++ [some (.str "NothingToRedo"), some (.ref 122), some (.ref 125), some (.ref 126)]) (h := Hs2 x0 x1 x2 a b c 11) (h2 := Hs2 x0 x1 x2 a b c 11 ++ two "NothingToRedo") rfl rfl rfl rfl (alone_run (n := 36) (by kernel_rfl) (by kernel_rfl) (by kernel_rfl) (show _ = some (AO.lst []) by kernel_rfl) (show _ = some (AO.lst []) by kernel_rfl) (ds0X (by unfold Hs2; rw [List.append_assoc]; exact isZ2 x0 x1 x2 a b c _)))
  have p1 : putT (wipeS (s2 a b c) [6, 7, 8, 9]) (Hs2 x0 x1 x2 a b c 11) (.tup [6, 7, 8, 9]) (AV.tup
          [AV.str ("NothingToRedo" : Str), AV.ref 122,
            AV.ref 125, AV.ref 126]) = some ((s2 a b c).take 6 ++ [some (.str "NothingToRedo"), some (.ref 122), some (.ref 125), some (.ref 126)]) := by kernel_rfl
  have p2 : (Hs2 x0 x1 x2 a b c 11 ++ two "NothingToRedo")[127]? = some (.lst (List.replicate 11 (.bl true))) := by kernel_rfl
  have p3 : (List.replicate 11 (AV.bl true)).length < sizeLine := by decide
  have p4 := ct_run (P := P) p1 e p2 p3
  have p5 : RS.nx (s2 a b c) ((Hs2 x0 x1 x2 a b c 11 ++ two "NothingToRedo").set 127 (.lst (List.replicate 11 (.bl true) ++ [.bl true]))) = .nx (s2 a b c) (Hs2 x0 x1 x2 a b c 12) := by kernel_rfl
  exact p4.trans p5
theorem seqs2 : ∀ i, seqOf (Hs2 x0 x1 x2 a b c i) (.ref 82) = some rows2 := fun i => by kernel_rfl
theorem turns2 {da db dc : PyData} (ha : VD a da) (hb : VD b db) (hc : VD c dc) : ∀ i x, rows2[i]? = some x → compTurn 127 [6, 7, 8, 9] (.tup [6, 7, 8, 9]) (evE P (calA P 38) aloneE) x (s2 a b c) (Hs2 x0 x1 x2 a b c i) = .nx (s2 a b c) (Hs2 x0 x1 x2 a b c (i + 1))
  | 0, x, h => by cases h; exact row2_0 x0 x1 x2 a b c ha hb hc
  | 1, x, h => by cases h; exact row2_1 x0 x1 x2 a b c ha hb hc
  | 2, x, h => by cases h; exact row2_2 x0 x1 x2 a b c ha hb hc
  | 3, x, h => by cases h; exact row2_3 x0 x1 x2 a b c ha hb hc
  | 4, x, h => by cases h; exact row2_4 x0 x1 x2 a b c ha hb hc
  | 5, x, h => by cases h; exact row2_5 x0 x1 x2 a b c ha hb hc
  | 6, x, h => by cases h; exact row2_6 x0 x1 x2 a b c ha hb hc
  | 7, x, h => by cases h; exact row2_7 x0 x1 x2 a b c ha hb hc
  | 8, x, h => by cases h; exact row2_8 x0 x1 x2 a b c ha hb hc
  | 9, x, h => by cases h; exact row2_9 x0 x1 x2 a b c ha hb hc
  | 10, x, h => by cases h; exact row2_10 x0 x1 x2 a b c ha hb hc
  | 11, x, h => by cases h; exact row2_11 x0 x1 x2 a b c ha hb hc
  | n + 12, x, h => by cases h
theorem all2 {da db dc : PyData} (ha : VD a da) (hb : VD b db) (hc : VD c dc) : calA P 39 32 [a, b, c] (Hs1 x0 x1 x2 a b c 12) = .ok (.bl true) (Hs2 x0 x1 x2 a b c 12) := by
  rw [calA_def (d := d32) rfl rfl]
  show fin (evSs P (calA P 38) d32.body [some a, some b, some c, none, none, none, none, none, none, none] _) = _
  rw [split_run (pre2 x0 x1 x2 a b c)]
  show fin (evSs P (calA P 38) (.cons (.ret (.bi .all (.cons (.comp (.tup [6, 7, 8, 9]) (.seq (.var 3)) aloneE [6, 7, 8, 9]) .nil))) .nil) (s2 a b c) (H2 x0 x1 x2 a b c)) = _
  have w := walk_rows (f := compTurn 127 [6, 7, 8, 9] (.tup [6, 7, 8, 9]) (evE P (calA P 38) aloneE)) (k := 82) (n := 12) (σ := s2 a b c) (xs := rows2) (Hs := Hs2 x0 x1 x2 a b c) rfl (fun i _ => seqs2 x0 x1 x2 a b c i) (turns2 x0 x1 x2 a b c ha hb hc)
  have hl : (H2 x0 x1 x2 a b c).length = 127 := by kernel_rfl
  have ec : evE P (calA P 38) (.comp (.tup [6, 7, 8, 9]) (.seq (.var 3)) aloneE [6, 7, 8, 9]) (s2 a b c) (H2 x0 x1 x2 a b c) = .ok (.ref 127) (Hs2 x0 x1 x2 a b c 12) := by
    rw [evE]
    have ei : evI P (calA P 38) (.seq (.var 3)) (s2 a b c) (H2 x0 x1 x2 a b c) = .ok (.lst 82) (H2 x0 x1 x2 a b c) := by kernel_rfl
    rw [ei]
    show kComp (H2 x0 x1 x2 a b c).length (walkI (compTurn (H2 x0 x1 x2 a b c).length [6, 7, 8, 9] (.tup [6, 7, 8, 9]) (evE P (calA P 38) aloneE)) (.lst 82) (s2 a b c) (H2 x0 x1 x2 a b c ++ [AO.lst []])) = _
    rw [hl]
    unfold walkI
    have e0 : H2 x0 x1 x2 a b c ++ [AO.lst []] = Hs2 x0 x1 x2 a b c 0 := rfl
    rw [e0]
    dsimp only
    rw [seqs2]
    dsimp only
    have hr : rows2.length = 12 := rfl
    rw [hr, w]
    rfl
  have ea : evE P (calA P 38) (.bi .all (.cons (.comp (.tup [6, 7, 8, 9]) (.seq (.var 3)) aloneE [6, 7, 8, 9]) .nil)) (s2 a b c) (H2 x0 x1 x2 a b c) = .ok (.bl true) (Hs2 x0 x1 x2 a b c 12) := by
    rw [evE, evEs, ec]
    kernel_rfl
  rw [ss_rt (ret_run ea)]
  rfl
end
end K00
end Mini
set_option autoImplicit false
set_option maxHeartbeats 4000000
/-! k00: the drawn values; the law's run. -/
namespace Mini
open PySem L2
namespace K00
def xs13 : List AV := [.tup [.int 1, .int 2], .ref 4, .ref 5, .str "", .str "abc", .int 0, .int (-7), .bl true, .non, .int 100000000000000000000000000000000000000000, .tup [], .tup [.tup []], .tup [.str "x", .non]]
theorem vd_all : ∀ v ∈ xs13, ∃ d, VD v d := by
  intro v hv
  simp only [xs13, List.mem_cons, List.not_mem_nil, or_false] at hv
  rcases hv with rfl | rfl | rfl | rfl | rfl | rfl | rfl | rfl | rfl | rfl | rfl | rfl | rfl
  · exact ⟨.tuple [.int 1, .int 2], fun x0 x1 x2 r => by kernel_rfl, by decide +kernel, by decide +kernel, by decide +kernel⟩
  · exact ⟨.list [.int 3, .list [.int 4]], fun x0 x1 x2 r => by kernel_rfl, by decide +kernel, by decide +kernel, by decide +kernel⟩
  · exact ⟨.dict [(.str "a", .int 1)], fun x0 x1 x2 r => by kernel_rfl, by decide +kernel, by decide +kernel, by decide +kernel⟩
  · exact ⟨.str "", fun x0 x1 x2 r => by kernel_rfl, by decide +kernel, by decide +kernel, by decide +kernel⟩
  · exact ⟨.str "abc", fun x0 x1 x2 r => by kernel_rfl, by decide +kernel, by decide +kernel, by decide +kernel⟩
  · exact ⟨.int 0, fun x0 x1 x2 r => by kernel_rfl, by decide +kernel, by decide +kernel, by decide +kernel⟩
  · exact ⟨.int (-7), fun x0 x1 x2 r => by kernel_rfl, by decide +kernel, by decide +kernel, by decide +kernel⟩
  · exact ⟨.bool true, fun x0 x1 x2 r => by kernel_rfl, by decide +kernel, by decide +kernel, by decide +kernel⟩
  · exact ⟨.none, fun x0 x1 x2 r => by kernel_rfl, by decide +kernel, by decide +kernel, by decide +kernel⟩
  · exact ⟨.int 100000000000000000000000000000000000000000, fun x0 x1 x2 r => by kernel_rfl, by decide +kernel, by decide +kernel, by decide +kernel⟩
  · exact ⟨.tuple [], fun x0 x1 x2 r => by kernel_rfl, by decide +kernel, by decide +kernel, by decide +kernel⟩
  · exact ⟨.tuple [.tuple []], fun x0 x1 x2 r => by kernel_rfl, by decide +kernel, by decide +kernel, by decide +kernel⟩
  · exact ⟨.tuple [.str "x", .none], fun x0 x1 x2 r => by kernel_rfl, by decide +kernel, by decide +kernel, by decide +kernel⟩
theorem g26 : P 26 = some (.def_ drawD) := rfl
theorem g27 : P 27 = some (.def_ (pickD 26)) := rfl
theorem g25 : P 25 = some (.def_ penD) := rfl
theorem penZ {m : Nat} {x0 A C : AO} {r r' : List AO} (x : Pen m (Z0 x0 A C r) 1) : Pen m (Z0 x0 A C r') 1 := x.up fun j o hj e => by
  have : j = 0 ∨ j = 1 ∨ j = 2 := by omega
  rcases this with rfl | rfl | rfl <;> exact e
def pickE : ME := .call 27 (.cons (.var 0) (.cons (.var 1) .nil))
def sv : Sg := [some (.ref 1), some (.ref 6), none]
theorem turn_v {m : Nat} {x0 A C : AO} {acc : List AV} {i : Int} (x : Pen m (Z0 x0 A C [.lst acc]) 1) (hm : m < 900) (ha : acc.length < 10) :
    ∃ v A', compTurn 7 [2] (.name 2) (evE P (calA P 38) pickE) (.int i) sv (Z0 x0 A C [.lst acc]) = .nx sv (Z0 x0 A' C [.lst (acc ++ [v])]) ∧ v ∈ xs13 ∧ Pen (m + 1) (Z0 x0 A' C [.lst (acc ++ [v])]) 1 := by
  obtain ⟨v, o, e, hv, p⟩ := pickO (P := P) (n := 36) (g := 26) (gp := 27) (k := 6) (xs := xs13) g26 g27 x (by omega) rfl (by decide) (by decide) (by decide)
  have e' : calA P 38 27 [.ref 1, .ref 6] (Z0 x0 A C [.lst acc]) = .ok v (Z0 x0 o C [.lst acc]) := e
  have p' : Pen (m + 1) (Z0 x0 o C [.lst acc]) 1 := p
  refine ⟨v, o, ?_, hv, penZ p'⟩
  have q : evE P (calA P 38) pickE [some (.ref 1), some (.ref 6), some (.int i)] (Z0 x0 A C [.lst acc]) = .ok v (Z0 x0 o C [.lst acc]) := by
    unfold pickE
    simp only [evE, evEs, getS, List.getElem?_cons_zero, List.getElem?_cons_succ, bind_ok]
    rw [callP_def (d := pickD 26) g27 rfl, e']
  have p1 : putT (wipeS sv [2]) (Z0 x0 A C [.lst acc]) (.name 2) (.int i) = some [some (.ref 1), some (.ref 6), some (.int i)] := rfl
  have p2 : (Z0 x0 o C [.lst acc])[7]? = some (.lst acc) := rfl
  have p3 : acc.length < sizeLine := Nat.lt_of_lt_of_le ha (small (by decide))
  exact ct_run (P := P) p1 q p2 p3
theorem deep_run {cal : Nat → List AV → AH → R AV} {x0 x1 x2 : AO} : evS P cal (.set 1 (match d28.body with
    | .cons (.set _ e) _ => e
    | _ => .non)) [some (.ref 1), none, none] [x0, x1, x2] = .nx sv (Z0 x0 x1 x2 []) := by kernel_rfl
theorem values_run {x0 A C : AO} (x : Pen 0 [x0, A, C] 1) : ∃ a b c A', calA P 39 28 [.ref 1] [x0, A, C] = .ok (.ref 7) (Z0 x0 A' C [.lst [a, b, c]]) ∧ a ∈ xs13 ∧ b ∈ xs13 ∧ c ∈ xs13 := by
  have x1 : Pen 0 (Z0 x0 A C [.lst []]) 1 := x.up fun j o hj e => by
    have : j = 0 ∨ j = 1 ∨ j = 2 := by omega
    rcases this with rfl | rfl | rfl <;> exact e
  obtain ⟨a, A1, e1, ha, p1⟩ := turn_v (i := 0) x1 (by decide) (by decide)
  obtain ⟨b, A2, e2, hb, p2⟩ := turn_v (i := 1) p1 (by decide) (by simp)
  obtain ⟨c, A3, e3, hc, p3⟩ := turn_v (i := 2) p2 (by decide) (by simp)
  refine ⟨a, b, c, A3, ?_, ha, hb, hc⟩
  rw [calA_def (d := d28) rfl rfl]
  have hb : d28.body = .cons (.set 1 (match d28.body with
    | .cons (.set _ e) _ => e
    | _ => .non)) (.cons (.ret (.comp (.name 2) (.range (.int 3)) pickE [2])) .nil) := rfl
  rw [hb]
  show fin (evSs P (calA P 38) (.cons _ _) [some (.ref 1), none, none] [x0, A, C]) = _
  rw [ss_nx deep_run]
  have ec : evE P (calA P 38) (.comp (.name 2) (.range (.int 3)) pickE [2]) sv (Z0 x0 A C []) = .ok (.ref 7) (Z0 x0 A3 C [.lst [a, b, c]]) := by
    rw [evE]
    have ei : evI P (calA P 38) (.range (.int 3)) sv (Z0 x0 A C []) = .ok (.rng 3) (Z0 x0 A C []) := by
      rw [evI, inE]
      show kRange (.int 3) _ = _
      unfold kRange
      dsimp only
      rw [if_pos (by decide)]
      rfl
    rw [ei]
    show kComp 7 (walkI (compTurn 7 [2] (.name 2) (evE P (calA P 38) pickE)) (.rng 3) sv (Z0 x0 A C [.lst []])) = _
    have w : walkI (compTurn 7 [2] (.name 2) (evE P (calA P 38) pickE)) (.rng 3) sv (Z0 x0 A C [.lst []]) = .nx sv (Z0 x0 A3 C [.lst [a, b, c]]) := by
      unfold walkI
      dsimp only
      unfold walkR
      rw [e1]
      dsimp only
      unfold walkR
      rw [show (0 : Int) + 1 = 1 from rfl, e2]
      dsimp only
      unfold walkR
      rw [show (1 : Int) + 1 = 2 from rfl, e3]
      dsimp only
      unfold walkR
      rfl
    rw [w]
    rfl
  rw [ss_rt (ret_run ec)]
  rfl
theorem caught (x0 x1 x2 : AO) (a b c : AV) : calA P 39 33 [a, b] (Hs2 x0 x1 x2 a b c 12) = .ok (.bl true) (Hs2 x0 x1 x2 a b c 12 ++ [.gone, .gone]) := by kernel_rfl
theorem law_run (ns : List Int) : ∃ h', calA P 40 34 [.ref 0] [.rls (ns.map .int)] = .ok (.bl true) h' := by
  obtain ⟨fo, e1, f0, f1⟩ := pen_run (P := P) (n := 38) g25 (ns := ns)
  have x : Pen 0 [.rls (ns.map .int), .dct (penL 2 0 0 0 fo), .lst (ns.map .int)] 1 := ⟨2, 0, 0, 0, fo, ns, ⟨rfl, rfl, by decide, by decide, by decide, f0, f1⟩, by decide⟩
  generalize hC : AO.lst (ns.map .int) = C at e1 x
  generalize hX : AO.rls (ns.map .int) = x0 at e1 x
  generalize hA : AO.dct (penL 2 0 0 0 fo) = A at e1 x
  obtain ⟨a, b, c, A', e2, ha, hb, hc⟩ := values_run x
  obtain ⟨da, va⟩ := vd_all a ha
  obtain ⟨db, vb⟩ := vd_all b hb
  obtain ⟨dc, vc⟩ := vd_all c hc
  have e3 := all1 x0 A' C a b c va vb vc
  have e4 := all2 x0 A' C a b c va vb vc
  have e5 := caught x0 A' C a b c
  refine ⟨Hs2 x0 A' C a b c 12 ++ [.gone, .gone], ?_⟩
  rw [calA_def (d := d34) rfl rfl]
  show fin (evSs P (calA P 39) (.cons (.set 1 (.call 25 (.cons (.var 0) .nil))) (.cons (.unp [2, 3, 4] (.call 28 (.cons (.var 1) .nil))) (.cons (.ret (.and_ (.call 31 (.cons (.var 2) (.cons (.var 3) (.cons (.var 4) .nil)))) (.and_ (.call 32 (.cons (.var 2) (.cons (.var 3) (.cons (.var 4) .nil)))) (.call 33 (.cons (.var 2) (.cons (.var 3) .nil)))))) .nil))) [some (.ref 0), none, none, none, none] [x0]) = _
  have s1 : evE P (calA P 39) (.call 25 (.cons (.var 0) .nil)) [some (.ref 0), none, none, none, none] [x0] = .ok (.ref 1) [x0, A, C] := by
    simp only [evE, evEs, getS, List.getElem?_cons_zero, bind_ok]
    rw [callP_def (d := penD) g25 rfl, e1]
  rw [ss_nx (set_run s1)]
  have s2 : evS P (calA P 39) (.unp [2, 3, 4] (.call 28 (.cons (.var 1) .nil))) [some (.ref 0), some (.ref 1), none, none, none] [x0, A, C] = .nx [some (.ref 0), some (.ref 1), some a, some b, some c] (Z0 x0 A' C [.lst [a, b, c]]) := by
    simp only [evS, evE, evEs, getS, List.getElem?_cons_zero, List.getElem?_cons_succ, bind_ok]
    rw [callP_def (d := d28) rfl rfl, e2]
    rfl
  simp only [List.set_cons_zero, List.set_cons_succ]
  rw [ss_nx s2]
  have call3 : ∀ (g : Nat) (d : MDef) (h h2 : AH), P g = some (.def_ d) → d.params.length = 3 → calA P 39 g [a, b, c] h = .ok (.bl true) h2 → evE P (calA P 39) (.call g (.cons (.var 2) (.cons (.var 3) (.cons (.var 4) .nil)))) [some (.ref 0), some (.ref 1), some a, some b, some c] h = .ok (.bl true) h2 := fun g d h h2 hg hp e => by
    simp only [evE, evEs, getS, List.getElem?_cons_zero, List.getElem?_cons_succ, bind_ok]
    rw [callP_def (d := d) hg (by rw [hp]; rfl), e]
  have q5 : evE P (calA P 39) (.call 33 (.cons (.var 2) (.cons (.var 3) .nil))) [some (.ref 0), some (.ref 1), some a, some b, some c] (Hs2 x0 A' C a b c 12) = .ok (.bl true) (Hs2 x0 A' C a b c 12 ++ [.gone, .gone]) := by
    simp only [evE, evEs, getS, List.getElem?_cons_zero, List.getElem?_cons_succ, bind_ok]
    rw [callP_def (d := d33) rfl rfl, e5]
  rw [ss_rt (ret_run (and_t (call3 31 d31 _ _ rfl rfl e3) (and_t (call3 32 d32 _ _ rfl rfl e4) q5)))]
  rfl
end K00
end Mini
set_option autoImplicit true
set_option maxHeartbeats 0
namespace Mini.K00
open PySem PySem.Spec L2
open PyProof.Rows hiding St
abbrev Rw : PySem.W.OpenRow := PySem.W.OpenLaw.row row
abbrev hk : PySem.W.Hook := hookM 6 p ds
def ob (s : PySem.W.SharedT) : AlM := obsMG 6 p ds (HandSHeadRun.getT s)
theorem ob_eq (s : PySem.W.SharedT) : ob s = hk.obs s.abs := obsMG_eq (HandSHeadRun.getT_eq s)
theorem run (w : World) : HandSHeadRun.RunEq Rw (PySem.W.view Rw.prog [24]) hk ob 4000 loose w := by
  intro os
  kernel_rfl
end Mini.K00
set_option autoImplicit true
set_option maxHeartbeats 0
open PySem PySem.W PySem.Calls PyProof.Rows
theorem k00_of (law : ∀ ns : List Int, ns.length ≤ 63 → (∀ k ∈ ns, Builtin.Int.intBits k ≤ 1048576) → ∃ h', Mini.calA Mini.K00.p.Pr 40 34 [.ref 0] [.rls (ns.map .int)] = .ok (.bl true) h') : PySem.Challenge.rw_growthpapers_k00_errors_made_by_hand.Holds := by
  w_on; o_law
  refine HandSHeadRun.head_any (r := OpenLaw.row PySem.Challenge.rw_growthpapers_k00_errors_made_by_hand) (q := view (OpenLaw.row PySem.Challenge.rw_growthpapers_k00_errors_made_by_hand).prog [24]) (H := Mini.K00.hk) (ob := Mini.K00.ob) (M := 4000) (loose := Mini.K00.loose) (d := HandSHeadRun.topDef (OpenLaw.row PySem.Challenge.rw_growthpapers_k00_errors_made_by_hand).prog 24) (kwd := []) Mini.K00.ob_eq
    (by kernel_rfl) (fun s => by kernel_rfl) Mini.K00.run (by kernel_rfl) (by kernel_rfl) (by kernel_rfl) (by rfl) (by first | assumption | decide +kernel) (by decide +kernel) ⟨rfl, rfl, rfl, rfl, rfl, by decide +kernel⟩ ?hw ?hc
  case hw => w_witness2
  case hc => exact Mini.walk_mini (l := PySem.Challenge.rw_growthpapers_k00_errors_made_by_hand) (fu := 40) (gl := 34) (md := Mini.K00.d34) (x := "script") rfl (by decide) (by kernel_rfl) ⟨rfl, by decide, by decide⟩ Mini.K00.sd Mini.K00.st rfl (by kernel_rfl) rfl law
set_option autoImplicit true
theorem PySem.Challenge.cw_growthpapers_k00_errors_made_by_hand_holds : PySem.Challenge.rw_growthpapers_k00_errors_made_by_hand.Holds := by
  exact k00_of fun ns _ _ => Mini.K00.law_run ns
