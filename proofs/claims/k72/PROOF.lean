import PyProof.Rows.All
import Wide.All
import OpenK.AllK
import Wide.FinOn
import HandS.ForMost
import HandS.TupAny
import HandS.Deep
import HandS.IsInst
import HandS.Rev
import HandS.Zip
import HandS.Walk
import HandS.More
import HandS.WordsDict
import HandS.Defaults
import HandS.Style
import KE.DatumIndex
import PyProof.ReprRoads
import KE.GoesEnum
import HandS.Codes
import HandS.Words
import HandS.Ends
import PySem.Challenge.RW_pilereach_k72_situations_that_follow
set_option Elab.async false
set_option linter.all false
/-! E1: the small language: values, store, syntax, what it computes. -/
namespace Eng
open PySem L2

/-! ### values -/
inductive W where
  | non | bl (b : Bool) | int (i : Int) | str (s : Str)
  | tup (xs : List W) | lst (xs : List W) | fro (xs : List W) | ins (c : Nat) (ns : List Nat) (ws : List W)
  | dct (ks : List Key) (ws : List W)
  | ref (l : Nat)
  deriving Inhabited
/-- what stands in the store -/
inductive Ob where
  | lst (xs : List W)
  | ins (c : Nat) (ns : List Nat) (ws : List W)
  | dK (ks : List Key) (ws : List W)
  deriving Inhabited
abbrev Sto := List Ob
abbrev Env := List (Option W)
inductive R (α : Type) where
  | ok (a : α) (S : Sto)
  | exc (c : Nat) (w : W) (S : Sto)
  | bad
def R.bind {α β : Type} (r : R α) (f : α → Sto → R β) : R β :=
  match r with
  | .ok a S => f a S
  | .exc c w S => .exc c w S
  | .bad => .bad
def R.of {α : Type} (o : Option α) (S : Sto) : R α := match o with | some a => .ok a S | none => .bad

/-! ### no reference to the store from n on -/
mutual
def below (n : Nat) : W → Bool
  | .tup xs => belows n xs
  | .lst xs => belows n xs
  | .fro xs => belows n xs
  | .ins _ _ ws => belows n ws
  | .dct _ ws => belows n ws
  | .ref l => decide (l < n)
  | _ => true
def belows (n : Nat) : List W → Bool
  | [] => true
  | x :: xs => below n x && belows n xs
end
def belowO (n : Nat) : Ob → Bool
  | .lst xs => belows n xs
  | .ins _ _ ws => belows n ws
  | .dK _ ws => belows n ws
/-! ### references from n on are read out -/
mutual
def resW (n : Nat) (d : Nat → Option W) : W → Option W
  | .tup xs => (resWs n d xs).map .tup
  | .lst xs => (resWs n d xs).map .lst
  | .fro xs => (resWs n d xs).map .fro
  | .ins c ns ws => (resWs n d ws).map (.ins c ns)
  | .dct ks ws => (resWs n d ws).map (.dct ks)
  | .ref l => if l < n then some (.ref l) else d l
  | .non => some .non | .bl b => some (.bl b) | .int i => some (.int i) | .str s => some (.str s)
def resWs (n : Nat) (d : Nat → Option W) : List W → Option (List W)
  | [] => some []
  | x :: xs => match resW n d x, resWs n d xs with
    | some y, some ys => some (y :: ys)
    | _, _ => none
end
def deref (n : Nat) (Rg : List Ob) : Nat → Nat → Option W
  | 0, _ => none
  | f + 1, l => match Rg[l - n]? with
    | some (.lst xs) => (resWs n (deref n Rg f) xs).map .lst
    | some (.ins c ns ws) => (resWs n (deref n Rg f) ws).map (.ins c ns)
    | some (.dK ks ws) => (resWs n (deref n Rg f) ws).map (.dct ks)
    | none => none
def OldOk (S S1 : Sto) : Prop := ∀ (i : Nat) (o : Ob), S1[i]? = some o → S[i]? = some o ∨ belowO S.length o = true
open Classical in
noncomputable def exitR (S : Sto) (w : W) (S' : Sto) : R W :=
  if S.length ≤ S'.length ∧ OldOk S (S'.take S.length) then
    match resW S.length (deref S.length (S'.drop S.length) 8) w with
    | some w' => .ok w' (S'.take S.length)
    | none => .bad
  else .bad

/-! ### syntax -/
inductive BOp | add | sub | mul | fdiv | mod | pow
  deriving DecidableEq
inductive COp | eq | ne | lt | le | gt | ge | isN | notN | in_ | notIn
  deriving DecidableEq
inductive CT where
  | nm (i : Nat) | tp (ts : List CT)
/-- built-in functions of values -/
inductive Blt | len | int | tuple | sum | all | any | min2 | max2 | abs
  deriving DecidableEq
/-- methods of built-in objects -/
inductive Bm | append | extend | pop0 | popAt | get2 | index
  deriving DecidableEq
/-- further operations: a new dict, a tuple from behind -/
inductive Xop | dnew | revT
  deriving DecidableEq
mutual
inductive CE where
  | var (i : Nat) | non | bl (b : Bool) | int (i : Int) | str (t : Nat) | gc (t : Nat)
  | bin (op : BOp) (a b : CE) | neg (a : CE)
  | cmp (op : COp) (a b : CE) | chain (op op' : COp) (a b c : CE)
  | and_ (es : CEs) | or_ (es : CEs) | not_ (a : CE) | ite (c a b : CE)
  | tup (es : CEs) | lst (l : CL) | alloc (l : CL)
  | idx (a i : CE) | sl (a lo hi : CE) | omit
  | fld (a : CE) (f : Nat)
  | call (f : Nat) (es : CEs) | make (pure : Bool) (c : Nat) (es : CEs) | meth (a : CE) (m : Nat) (es : CEs)
  | blt (b : Blt) (es : CEs) | bm (m : Bm) (a : CE) (es : CEs) | isC (a : CE) (c : Nat) | isT (a : CE) (t : Nat)
  | dict (ks : List Nat) (es : CEs) | dcopy (a : CE)
  | op (o : Xop) (es : CEs)
  | rep (ne : Bool) (a b : CE)
  | comp (pure : Bool) (own : List Nat) (t : CT) (it : CI) (tst : CEs) (e : CE)
/-- what makes a new list -/
inductive CL where
  | disp (es : CEs) | copy (a : CE) | sl (a lo hi : CE) | cat (a b : CE)
inductive CEs where
  | nil | cons (e : CE) (es : CEs)
/-- what is walked -/
inductive CI where
  | seq (a : CE) | rng1 (a : CE) | rng2 (a b : CE) | enm (a : CE) | rev (a : CE) | zip (a b : CE)
end
mutual
inductive CS where
  | expr (e : CE) | asg (t : CT) (e : CE) | fld (a : CE) (f : Nat) (e : CE) | sub (a i e : CE)
  | aug (i : Nat) (op : BOp) (e : CE) | augf (a : CE) (f : Nat) (op : BOp) (e : CE)
  | if_ (c : CE) (t e : CSs) | wh (c : CE) (b : CSs) | for_ (t : CT) (it : CI) (b : CSs)
  | ret (e : CE) | retN | pass | brk | cont | nev
inductive CSs where
  | nil | cons (s : CS) (ss : CSs)
end
inductive Fl where
  | nx (env : Env) | ret (w : W) | bk (env : Env) | ct (env : Env)

/-- a function of the program: its parameters, its slots, its body, whether what it makes is read out at its end -/
structure FDef where
  np : Nat
  ns : Nat
  body : CSs
  pure : Bool
structure Prog where
  fn : Nat → Option FDef
  /-- the function of a class's method -/
  meth : Nat → Nat → Option Nat
  /-- the function of a class's __init__ -/
  init : Nat → Option Nat
  /-- a class is under another -/
  sub : Nat → Nat → Option Bool
  /-- strings by number -/
  tag : Nat → Str
  /-- constants of modules by number -/
  gc : Nat → Option W
  /-- the name of a function, of a class, in its module (by number) -/
  gname : Nat → Option Nat
  cname : Nat → Option Nat
  /-- the names of the fields of a class -/
  isF : Nat → Nat → Bool
  /-- the defaults of a function's last parameters -/
  dfl : Nat → List W
/-- the arguments with the defaults that are wanted -/
def full (P : Prog) (f : Nat) (ws : List W) : List W := match P.fn f with
  | some d => ws ++ (P.dfl f).drop ((P.dfl f).length + ws.length - d.np)
  | none => ws

/-! ### operations on values -/
def asList (S : Sto) : W → Option (List W)
  | .lst xs => some xs
  | .fro xs => some xs
  | .ref l => match S[l]? with | some (.lst xs) => some xs | _ => none
  | _ => none
/-- a list that may be written or joined -/
def asLst (S : Sto) : W → Option (List W)
  | .lst xs => some xs
  | .ref l => match S[l]? with | some (.lst xs) => some xs | _ => none
  | _ => none
def asSeq (S : Sto) : W → Option (List W)
  | .tup xs => some xs
  | w => asList S w
mutual
def toD : W → PyData
  | .bl b => .bool b | .int i => .int i | .str s => .str s
  | .tup xs => .tuple (toDs xs) | .lst xs => .list (toDs xs) | .fro xs => .list (toDs xs)
  | .non => .none | .ins _ _ _ => .none | .dct _ _ => .none | .ref _ => .none
def toDs : List W → List PyData
  | [] => []
  | x :: xs => toD x :: toDs xs
end
mutual
def isD : W → Bool
  | .tup xs => isDs xs | .lst xs => isDs xs | .fro xs => isDs xs
  | .ins _ _ _ => false | .dct _ _ => false | .ref _ => false
  | .non => true | .bl _ => true | .int _ => true | .str _ => true
def isDs : List W → Bool
  | [] => true
  | x :: xs => isD x && isDs xs
end
def readW (S : Sto) (w : W) : Option W := if isD w = true then some w else resW 0 (deref 0 S 8) w
/-- what repr shows, if it is data -/
def okD (d : PyData) : Bool := d.showable && !d.hasDict && decide (d.depth ≤ 60) && decide (d.shown.length ≤ sizeLine)
def isSq : W → Bool
  | .tup _ => true | .lst _ => true | _ => false
def showD (S : Sto) (w : W) : Option PyData :=
  match readW S w with
  | some w' => if isSq w' = true ∧ isD w' = true ∧ okD (toD w') = true then some (toD w') else none
  | none => none
def eqDeep (S : Sto) (a b : W) : Option Bool :=
  match readW S a, readW S b with
  | some a', some b' => if isD a' = true ∧ isD b' = true ∧ SeqAt.shaped (toD a') = true ∧ SeqAt.shaped (toD b') = true then some (PyData.eqv (toD a') (toD b')) else none
  | _, _ => none
def eqS : W → W → Option Bool
  | .int i, .int j => some (decide (i = j))
  | .str x, .str y => some (decide (x = y))
  | .bl x, .bl y => some (decide (x = y))
  | .non, .non => some true
  | .non, .int _ => some false | .int _, .non => some false | .non, .bl _ => some false | .bl _, .non => some false
  | .non, .str _ => some false | .str _, .non => some false
  | _, _ => none
def eqW (S : Sto) (a b : W) : Option Bool := match eqS a b with | some r => some r | none => eqDeep S a b
def flatW : W → Bool
  | .non => true | .bl _ => true | .int _ => true | .str _ => true | _ => false
/-- == of flat values -/
def eqF : W → W → Bool
  | .non, .non => true
  | .bl a, .bl b => a == b
  | .bl a, .int b => (if a then 1 else 0) == b
  | .int a, .bl b => a == (if b then 1 else 0)
  | .int a, .int b => a == b
  | .str a, .str b => a == b
  | _, _ => false
def keyOf : W → Option Key
  | .int i => some (.inl i)
  | .str s => some (.inr s)
  | _ => none
def dLook : List Key → List W → Key → Option W
  | k :: ks, w :: ws, x => if k = x then some w else dLook ks ws x
  | _, _, _ => none
def asDict (S : Sto) : W → Option (List Key × List W)
  | .dct ks ws => some (ks, ws)
  | .ref l => match S[l]? with | some (.dK ks ws) => some (ks, ws) | _ => none
  | _ => none
def inDeep (S : Sto) (x c : W) : Option Bool :=
  match readW S x, readW S c with
  | some x', some (.lst ys) => if isD x' = true ∧ isDs ys = true ∧ SeqAt.shaped (toD x') = true ∧ SeqAt.shaped (.list (toDs ys)) = true then some (ys.any fun z => PyData.eqv (toD z) (toD x')) else none
  | _, _ => none
def inW (S : Sto) (x c : W) : Option Bool :=
  match asDict S c with
  | some (ks, ws) => (keyOf x).map fun k => (dLook ks ws k).isSome
  | none => match asSeq S c with
    | some xs => if flatW x = true ∧ xs.all flatW = true then some (xs.any fun y => eqF y x) else inDeep S x c
    | none => none
def cmpW (S : Sto) : COp → W → W → Option Bool
  | .eq, a, b => eqW S a b
  | .ne, a, b => (eqW S a b).map (!·)
  | .lt, .int i, .int j => some (decide (i < j))
  | .le, .int i, .int j => some (decide (i ≤ j))
  | .gt, .int i, .int j => some (decide (j < i))
  | .ge, .int i, .int j => some (decide (j ≤ i))
  | .isN, .non, .non => some true
  | .isN, _, .non => some false
  | .notN, .non, .non => some false
  | .notN, _, .non => some true
  | .in_, a, b => inW S a b
  | .notIn, a, b => (inW S a b).map (!·)
  | _, _, _ => none
def cut {α : Type} (xs : List α) (lo hi : Option Int) : List α := (xs.drop (HT.sIx xs.length 0 lo)).take (HT.sIx xs.length xs.length hi - HT.sIx xs.length 0 lo)
instance (i j : Int) : Decidable (CMul i j) := by unfold CMul; infer_instance
instance (i j : Int) : Decidable (CDivN i j) := by unfold CDivN; infer_instance
instance (i j : Int) : Decidable (CPow i j) := by unfold CPow; infer_instance
def binW : BOp → W → W → Option W
  | .add, .int i, .int j => some (.int (i + j))
  | .add, .int i, .bl k => some (.int (i + if k then 1 else 0))
  | .add, .tup xs, .tup ys => if xs.length + ys.length ≤ sizeLine then some (.tup (xs ++ ys)) else none
  | .add, .str x, .str y => if x.length + y.length ≤ sizeLine then some (.str (x ++ y)) else none
  | .sub, .int i, .int j => some (.int (i - j))
  | .mul, .int i, .int j => if CMul i j then some (.int (i * j)) else none
  | .fdiv, .int i, .int j => if CDivN i j then some (.int (i.fdiv j)) else none
  | .mod, .int i, .int j => if j ≠ 0 then some (.int (i.fmod j)) else none
  | .pow, .int i, .int j => if CPow i j then some (.int (i ^ j.toNat)) else none
  | _, _, _ => none
def idxW (S : Sto) (a i : W) : Option W :=
  match asDict S a with
  | some (ks, ws) => (keyOf i).bind fun k => dLook ks ws k
  | none => match asSeq S a, i with
    | some xs, .int k => atI xs k
    | _, _ => none
/-- the position of a name among the fields -/
def fldW : List Nat → List W → Nat → Option W
  | n :: ns, w :: ws, f => if n = f then some w else fldW ns ws f
  | _, _, _ => none
def putW : List Nat → List W → Nat → W → List Nat × List W
  | n :: ns, w :: ws, f, v => if n = f then (n :: ns, v :: ws) else ((n :: (putW ns ws f v).1), (w :: (putW ns ws f v).2))
  | _, _, f, v => ([f], [v])
def asIns (S : Sto) : W → Option (Nat × List Nat × List W)
  | .ins c ns ws => some (c, ns, ws)
  | .ref l => match S[l]? with | some (.ins c ns ws) => some (c, ns, ws) | _ => none
  | _ => none
def getF (S : Sto) (a : W) (f : Nat) : Option W := (asIns S a).bind fun p => fldW p.2.1 p.2.2 f
def intsW : List W → Option (List Int)
  | [] => some []
  | .int i :: r => (intsW r).map (i :: ·)
  | _ => none
def boolsW : List W → Option (List Bool)
  | [] => some []
  | .bl i :: r => (boolsW r).map (i :: ·)
  | _ => none
def bltW (S : Sto) : Blt → List W → Option W
  | .len, [x] => match asDict S x with
    | some (ks, _) => some (.int ks.length)
    | none => match asSeq S x with
      | some xs => some (.int xs.length)
      | none => match x with | .str s => if s.length ≤ sizeLine then some (.int s.length) else none | _ => none
  | .int, [.int i] => some (.int i)
  | .int, [.bl b] => some (.int (if b then 1 else 0))
  | .tuple, [x] => (asSeq S x).map .tup
  | .sum, [x] => (asList S x).bind fun xs => (intsW xs).map fun ns => .int ns.sum
  | .all, [x] => (asList S x).bind fun xs => (boolsW xs).map fun ns => .bl (ns.all id)
  | .any, [x] => (asList S x).bind fun xs => (boolsW xs).map fun ns => .bl (ns.any id)
  | .min2, [.int i, .int j] => some (.int (if j < i then j else i))
  | .max2, [.int i, .int j] => some (.int (if j > i then j else i))
  | .abs, [.int i] => some (.int (if i < 0 then -i else i))
  | _, _ => none
def dRep : List Key → List W → Key → W → List W
  | k :: ks, w :: ws, x, v => (if k = x then v else w) :: dRep ks ws x v
  | _, _, _, _ => []
def dPut (ks : List Key) (ws : List W) (x : Key) (v : W) : List Key × List W := if (ks.any fun k => decide (k = x)) = true then (ks, dRep ks ws x v) else (ks ++ [x], ws ++ [v])
/-- the first place of an equal one -/
def ixOf (d : PyData) : List W → Option Nat
  | [] => none
  | x :: xs => if PyData.eqv (toD x) d = true then some 0 else (ixOf d xs).map (· + 1)
def xW (S : Sto) : Xop → List W → R W
  | .dnew, [] => .ok (.ref S.length) (S ++ [.dK [] []])
  | .revT, [.tup xs] => .ok (.tup xs.reverse) S
  | _, _ => .bad
def bmW (S : Sto) : Bm → W → List W → R W
  | .append, .ref l, [w] => match S[l]? with | some (.lst xs) => if xs.length < sizeLine then .ok .non (S.set l (.lst (xs ++ [w]))) else .bad | _ => .bad
  | .extend, .ref l, [.lst ys] => match S[l]? with
    | some (.lst xs) => if xs.length + ys.length ≤ sizeLine then .ok .non (S.set l (.lst (xs ++ ys))) else .bad
    | _ => .bad
  | .extend, .ref l, [.ref l'] => match S[l]?, S[l']? with
    | some (.lst xs), some (.lst ys) => if xs.length + ys.length ≤ sizeLine then .ok .non (S.set l (.lst (xs ++ ys))) else .bad
    | _, _ => .bad
  | .pop0, .ref l, [] => match S[l]? with
    | some (.lst xs) => match xs[xs.length - 1]? with | some y => .ok y (S.set l (.lst xs.dropLast)) | none => .bad
    | _ => .bad
  | .popAt, .ref l, [.int i] => match S[l]? with
    | some (.lst xs) => if -(2 ^ 63) ≤ i ∧ i < 2 ^ 63 then
        match seqIndex? i xs.length with
        | some k => match xs[k]? with | some y => .ok y (S.set l (.lst (xs.eraseIdx k))) | none => .bad
        | none => .bad
      else .bad
    | _ => .bad
  | .get2, d, [k, z] => match asDict S d, keyOf k with
    | some (ks, ws), some x => .ok ((dLook ks ws x).getD z) S
    | _, _ => .bad
  | .index, x, [y] => match readW S x, readW S y with
    | some (.lst xs), some y' => if isDs xs = true ∧ isD y' = true ∧ SeqAt.shaped (.list (toDs xs)) = true ∧ SeqAt.shaped (toD y') = true then
        match ixOf (toD y') xs with
        | some j => .ok (.int j) S
        | none => .bad
      else .bad
    | _, _ => .bad
  | _, _, _ => .bad
/-- the receiver of such a method -/
def bmK (S : Sto) : Bm → W → Bool
  | .get2, x => (asDict S x).isSome
  | _, x => (asLst S x).isSome
/-- a value of a built-in type: a tuple, a list, a bool -/
def isTW (S : Sto) (x : W) (t : Nat) : Bool := match t with
  | 0 => (match x with | .tup _ => true | _ => false)
  | 1 => (asLst S x).isSome
  | 2 => (match x with | .bl _ => true | _ => false)
  | _ => false
/-- a[i] = v -/
def subW (S : Sto) (a i v : W) : Option Sto :=
  match a with
  | .ref l => match S[l]? with
    | some (.lst xs) => match i with
      | .int k => (ixN xs.length k).map fun j => S.set l (.lst (xs.set j v))
      | _ => none
    | some (.dK ks ws) => match keyOf i with
      | some x => if ks.length < sizeLine then some (S.set l (.dK (dPut ks ws x v).1 (dPut ks ws x v).2)) else none
      | none => none
    | _ => none
  | _ => none
/-- a.f = v -/
def setFW (P : Prog) (S : Sto) (a : W) (f : Nat) (v : W) : Option Sto :=
  match a with
  | .ref l => match S[l]? with
    | some (.ins c ns ws) => if ns.length < 1000 ∧ P.isF c f = true then some (S.set l (.ins c (putW ns ws f v).1 (putW ns ws f v).2)) else none
    | _ => none
  | _ => none
mutual
def asgT : CT → W → Env → Option Env
  | .nm i, w, env => some (env.set i (some w))
  | .tp ts, .tup ws, env => asgTs ts ws env
  | _, _, _ => none
def asgTs : List CT → List W → Env → Option Env
  | [], [], env => some env
  | t :: ts, w :: ws, env => (asgT t w env).bind (asgTs ts ws)
  | _, _, _ => none
end
def wipeE (env : Env) : List Nat → Env
  | [] => env
  | v :: vs => (wipeE env vs).set v none
/-- what is walked stays as it is -/
def gOk (S : Sto) (g : List (Nat × List W)) : Prop := ∀ p ∈ g, S[p.1]? = some (.lst p.2)
def seqG (S : Sto) : W → List (Nat × List W)
  | .ref l => match S[l]? with | some (.lst xs) => [(l, xs)] | _ => []
  | _ => []
def upTo (lo : Int) : Nat → List W
  | 0 => []
  | n + 1 => .int lo :: upTo (lo + 1) n
def enumW (k : Nat) : List W → List W
  | [] => []
  | x :: xs => .tup [.int k, x] :: enumW (k + 1) xs
def zipW : List W → List W → List W
  | x :: xs, y :: ys => .tup [x, y] :: zipW xs ys
  | _, _ => []
/-- two of a kind: tuples or lists -/
def zipS (S : Sto) : W → W → Option (List W × List W)
  | .tup xs, .tup ys => some (xs, ys)
  | x, y => match asList S x, asList S y with | some xs, some ys => some (xs, ys) | _, _ => none
abbrev Items := List W × List (Nat × List W)
open Classical in
/-- a comprehension's loop: the list that it makes stands at n -/
noncomputable def compL (g : List (Nat × List W)) (n : Nat) (f : W → Sto → R (Option W)) : List W → Sto → R Unit
  | [], S => if gOk S g then .ok () S else .bad
  | x :: xs, S => if gOk S g then (f x S).bind fun o S1 => match o with
      | none => compL g n f xs S1
      | some w => match S1[n]? with
        | some (.lst acc) => if acc.length < sizeLine then compL g n f xs (S1.set n (.lst (acc ++ [w]))) else .bad
        | _ => .bad
    else .bad
open Classical in
noncomputable def forL (g : List (Nat × List W)) (f : W → Env → Sto → R Fl) : List W → Env → Sto → R Fl
  | [], env, S => if gOk S g then .ok (.nx env) S else .bad
  | x :: xs, env, S => if gOk S g then (f x env S).bind fun fl S1 => match fl with
      | .nx e => forL g f xs e S1
      | .ct e => forL g f xs e S1
      | .bk e => .ok (.nx e) S1
      | .ret w => .ok (.ret w) S1
    else .bad
def whF (c : Env → Sto → R W) (b : Env → Sto → R Fl) : Nat → Env → Sto → R Fl
  | 0, _, _ => .bad
  | n + 1, env, S => (c env S).bind fun w S1 => match w with
    | .bl true => (b env S1).bind fun fl S2 => match fl with
      | .nx e => whF c b n e S2
      | .ct e => whF c b n e S2
      | .bk e => .ok (.nx e) S2
      | .ret w => .ok (.ret w) S2
    | .bl false => .ok (.nx env) S1
    | _ => .bad
open Classical in
noncomputable def whR (c : Env → Sto → R W) (b : Env → Sto → R Fl) (env : Env) (S : Sto) : R Fl :=
  if h : ∃ n, whF c b n env S ≠ .bad then whF c b (Classical.choose h) env S else .bad

/-! ### what the syntax computes -/
/-- the calls from a body -/
structure Cl where
  fn : Nat → List W → Sto → R W
  ini : Nat → List W → Sto → R W
  /-- repr may be asked -/
  rp : Bool
/-- a new instance -/
noncomputable def mkR (P : Prog) (C : Cl) (pure : Bool) (c : Nat) (ws : List W) (S : Sto) : R W :=
  match P.init c with
  | none => .bad
  | some f => (C.ini f (full P f (.ref S.length :: ws)) (S ++ [.ins c [] []])).bind fun w S1 => match w with
    | .non => if pure then exitR S (.ref S.length) S1 else .ok (.ref S.length) S1
    | _ => .bad
def isOmit : CE → Bool
  | .omit => true
  | _ => false
def toI (w : W) (S : Sto) : R (Option Int) := match w with | .int i => .ok (some i) S | _ => .bad
mutual
noncomputable def evE (P : Prog) (C : Cl) : CE → Env → Sto → R W
  | .var i, env, S => R.of (env[i]?.join) S
  | .non, _, S => .ok .non S
  | .bl b, _, S => .ok (.bl b) S
  | .int i, _, S => .ok (.int i) S
  | .str t, _, S => .ok (.str (P.tag t)) S
  | .gc t, _, S => R.of (P.gc t) S
  | .bin op a b, env, S => (evE P C a env S).bind fun x S1 => (evE P C b env S1).bind fun y S2 => R.of (binW op x y) S2
  | .neg a, env, S => (evE P C a env S).bind fun x S1 => match x with | .int i => .ok (.int (-i)) S1 | _ => .bad
  | .cmp op a b, env, S => (evE P C a env S).bind fun x S1 => (evE P C b env S1).bind fun y S2 => R.of ((cmpW S2 op x y).map .bl) S2
  | .chain op op' a b c, env, S => (evE P C a env S).bind fun x S1 => (evE P C b env S1).bind fun y S2 => (R.of (cmpW S2 op x y) S2).bind fun r S3 =>
      if r = true then (evE P C c env S3).bind fun z S4 => R.of ((cmpW S4 op' y z).map .bl) S4 else .ok (.bl false) S3
  | .and_ es, env, S => evAnd P C es env S
  | .or_ es, env, S => evOr P C es env S
  | .not_ a, env, S => (evE P C a env S).bind fun x S1 => match x with | .bl b => .ok (.bl (!b)) S1 | _ => .bad
  | .ite c a b, env, S => (evE P C c env S).bind fun x S1 => match x with | .bl true => evE P C a env S1 | .bl false => evE P C b env S1 | _ => .bad
  | .tup es, env, S => (evEs P C es env S).bind fun ws S1 => if ws.length ≤ sizeLine then .ok (.tup ws) S1 else .bad
  | .lst l, env, S => (evL P C l env S).bind fun ws S1 => .ok (.lst ws) S1
  | .alloc l, env, S => (evL P C l env S).bind fun ws S1 => .ok (.ref S1.length) (S1 ++ [.lst ws])
  | .idx a i, env, S => (evE P C a env S).bind fun x S1 => (evE P C i env S1).bind fun y S2 => R.of (idxW S2 x y) S2
  | .sl a lo hi, env, S => (evE P C a env S).bind fun x S1 => (if isOmit lo = true then R.ok none S1 else (evE P C lo env S1).bind toI).bind fun l S2 => (if isOmit hi = true then R.ok none S2 else (evE P C hi env S2).bind toI).bind fun h S3 =>
      match x with
      | .tup xs => .ok (.tup (cut xs l h)) S3
      | _ => .bad
  | .omit, _, S => .ok .non S
  | .fld a f, env, S => (evE P C a env S).bind fun x S1 => R.of (getF S1 x f) S1
  | .call f es, env, S => (evEs P C es env S).bind fun ws S1 => C.fn f (full P f ws) S1
  | .make p c es, env, S => (evEs P C es env S).bind fun ws S1 => mkR P C p c ws S1
  | .meth a m es, env, S => (evE P C a env S).bind fun x S1 => match asIns S1 x with
      | some (c, ns, _) => match P.meth c m with
        | some f => if m ∈ ns then .bad else (evEs P C es env S1).bind fun ws S2 => C.fn f (full P f (x :: ws)) S2
        | none => .bad
      | none => .bad
  | .blt b es, env, S => (evEs P C es env S).bind fun ws S1 => R.of (bltW S1 b ws) S1
  | .bm m a es, env, S => (evE P C a env S).bind fun x S1 => if bmK S1 m x = true then (evEs P C es env S1).bind fun ws S2 => bmW S2 m x ws else .bad
  | .isC a c, env, S => (evE P C a env S).bind fun x S1 => match asIns S1 x with
      | some (c', _, _) => R.of ((P.sub c' c).map .bl) S1
      | none => .bad
  | .isT a t, env, S => (evE P C a env S).bind fun x S1 => if isTW S1 x t = true then .ok (.bl true) S1 else .bad
  | .dict ks es, env, S => (evEs P C es env (S ++ [.dK [] []])).bind fun ws S1 => match S1[S.length]? with
      | some (.dK [] []) => if ks.length = ws.length ∧ ks.length ≤ 15 ∧ (ks.map P.tag).Nodup then
          exitR S (.ref S.length) (S1.set S.length (.dK (ks.map fun t => .inr (P.tag t)) ws)) else .bad
      | _ => .bad
  | .dcopy a, env, S => (evE P C a env S).bind fun x S1 => match asDict S1 x with
      | some (ks, ws) => .ok (.ref S1.length) (S1 ++ [.dK ks ws])
      | none => .bad
  | .op o es, env, S => (evEs P C es env S).bind fun ws S1 => xW S1 o ws
  | .rep ne a b, env, S => if C.rp = true then (evE P C a env S).bind fun x S1 => (R.of (showD S1 x) S1).bind fun d S2 => (evE P C b env S2).bind fun y S3 => R.of ((showD S3 y).map fun e => .bl (if ne = true then !(d.shown == e.shown) else d.shown == e.shown)) S3 else .bad
  | .comp pu own t it tst e, env, S => (evI P C it env S).bind fun p S1 =>
      (compL p.2 S1.length (fun x S2 => match asgT t x (wipeE env own) with
        | none => .bad
        | some env' => (evAll P C tst env' S2).bind fun b S3 => if b = true then (evE P C e env' S3).bind fun w S4 => .ok (some w) S4 else .ok none S3) p.1 (S1 ++ [.lst []])).bind fun _ S5 =>
      if pu = true then exitR S1 (.ref S1.length) S5 else .ok (.ref S1.length) S5
noncomputable def evL (P : Prog) (C : Cl) : CL → Env → Sto → R (List W)
  | .disp es, env, S => (evEs P C es env S).bind fun ws S1 => if ws.length ≤ sizeLine then .ok ws S1 else .bad
  | .copy a, env, S => (evE P C a env S).bind fun x S1 => R.of (asSeq S1 x) S1
  | .sl a lo hi, env, S => (evE P C a env S).bind fun x S1 => (if isOmit lo = true then R.ok none S1 else (evE P C lo env S1).bind toI).bind fun l S2 => (if isOmit hi = true then R.ok none S2 else (evE P C hi env S2).bind toI).bind fun h S3 =>
      match asList S3 x with
      | some xs => .ok (cut xs l h) S3
      | none => .bad
  | .cat a b, env, S => (evE P C a env S).bind fun x S1 => (evE P C b env S1).bind fun y S2 => match asLst S2 x, asLst S2 y with
      | some xs, some ys => if xs.length + ys.length ≤ sizeLine then .ok (xs ++ ys) S2 else .bad
      | _, _ => .bad
noncomputable def evEs (P : Prog) (C : Cl) : CEs → Env → Sto → R (List W)
  | .nil, _, S => .ok [] S
  | .cons e es, env, S => (evE P C e env S).bind fun w S1 => (evEs P C es env S1).bind fun ws S2 => .ok (w :: ws) S2
noncomputable def evAnd (P : Prog) (C : Cl) : CEs → Env → Sto → R W
  | .nil, _, _ => .bad
  | .cons e .nil, env, S => evE P C e env S
  | .cons e (.cons e' es), env, S => (evE P C e env S).bind fun x S1 => match x with
    | .bl true => evAnd P C (.cons e' es) env S1 | .bl false => .ok (.bl false) S1 | _ => .bad
noncomputable def evOr (P : Prog) (C : Cl) : CEs → Env → Sto → R W
  | .nil, _, _ => .bad
  | .cons e .nil, env, S => evE P C e env S
  | .cons e (.cons e' es), env, S => (evE P C e env S).bind fun x S1 => match x with
    | .bl true => .ok (.bl true) S1 | .bl false => evOr P C (.cons e' es) env S1 | _ => .bad
/-- a comprehension's tests (none or one) -/
noncomputable def evAll (P : Prog) (C : Cl) : CEs → Env → Sto → R Bool
  | .nil, _, S => .ok true S
  | .cons e .nil, env, S => (evE P C e env S).bind fun x S1 => match x with | .bl b => .ok b S1 | _ => .bad
  | .cons _ (.cons _ _), _, _ => .bad
noncomputable def evI (P : Prog) (C : Cl) : CI → Env → Sto → R Items
  | .seq a, env, S => (evE P C a env S).bind fun x S1 => match asSeq S1 x with | some xs => .ok (xs, seqG S1 x) S1 | none => .bad
  | .rng1 a, env, S => (evE P C a env S).bind fun x S1 => match x with
      | .int j => if -(2 ^ 62) ≤ j ∧ j < 2 ^ 62 then .ok (upTo 0 j.toNat, []) S1 else .bad
      | _ => .bad
  | .rng2 a b, env, S => (evE P C a env S).bind fun x S1 => (evE P C b env S1).bind fun y S2 => match x, y with
      | .int i, .int j => if -(2 ^ 62) ≤ i ∧ i < 2 ^ 62 ∧ -(2 ^ 62) ≤ j ∧ j < 2 ^ 62 then .ok (upTo i (j - i).toNat, []) S2 else .bad
      | _, _ => .bad
  | .enm a, env, S => (evE P C a env S).bind fun x S1 => match asSeq S1 x with | some xs => .ok (enumW 0 xs, seqG S1 x) S1 | none => .bad
  | .rev a, env, S => (evE P C a env S).bind fun x S1 => match asSeq S1 x with | some xs => .ok (xs.reverse, seqG S1 x) S1 | none => .bad
  | .zip a b, env, S => (evE P C a env S).bind fun x S1 => (evE P C b env S1).bind fun y S2 => match zipS S2 x y with
      | some (xs, ys) => .ok (zipW xs ys, seqG S2 x ++ seqG S2 y) S2
      | _ => .bad
end
mutual
noncomputable def exS (P : Prog) (C : Cl) : CS → Env → Sto → R Fl
  | .expr e, env, S => (evE P C e env S).bind fun _ S1 => .ok (.nx env) S1
  | .asg t e, env, S => (evE P C e env S).bind fun w S1 => match asgT t w env with | some env' => .ok (.nx env') S1 | none => .bad
  | .fld a f e, env, S => (evE P C e env S).bind fun v S1 => (evE P C a env S1).bind fun x S2 => match setFW P S2 x f v with | some S3 => .ok (.nx env) S3 | none => .bad
  | .sub a i e, env, S => (evE P C e env S).bind fun v S1 => (evE P C a env S1).bind fun x S2 => (evE P C i env S2).bind fun y S3 => match subW S3 x y v with | some S4 => .ok (.nx env) S4 | none => .bad
  | .aug i op e, env, S => match env[i]?.join with
      | some x => (evE P C e env S).bind fun y S1 => match op, x, y with
        | .add, .int a, .int b => .ok (.nx (env.set i (some (.int (a + b))))) S1
        | .sub, .int a, .int b => .ok (.nx (env.set i (some (.int (a - b))))) S1
        | _, _, _ => .bad
      | none => .bad
  | .augf a f op e, env, S => (evE P C a env S).bind fun x S1 => match getF S1 x f with
      | some (.int i) => (evE P C e env S1).bind fun y S2 => match op, y with
        | .add, .int j => if (asIns S1 x).map (·.1) = (asIns S2 x).map (·.1) then match setFW P S2 x f (.int (i + j)) with | some S3 => .ok (.nx env) S3 | none => .bad else .bad
        | _, _ => .bad
      | _ => .bad
  | .if_ c t e, env, S => (evE P C c env S).bind fun x S1 => match x with | .bl true => exSs P C t env S1 | .bl false => exSs P C e env S1 | _ => .bad
  | .wh c b, env, S => whR (evE P C c) (exSs P C b) env S
  | .for_ t it b, env, S => (evI P C it env S).bind fun p S1 => forL p.2 (fun x env' S2 => match asgT t x env' with | none => .bad | some env2 => exSs P C b env2 S2) p.1 env S1
  | .ret e, env, S => (evE P C e env S).bind fun w S1 => .ok (.ret w) S1
  | .retN, _, S => .ok (.ret .non) S
  | .pass, env, S => .ok (.nx env) S
  | .brk, env, S => .ok (.bk env) S
  | .cont, env, S => .ok (.ct env) S
  | .nev, _, _ => .bad
noncomputable def exSs (P : Prog) (C : Cl) : CSs → Env → Sto → R Fl
  | .nil, env, S => .ok (.nx env) S
  | .cons s ss, env, S => (exS P C s env S).bind fun fl S1 => match fl with
    | .nx e => exSs P C ss e S1
    | fl => .ok fl S1
end
noncomputable def finF (pure : Bool) (S : Sto) (w : W) (S' : Sto) : R W := if pure then exitR S w S' else .ok w S'
/-- a call of a function, at most k calls deep -/
noncomputable def run (P : Prog) : Nat → Nat → List W → Sto → R W
  | 0, _, _, _ => .bad
  | k + 1, f, ws, S => match P.fn f with
    | none => .bad
    | some d => if ws.length = d.np then
        (exSs P ⟨run P k, match k with | 0 => fun _ _ _ => .bad | j + 1 => run P j, false⟩ d.body (ws.map some ++ List.replicate (d.ns - d.np) none) S).bind fun fl S1 => match fl with
          | .ret w => finF d.pure S w S1
          | .nx _ => finF d.pure S .non S1
          | _ => .bad
      else .bad
end Eng

set_option Elab.async false
set_option linter.all false
/-! E2: how the store and the values stand in the abstract heap. -/
namespace Eng
open PySem L2

/-- where the classes and the functions of the program stand -/
structure Adr where
  C : Nat → Addr
  F : Nat → Addr
  fd : Nat → FuncData
  ps : Nat → List Str

section
variable (P : Prog) (T : Adr) (K : PySem.W.Frag)
def KTup (a : Addr) (xs : List V) : Prop := ∃ (o : Obj) (its : Array Value) (n : Nat), K.lookup a = some o ∧ o.cls = .type "tuple" ∧ o.data = .seq its n ∧ its.size ≤ sizeLine ∧ Vals xs its.toList
def KLst (a : Addr) (xs : List V) : Prop := ∃ (o : Obj) (its : Array Value) (n : Nat), K.lookup a = some o ∧ o.cls = .type "list" ∧ o.dict = none ∧ o.data = .seq its n ∧ its.size ≤ sizeLine ∧ Vals xs its.toList
mutual
def VR (ρ : List Addr) (H : Hp) : W → V → Prop
  | .non, v => v = .non
  | .bl b, v => v = .bl b
  | .int i, v => v = .int i
  | .str s, v => v = .str s
  | .tup ws, v => ∃ p vs, v = .ref p ∧ ((H p = some (.tup vs) ∧ p ∉ ρ) ∨ KTup K p vs) ∧ vs.length ≤ sizeLine ∧ VRs ρ H ws vs
  | .lst ws, v => ∃ p vs, v = .ref p ∧ H p = some (.lst vs) ∧ p ∉ ρ ∧ vs.length ≤ sizeLine ∧ VRs ρ H ws vs
  | .fro ws, v => ∃ p vs, v = .ref p ∧ (((∃ o, H p = some (.frz o (.lst vs))) ∧ p ∉ ρ) ∨ KLst K p vs) ∧ vs.length ≤ sizeLine ∧ VRs ρ H ws vs
  | .ins c ns ws, v => ∃ p dx fs, v = .ref p ∧ H p = some (.ins (T.C c) dx fs) ∧ p ∉ ρ ∧ (∀ f ∈ ns, NoAttr K (T.C c) (P.tag f)) ∧ Cls K (T.C c) ∧ fs.map (·.1) = ns.map P.tag ∧ VRs ρ H ws (fs.map (·.2))
  | .dct ks ws, v => ∃ p kvs, v = .ref p ∧ H p = some (.dK kvs) ∧ p ∉ ρ ∧ kvs.length ≤ sizeLine ∧ kvs.map (·.1) = ks ∧ VRs ρ H ws (kvs.map (·.2))
  | .ref l, v => ∃ a, ρ[l]? = some a ∧ v = .ref a
def VRs (ρ : List Addr) (H : Hp) : List W → List V → Prop
  | [], vs => vs = []
  | w :: ws, vs => ∃ v r, vs = v :: r ∧ VR ρ H w v ∧ VRs ρ H ws r
end
def OR (ρ : List Addr) (H : Hp) (a : Addr) : Ob → Prop
  | .lst ws => ∃ vs, H a = some (.lst vs) ∧ vs.length ≤ sizeLine ∧ VRs P T K ρ H ws vs
  | .ins c ns ws => ∃ dx fs, H a = some (.ins (T.C c) dx fs) ∧ (∀ f ∈ ns, NoAttr K (T.C c) (P.tag f)) ∧ Cls K (T.C c) ∧ fs.map (·.1) = ns.map P.tag ∧ VRs P T K ρ H ws (fs.map (·.2))
  | .dK ks ws => ∃ kvs, H a = some (.dK kvs) ∧ kvs.length ≤ sizeLine ∧ kvs.map (·.1) = ks ∧ VRs P T K ρ H ws (kvs.map (·.2))
structure SR (ρ : List Addr) (H : Hp) (S : Sto) : Prop where
  len : ρ.length = S.length
  nd : ρ.Nodup
  ob : ∀ (i : Nat) (a : Addr) (o : Ob), ρ[i]? = some a → S[i]? = some o → OR P T K ρ H a o
def ER (ρ : List Addr) (H : Hp) (env : Env) (σ : St) : Prop :=
  env.length = σ.length ∧ ∀ (i : Nat) (w : W), env[i]? = some (some w) → ∃ v, σ[i]? = some (some v) ∧ VR P T K ρ H w v
end
/-- the heap has grown: what the store does not own stands -/
structure Ext (ρ : List Addr) (H : Hp) (ρ' : List Addr) (H' : Hp) : Prop where
  pre : ∃ r, ρ' = ρ ++ r
  keep : ∀ p o, H p = some o → p ∉ ρ → H' p = some o ∧ p ∉ ρ'

section
variable {P : Prog} {T : Adr} {K : PySem.W.Frag} {ρ ρ1 ρ2 ρ' : List Addr} {H H1 H2 H' : Hp} {S S' : Sto}
theorem Ext.refl : Ext ρ H ρ H := ⟨⟨[], by simp⟩, fun _ _ h n => ⟨h, n⟩⟩
theorem Ext.trans (a : Ext ρ H ρ1 H1) (b : Ext ρ1 H1 ρ2 H2) : Ext ρ H ρ2 H2 := by
  obtain ⟨r1, e1⟩ := a.pre
  obtain ⟨r2, e2⟩ := b.pre
  refine ⟨⟨r1 ++ r2, by rw [e2, e1, List.append_assoc]⟩, fun p o h n => ?_⟩
  obtain ⟨h1, n1⟩ := a.keep p o h n
  exact b.keep p o h1 n1
theorem Ext.get (x : Ext ρ H ρ' H') {l : Nat} {a : Addr} (h : ρ[l]? = some a) : ρ'[l]? = some a := by
  obtain ⟨r, rfl⟩ := x.pre
  rw [List.getElem?_append_left (List.getElem?_eq_some_iff.mp h).1]; exact h
mutual
theorem VR.mono (x : Ext ρ H ρ' H') : ∀ {w : W} {v : V}, VR P T K ρ H w v → VR P T K ρ' H' w v
  | .non, v, h => by simpa [VR] using h
  | .bl _, v, h => by simpa [VR] using h
  | .int _, v, h => by simpa [VR] using h
  | .str _, v, h => by simpa [VR] using h
  | .tup ws, v, h => by
    simp only [VR] at h ⊢
    obtain ⟨p, vs, rfl, h1, hl, h2⟩ := h
    refine ⟨p, vs, rfl, ?_, hl, VRs.mono x h2⟩
    rcases h1 with ⟨h1, n⟩ | h1
    · exact .inl (x.keep p _ h1 n)
    · exact .inr h1
  | .lst ws, v, h => by
    simp only [VR] at h ⊢
    obtain ⟨p, vs, rfl, h1, n, hl, h2⟩ := h
    obtain ⟨h1', n'⟩ := x.keep p _ h1 n
    exact ⟨p, vs, rfl, h1', n', hl, VRs.mono x h2⟩
  | .fro ws, v, h => by
    simp only [VR] at h ⊢
    obtain ⟨p, vs, rfl, h1, hl, h2⟩ := h
    refine ⟨p, vs, rfl, ?_, hl, VRs.mono x h2⟩
    rcases h1 with ⟨⟨o, h1⟩, n⟩ | h1
    · obtain ⟨h1', n'⟩ := x.keep p _ h1 n
      exact .inl ⟨⟨o, h1'⟩, n'⟩
    · exact .inr h1
  | .ins c ns ws, v, h => by
    simp only [VR] at h ⊢
    obtain ⟨p, dx, fs, rfl, h1, n, hn, hc, he, h2⟩ := h
    obtain ⟨h1', n'⟩ := x.keep p _ h1 n
    exact ⟨p, dx, fs, rfl, h1', n', hn, hc, he, VRs.mono x h2⟩
  | .dct ks ws, v, h => by
    simp only [VR] at h ⊢
    obtain ⟨p, kvs, rfl, h1, n, hl, he, h2⟩ := h
    obtain ⟨h1', n'⟩ := x.keep p _ h1 n
    exact ⟨p, kvs, rfl, h1', n', hl, he, VRs.mono x h2⟩
  | .ref l, v, h => by
    simp only [VR] at h ⊢
    obtain ⟨a, h1, rfl⟩ := h
    exact ⟨a, x.get h1, rfl⟩
theorem VRs.mono (x : Ext ρ H ρ' H') : ∀ {ws : List W} {vs : List V}, VRs P T K ρ H ws vs → VRs P T K ρ' H' ws vs
  | [], vs, h => by simpa [VRs] using h
  | w :: ws, vs, h => by
    simp only [VRs] at h ⊢
    obtain ⟨v, r, rfl, h1, h2⟩ := h
    exact ⟨v, r, rfl, VR.mono x h1, VRs.mono x h2⟩
end
theorem ER.mono {env : Env} {σ : St} (x : Ext ρ H ρ' H') (h : ER P T K ρ H env σ) : ER P T K ρ' H' env σ :=
  ⟨h.1, fun i w e => let ⟨v, h1, h2⟩ := h.2 i w e; ⟨v, h1, h2.mono x⟩⟩
/-! ### lists of values -/
theorem VRs.nil_iff {vs : List V} : VRs P T K ρ H [] vs ↔ vs = [] := by simp [VRs]
theorem VRs.nil : VRs P T K ρ H [] [] := by simp [VRs]
theorem VRs.cons {w : W} {ws : List W} {v : V} {vs : List V} (h : VR P T K ρ H w v) (t : VRs P T K ρ H ws vs) : VRs P T K ρ H (w :: ws) (v :: vs) := by
  simp only [VRs]; exact ⟨v, vs, rfl, h, t⟩
theorem VRs.len : ∀ {ws : List W} {vs : List V}, VRs P T K ρ H ws vs → ws.length = vs.length
  | [], vs, h => by simp [VRs] at h; simp [h]
  | w :: ws, vs, h => by
    simp only [VRs] at h
    obtain ⟨v, r, rfl, _, h2⟩ := h
    simp [VRs.len h2]
theorem VRs.get : ∀ {ws : List W} {vs : List V} {i : Nat} {w : W}, VRs P T K ρ H ws vs → ws[i]? = some w → ∃ v, vs[i]? = some v ∧ VR P T K ρ H w v
  | [], vs, i, w, h, e => by simp at e
  | w :: ws, vs, 0, w', h, e => by
    simp only [VRs] at h
    obtain ⟨v, r, rfl, h1, _⟩ := h
    have e : w = w' := by simpa using e
    subst e
    exact ⟨v, by simp, h1⟩
  | w :: ws, vs, i + 1, w', h, e => by
    simp only [VRs] at h
    obtain ⟨v, r, rfl, _, h2⟩ := h
    obtain ⟨v', q1, q2⟩ := VRs.get (i := i) h2 (by simpa using e)
    exact ⟨v', by simpa using q1, q2⟩
theorem VRs.app : ∀ {ws xs : List W} {vs us : List V}, VRs P T K ρ H ws vs → VRs P T K ρ H xs us → VRs P T K ρ H (ws ++ xs) (vs ++ us)
  | [], xs, vs, us, h, t => by simp [VRs] at h; subst h; simpa using t
  | w :: ws, xs, vs, us, h, t => by
    simp only [VRs] at h
    obtain ⟨v, r, rfl, h1, h2⟩ := h
    exact VRs.cons h1 (VRs.app h2 t)
theorem VRs.app_inv : ∀ {ws xs : List W} {vs : List V}, VRs P T K ρ H (ws ++ xs) vs → ∃ us zs, vs = us ++ zs ∧ VRs P T K ρ H ws us ∧ VRs P T K ρ H xs zs
  | [], xs, vs, h => ⟨[], vs, rfl, VRs.nil, by simpa using h⟩
  | w :: ws, xs, vs, h => by
    rw [List.cons_append] at h
    simp only [VRs] at h
    obtain ⟨v, r, rfl, h1, h2⟩ := h
    obtain ⟨us, zs, rfl, q1, q2⟩ := VRs.app_inv h2
    exact ⟨v :: us, zs, rfl, VRs.cons h1 q1, q2⟩
theorem VRs.drop : ∀ {ws : List W} {vs : List V} (n : Nat), VRs P T K ρ H ws vs → VRs P T K ρ H (ws.drop n) (vs.drop n)
  | [], vs, n, h => by simp [VRs] at h; subst h; simpa using VRs.nil
  | w :: ws, vs, 0, h => by simpa using h
  | w :: ws, vs, n + 1, h => by
    simp only [VRs] at h
    obtain ⟨v, r, rfl, _, h2⟩ := h
    simpa using VRs.drop n h2
theorem VRs.take : ∀ {ws : List W} {vs : List V} (n : Nat), VRs P T K ρ H ws vs → VRs P T K ρ H (ws.take n) (vs.take n)
  | [], vs, n, h => by simp [VRs] at h; subst h; simpa using VRs.nil
  | w :: ws, vs, 0, h => by simpa using VRs.nil
  | w :: ws, vs, n + 1, h => by
    simp only [VRs] at h
    obtain ⟨v, r, rfl, h1, h2⟩ := h
    simpa using VRs.cons h1 (VRs.take n h2)
theorem VRs.rev : ∀ {ws : List W} {vs : List V}, VRs P T K ρ H ws vs → VRs P T K ρ H ws.reverse vs.reverse
  | [], vs, h => by simp [VRs] at h; subst h; simpa using VRs.nil
  | w :: ws, vs, h => by
    simp only [VRs] at h
    obtain ⟨v, r, rfl, h1, h2⟩ := h
    simpa using VRs.app (VRs.rev h2) (VRs.cons h1 VRs.nil)
theorem VRs.set {w : W} {v : V} (r : VR P T K ρ H w v) : ∀ {ws : List W} {vs : List V} (i : Nat), VRs P T K ρ H ws vs → VRs P T K ρ H (ws.set i w) (vs.set i v)
  | [], vs, i, h => by simp [VRs] at h; subst h; simpa using VRs.nil
  | x :: ws, vs, 0, h => by
    simp only [VRs] at h
    obtain ⟨y, q, rfl, h1, h2⟩ := h
    simpa using VRs.cons r h2
  | x :: ws, vs, i + 1, h => by
    simp only [VRs] at h
    obtain ⟨y, q, rfl, h1, h2⟩ := h
    simpa using VRs.cons h1 (VRs.set r i h2)
theorem VRs.eraseIdx : ∀ {ws : List W} {vs : List V} (i : Nat), VRs P T K ρ H ws vs → VRs P T K ρ H (ws.eraseIdx i) (vs.eraseIdx i)
  | [], vs, i, h => by simp [VRs] at h; subst h; simpa using VRs.nil
  | x :: ws, vs, 0, h => by
    simp only [VRs] at h
    obtain ⟨y, q, rfl, h1, h2⟩ := h
    simpa using h2
  | x :: ws, vs, i + 1, h => by
    simp only [VRs] at h
    obtain ⟨y, q, rfl, h1, h2⟩ := h
    simpa using VRs.cons h1 (VRs.eraseIdx i h2)
theorem VRs.one {w : W} {vs : List V} (h : VRs P T K ρ H [w] vs) : ∃ v, vs = [v] ∧ VR P T K ρ H w v := by
  simp only [VRs] at h
  obtain ⟨v, r, rfl, h1, rfl⟩ := h
  exact ⟨v, rfl, h1⟩
theorem VRs.two {w x : W} {vs : List V} (h : VRs P T K ρ H [w, x] vs) : ∃ v u, vs = [v, u] ∧ VR P T K ρ H w v ∧ VR P T K ρ H x u := by
  simp only [VRs] at h
  obtain ⟨v, r, rfl, h1, u, r', rfl, h2, rfl⟩ := h
  exact ⟨v, u, rfl, h1, h2⟩
/-! ### readings of values -/
theorem VR.seq {w : W} {ws : List W} {v : V} (h : VR P T K ρ H w v) (s : SR P T K ρ H S) (e : asSeq S w = some ws) :
    ∃ p vs, v = .ref p ∧ (SqL K H p vs ∨ SqT K H p vs) ∧ vs.length ≤ sizeLine ∧ VRs P T K ρ H ws vs := by
  cases w with
  | tup xs =>
    simp only [asSeq, Option.some.injEq] at e; subst e
    simp only [VR] at h
    obtain ⟨p, vs, rfl, h1, hl, h2⟩ := h
    refine ⟨p, vs, rfl, .inr ?_, hl, h2⟩
    rcases h1 with ⟨h1, _⟩ | h1
    · exact .inl (.inl h1)
    · exact .inr h1
  | lst xs =>
    simp only [asSeq, asList, Option.some.injEq] at e; subst e
    simp only [VR] at h
    obtain ⟨p, vs, rfl, h1, _, hl, h2⟩ := h
    exact ⟨p, vs, rfl, .inl (.inl (.inl h1)), hl, h2⟩
  | fro xs =>
    simp only [asSeq, asList, Option.some.injEq] at e; subst e
    simp only [VR] at h
    obtain ⟨p, vs, rfl, h1, hl, h2⟩ := h
    refine ⟨p, vs, rfl, .inl ?_, hl, h2⟩
    rcases h1 with ⟨h1, _⟩ | h1
    · exact .inl (.inr h1)
    · exact .inr h1
  | ref l =>
    simp only [asSeq, asList] at e
    simp only [VR] at h
    obtain ⟨a, h1, rfl⟩ := h
    cases q : S[l]? with
    | none => rw [q] at e; cases e
    | some o =>
      rw [q] at e
      cases o with
      | lst xs =>
        cases e
        obtain ⟨vs, g1, g2, g3⟩ := s.ob l a _ h1 q
        exact ⟨a, vs, rfl, .inl (.inl (.inl g1)), g2, g3⟩
      | ins _ _ _ => cases e
      | dK _ _ => cases e
  | non => simp [asSeq, asList] at e
  | bl _ => simp [asSeq, asList] at e
  | int _ => simp [asSeq, asList] at e
  | str _ => simp [asSeq, asList] at e
  | ins _ _ _ => simp [asSeq, asList] at e
  | dct _ _ => simp [asSeq, asList] at e
theorem VR.list {w : W} {ws : List W} {v : V} (h : VR P T K ρ H w v) (s : SR P T K ρ H S) (e : asList S w = some ws) :
    ∃ p vs, v = .ref p ∧ SqL K H p vs ∧ vs.length ≤ sizeLine ∧ VRs P T K ρ H ws vs := by
  cases w with
  | tup xs => simp [asList] at e
  | lst xs =>
    simp only [asList, Option.some.injEq] at e; subst e
    simp only [VR] at h
    obtain ⟨p, vs, rfl, h1, _, hl, h2⟩ := h
    exact ⟨p, vs, rfl, .inl (.inl h1), hl, h2⟩
  | fro xs =>
    simp only [asList, Option.some.injEq] at e; subst e
    simp only [VR] at h
    obtain ⟨p, vs, rfl, h1, hl, h2⟩ := h
    refine ⟨p, vs, rfl, ?_, hl, h2⟩
    rcases h1 with ⟨h1, _⟩ | h1
    · exact .inl (.inr h1)
    · exact .inr h1
  | ref l =>
    simp only [asList] at e
    simp only [VR] at h
    obtain ⟨a, h1, rfl⟩ := h
    cases q : S[l]? with
    | none => rw [q] at e; cases e
    | some o =>
      rw [q] at e
      cases o with
      | lst xs =>
        cases e
        obtain ⟨vs, g1, g2, g3⟩ := s.ob l a _ h1 q
        exact ⟨a, vs, rfl, .inl (.inl g1), g2, g3⟩
      | ins _ _ _ => cases e
      | dK _ _ => cases e
  | non => simp [asList] at e
  | bl _ => simp [asList] at e
  | int _ => simp [asList] at e
  | str _ => simp [asList] at e
  | ins _ _ _ => simp [asList] at e
  | dct _ _ => simp [asList] at e
theorem VR.dict {w : W} {ks : List Key} {ws : List W} {v : V} (h : VR P T K ρ H w v) (s : SR P T K ρ H S) (e : asDict S w = some (ks, ws)) :
    ∃ p kvs, v = .ref p ∧ H p = some (.dK kvs) ∧ kvs.length ≤ sizeLine ∧ kvs.map (·.1) = ks ∧ VRs P T K ρ H ws (kvs.map (·.2)) := by
  cases w with
  | dct ks' ws' =>
    simp only [asDict, Option.some.injEq, Prod.mk.injEq] at e
    obtain ⟨rfl, rfl⟩ := e
    simp only [VR] at h
    obtain ⟨p, kvs, rfl, h1, _, hl, he, h2⟩ := h
    exact ⟨p, kvs, rfl, h1, hl, he, h2⟩
  | ref l =>
    simp only [asDict] at e
    simp only [VR] at h
    obtain ⟨a, h1, rfl⟩ := h
    cases q : S[l]? with
    | none => rw [q] at e; cases e
    | some o =>
      rw [q] at e
      cases o with
      | dK ks' ws' =>
        simp only [Option.some.injEq, Prod.mk.injEq] at e
        obtain ⟨rfl, rfl⟩ := e
        obtain ⟨kvs, g1, g2, g3, g4⟩ := s.ob l a _ h1 q
        exact ⟨a, kvs, rfl, g1, g2, g3, g4⟩
      | ins _ _ _ => cases e
      | lst _ => cases e
  | non => simp [asDict] at e
  | bl _ => simp [asDict] at e
  | int _ => simp [asDict] at e
  | str _ => simp [asDict] at e
  | tup _ => simp [asDict] at e
  | lst _ => simp [asDict] at e
  | fro _ => simp [asDict] at e
  | ins _ _ _ => simp [asDict] at e
theorem VR.inst {w : W} {c : Nat} {ns : List Nat} {ws : List W} {v : V} (h : VR P T K ρ H w v) (s : SR P T K ρ H S) (e : asIns S w = some (c, ns, ws)) :
    ∃ p dx fs, v = .ref p ∧ H p = some (.ins (T.C c) dx fs) ∧ (∀ f ∈ ns, NoAttr K (T.C c) (P.tag f)) ∧ Cls K (T.C c) ∧ fs.map (·.1) = ns.map P.tag ∧ VRs P T K ρ H ws (fs.map (·.2)) := by
  cases w with
  | ins c' ns' ws' =>
    simp only [asIns, Option.some.injEq, Prod.mk.injEq] at e
    obtain ⟨rfl, rfl, rfl⟩ := e
    simp only [VR] at h
    obtain ⟨p, dx, fs, rfl, h1, _, hn, hc, he, h2⟩ := h
    exact ⟨p, dx, fs, rfl, h1, hn, hc, he, h2⟩
  | ref l =>
    simp only [asIns] at e
    simp only [VR] at h
    obtain ⟨a, h1, rfl⟩ := h
    cases q : S[l]? with
    | none => rw [q] at e; cases e
    | some o =>
      rw [q] at e
      cases o with
      | ins c' ns' ws' =>
        simp only [Option.some.injEq, Prod.mk.injEq] at e
        obtain ⟨rfl, rfl, rfl⟩ := e
        obtain ⟨dx, fs, g1, g2, g3, g4, g5⟩ := s.ob l a _ h1 q
        exact ⟨a, dx, fs, rfl, g1, g2, g3, g4, g5⟩
      | dK _ _ => cases e
      | lst _ => cases e
  | non => simp [asIns] at e
  | bl _ => simp [asIns] at e
  | int _ => simp [asIns] at e
  | str _ => simp [asIns] at e
  | tup _ => simp [asIns] at e
  | lst _ => simp [asIns] at e
  | fro _ => simp [asIns] at e
  | dct _ _ => simp [asIns] at e
/-! ### the store changed -/
theorem SR.lt (s : SR P T K ρ H S) {l : Nat} {a : Addr} (h : ρ[l]? = some a) : ∃ o, S[l]? = some o := by
  have := (List.getElem?_eq_some_iff.mp h).1
  rw [s.len] at this
  exact ⟨S[l], by simp [this]⟩
theorem SR.at_ (s : SR P T K ρ H S) {l : Nat} {o : Ob} (h : S[l]? = some o) : ∃ a, ρ[l]? = some a := by
  have := (List.getElem?_eq_some_iff.mp h).1
  rw [← s.len] at this
  exact ⟨ρ[l], by simp [this]⟩
theorem SR.here (s : SR P T K ρ H S) {l : Nat} {a : Addr} (h : ρ[l]? = some a) : ∃ o, H a = some o := by
  obtain ⟨o, e⟩ := s.lt h
  have q := s.ob l a o h e
  cases o with
  | lst _ => obtain ⟨_, q, _⟩ := q; exact ⟨_, q⟩
  | ins _ _ _ => obtain ⟨_, _, q, _⟩ := q; exact ⟨_, q⟩
  | dK _ _ => obtain ⟨_, q, _⟩ := q; exact ⟨_, q⟩
theorem SR.fresh (s : SR P T K ρ H S) {p : Addr} (h : H p = none) : p ∉ ρ := fun hm => by
  obtain ⟨i, e⟩ := List.mem_iff_getElem?.mp hm
  obtain ⟨o, q⟩ := s.here e
  rw [h] at q; cases q
/-- a new object that the store does not own -/
theorem Ext.fresh {p : Addr} {o : HO} (s : SR P T K ρ H S) (h : H p = none) : Ext ρ H ρ (upd H p o) :=
  ⟨⟨[], by simp⟩, fun q u e n => ⟨by rw [upd_ne (ne_of_none e h)]; exact e, n⟩⟩
theorem OR.mono {a : Addr} {o : Ob} (x : Ext ρ H ρ' H') (e : H' a = H a) (h : OR P T K ρ H a o) : OR P T K ρ' H' a o := by
  cases o with
  | lst _ => obtain ⟨vs, g1, g2, g3⟩ := h; exact ⟨vs, e.trans g1, g2, g3.mono x⟩
  | ins _ _ _ => obtain ⟨dx, fs, g1, g2, g3, g4, g5⟩ := h; exact ⟨dx, fs, e.trans g1, g2, g3, g4, g5.mono x⟩
  | dK _ _ => obtain ⟨vs, g1, g2, g3, g4⟩ := h; exact ⟨vs, e.trans g1, g2, g3, g4.mono x⟩
theorem SR.keep (s : SR P T K ρ H S) (x : Ext ρ H ρ H') (e : ∀ a ∈ ρ, H' a = H a) : SR P T K ρ H' S :=
  ⟨s.len, s.nd, fun i a o h1 h2 => (s.ob i a o h1 h2).mono x (e a (List.mem_of_getElem? h1))⟩
theorem SR.new {p : Addr} {o : HO} (s : SR P T K ρ H S) (h : H p = none) : SR P T K ρ (upd H p o) S :=
  s.keep (Ext.fresh s h) fun a ha => upd_ne fun q => s.fresh h (q ▸ ha)
theorem nodup_ix' {N : List Addr} (hN : N.Nodup) {i j : Nat} {x : Addr} (a : N[i]? = some x) (b : N[j]? = some x) : i = j := by
  obtain ⟨h1, e1⟩ := List.getElem?_eq_some_iff.mp a
  obtain ⟨h2, e2⟩ := List.getElem?_eq_some_iff.mp b
  exact (List.getElem_inj hN).mp (e1.trans e2.symm)
/-- an object of the store changed -/
theorem Ext.put {l : Nat} {a : Addr} {o : HO} (h : ρ[l]? = some a) : Ext ρ H ρ (upd H a o) :=
  ⟨⟨[], by simp⟩, fun q u e n => ⟨by rw [upd_ne (fun z => n (by rw [z]; exact List.mem_of_getElem? h))]; exact e, n⟩⟩
theorem SR.put {l : Nat} {a : Addr} {o : HO} {ob : Ob} (s : SR P T K ρ H S) (h : ρ[l]? = some a) (q : OR P T K ρ (upd H a o) a ob) : SR P T K ρ (upd H a o) (S.set l ob) := by
  have x : Ext ρ H ρ (upd H a o) := Ext.put h
  refine ⟨by rw [List.length_set]; exact s.len, s.nd, fun i b u h1 h2 => ?_⟩
  by_cases e : i = l
  · subst e
    rw [h] at h1; cases h1
    have hl : i < S.length := by rw [← s.len]; exact (List.getElem?_eq_some_iff.mp h).1
    rw [List.getElem?_set_self hl] at h2
    cases h2
    exact q
  · rw [List.getElem?_set_ne (Ne.symm e)] at h2
    refine (s.ob i b u h1 h2).mono x (upd_ne fun z => e ?_)
    subst z
    exact nodup_ix' s.nd h1 h
/-- an object more -/
theorem Ext.push {p : Addr} (hk : ∀ q o, H q = some o → H' q = some o) (h : H p = none) : Ext ρ H (ρ ++ [p]) H' :=
  ⟨⟨[p], rfl⟩, fun q u e n => ⟨hk q u e, by
    rw [List.mem_append, not_or]
    exact ⟨n, fun z => by rw [List.mem_singleton] at z; subst z; rw [h] at e; cases e⟩⟩⟩
theorem SR.push {p : Addr} {ob : Ob} (s : SR P T K ρ H S) (hk : ∀ q o, H q = some o → H' q = some o) (h : H p = none) (q : OR P T K (ρ ++ [p]) H' p ob) : SR P T K (ρ ++ [p]) H' (S ++ [ob]) := by
  have x : Ext ρ H (ρ ++ [p]) H' := Ext.push hk h
  refine ⟨by simp [s.len], ?_, fun i b u h1 h2 => ?_⟩
  · rw [List.nodup_append]
    refine ⟨s.nd, by simp, fun a ha b hb => ?_⟩
    rw [List.mem_singleton] at hb
    subst hb
    exact fun z => s.fresh h (z ▸ ha)
  · by_cases e : i < S.length
    · rw [List.getElem?_append_left (by rw [s.len]; exact e)] at h1
      rw [List.getElem?_append_left e] at h2
      obtain ⟨o, ho⟩ := s.here h1
      exact (s.ob i b u h1 h2).mono x ((hk b o ho).trans ho.symm)
    · have ei : i = S.length := by
        have := (List.getElem?_eq_some_iff.mp h2).1
        simp at this; omega
      subst ei
      rw [← s.len, List.getElem?_append_right (Nat.le_refl _)] at h1
      rw [List.getElem?_append_right (Nat.le_refl _)] at h2
      simp at h1 h2
      subst h1; subst h2
      exact q
end
end Eng

set_option Elab.async false
set_option linter.all false
/-! E3: the end of a region; what is wanted behind a computation. -/
namespace Eng
open PySem L2
section
variable {P : Prog} {T : Adr} {K : PySem.W.Frag} {ρ ρ1 ρ2 ρ' r : List Addr} {H H1 H2 H' : Hp} {S S' S1 : Sto}
mutual
theorem VR.shrink : ∀ {w : W} {v : V}, VR P T K (ρ ++ r) H w v → below ρ.length w = true → VR P T K ρ H w v
  | .non, v, h, _ => by simpa [VR] using h
  | .bl _, v, h, _ => by simpa [VR] using h
  | .int _, v, h, _ => by simpa [VR] using h
  | .str _, v, h, _ => by simpa [VR] using h
  | .tup ws, v, h, b => by
    simp only [VR] at h ⊢
    obtain ⟨p, vs, rfl, h1, hl, h2⟩ := h
    refine ⟨p, vs, rfl, ?_, hl, VRs.shrink h2 (by simpa [below] using b)⟩
    rcases h1 with ⟨h1, n⟩ | h1
    · exact .inl ⟨h1, fun z => n (List.mem_append_left _ z)⟩
    · exact .inr h1
  | .lst ws, v, h, b => by
    simp only [VR] at h ⊢
    obtain ⟨p, vs, rfl, h1, n, hl, h2⟩ := h
    exact ⟨p, vs, rfl, h1, fun z => n (List.mem_append_left _ z), hl, VRs.shrink h2 (by simpa [below] using b)⟩
  | .fro ws, v, h, b => by
    simp only [VR] at h ⊢
    obtain ⟨p, vs, rfl, h1, hl, h2⟩ := h
    refine ⟨p, vs, rfl, ?_, hl, VRs.shrink h2 (by simpa [below] using b)⟩
    rcases h1 with ⟨h1, n⟩ | h1
    · exact .inl ⟨h1, fun z => n (List.mem_append_left _ z)⟩
    · exact .inr h1
  | .ins c ns ws, v, h, b => by
    simp only [VR] at h ⊢
    obtain ⟨p, dx, fs, rfl, h1, n, hn, hc, he, h2⟩ := h
    exact ⟨p, dx, fs, rfl, h1, fun z => n (List.mem_append_left _ z), hn, hc, he, VRs.shrink h2 (by simpa [below] using b)⟩
  | .dct ks ws, v, h, b => by
    simp only [VR] at h ⊢
    obtain ⟨p, kvs, rfl, h1, n, hl, he, h2⟩ := h
    exact ⟨p, kvs, rfl, h1, fun z => n (List.mem_append_left _ z), hl, he, VRs.shrink h2 (by simpa [below] using b)⟩
  | .ref l, v, h, b => by
    simp only [VR] at h ⊢
    obtain ⟨a, h1, rfl⟩ := h
    have hl : l < ρ.length := by simpa [below] using b
    exact ⟨a, by rw [List.getElem?_append_left hl] at h1; exact h1, rfl⟩
theorem VRs.shrink : ∀ {ws : List W} {vs : List V}, VRs P T K (ρ ++ r) H ws vs → belows ρ.length ws = true → VRs P T K ρ H ws vs
  | [], vs, h, _ => by simpa [VRs] using h
  | w :: ws, vs, h, b => by
    simp only [VRs] at h ⊢
    simp only [belows, Bool.and_eq_true] at b
    obtain ⟨v, r, rfl, h1, h2⟩ := h
    exact ⟨v, r, rfl, VR.shrink h1 b.1, VRs.shrink h2 b.2⟩
end
mutual
theorem VR.below : ∀ {w : W} {v : V}, VR P T K ρ H w v → Eng.below ρ.length w = true
  | .non, v, h => by simp [Eng.below]
  | .bl _, v, h => by simp [Eng.below]
  | .int _, v, h => by simp [Eng.below]
  | .str _, v, h => by simp [Eng.below]
  | .tup ws, v, h => by
    simp only [VR] at h
    obtain ⟨p, vs, rfl, h1, hl, h2⟩ := h
    simpa [Eng.below] using VRs.below h2
  | .lst ws, v, h => by
    simp only [VR] at h
    obtain ⟨p, vs, rfl, h1, n, hl, h2⟩ := h
    simpa [Eng.below] using VRs.below h2
  | .fro ws, v, h => by
    simp only [VR] at h
    obtain ⟨p, vs, rfl, h1, hl, h2⟩ := h
    simpa [Eng.below] using VRs.below h2
  | .ins c ns ws, v, h => by
    simp only [VR] at h
    obtain ⟨p, dx, fs, rfl, h1, n, hn, hc, he, h2⟩ := h
    simpa [Eng.below] using VRs.below h2
  | .dct ks ws, v, h => by
    simp only [VR] at h
    obtain ⟨p, kvs, rfl, h1, n, hl, he, h2⟩ := h
    simpa [Eng.below] using VRs.below h2
  | .ref l, v, h => by
    simp only [VR] at h
    obtain ⟨a, h1, rfl⟩ := h
    simpa [Eng.below] using (List.getElem?_eq_some_iff.mp h1).1
theorem VRs.below : ∀ {ws : List W} {vs : List V}, VRs P T K ρ H ws vs → belows ρ.length ws = true
  | [], vs, h => by simp [belows]
  | w :: ws, vs, h => by
    simp only [VRs] at h
    obtain ⟨v, r, rfl, h1, h2⟩ := h
    simp [belows, VR.below h1, VRs.below h2]
end
theorem OR.shrink {a : Addr} {o : Ob} (h : OR P T K (ρ ++ r) H a o) (b : belowO ρ.length o = true) : OR P T K ρ H a o := by
  cases o with
  | lst _ => obtain ⟨vs, g1, g2, g3⟩ := h; exact ⟨vs, g1, g2, g3.shrink b⟩
  | ins _ _ _ => obtain ⟨dx, fs, g1, g2, g3, g4, g5⟩ := h; exact ⟨dx, fs, g1, g2, g3, g4, g5.shrink b⟩
  | dK _ _ => obtain ⟨vs, g1, g2, g3, g4⟩ := h; exact ⟨vs, g1, g2, g3, g4.shrink b⟩
theorem OR.below {a : Addr} {o : Ob} (h : OR P T K ρ H a o) : belowO ρ.length o = true := by
  cases o with
  | lst _ => obtain ⟨vs, g1, g2, g3⟩ := h; exact g3.below
  | ins _ _ _ => obtain ⟨dx, fs, g1, g2, g3, g4, g5⟩ := h; exact g5.below
  | dK _ _ => obtain ⟨vs, g1, g2, g3, g4⟩ := h; exact g4.below
/-- what a dereference gives stands without the region -/
def DOk (P : Prog) (T : Adr) (K : PySem.W.Frag) (ρ r : List Addr) (H : Hp) (d : Nat → Option W) : Prop :=
  ∀ (l : Nat) (w' : W) (v : V), ρ.length ≤ l → VR P T K (ρ ++ r) H (.ref l) v → d l = some w' → VR P T K ρ H w' v
mutual
theorem res_rep {d : Nat → Option W} (hd : DOk P T K ρ r H d) : ∀ {w w' : W} {v : V}, VR P T K (ρ ++ r) H w v → resW ρ.length d w = some w' → VR P T K ρ H w' v
  | .non, w', v, h, e => by simp only [resW, Option.some.injEq] at e; subst e; simpa [VR] using h
  | .bl _, w', v, h, e => by simp only [resW, Option.some.injEq] at e; subst e; simpa [VR] using h
  | .int _, w', v, h, e => by simp only [resW, Option.some.injEq] at e; subst e; simpa [VR] using h
  | .str _, w', v, h, e => by simp only [resW, Option.some.injEq] at e; subst e; simpa [VR] using h
  | .tup ws, w', v, h, e => by
    simp only [resW, Option.map_eq_some_iff] at e
    obtain ⟨ys, e, rfl⟩ := e
    simp only [VR] at h ⊢
    obtain ⟨p, vs, rfl, h1, hl, h2⟩ := h
    refine ⟨p, vs, rfl, ?_, hl, res_reps hd h2 e⟩
    rcases h1 with ⟨h1, n⟩ | h1
    · exact .inl ⟨h1, fun z => n (List.mem_append_left _ z)⟩
    · exact .inr h1
  | .lst ws, w', v, h, e => by
    simp only [resW, Option.map_eq_some_iff] at e
    obtain ⟨ys, e, rfl⟩ := e
    simp only [VR] at h ⊢
    obtain ⟨p, vs, rfl, h1, n, hl, h2⟩ := h
    exact ⟨p, vs, rfl, h1, fun z => n (List.mem_append_left _ z), hl, res_reps hd h2 e⟩
  | .fro ws, w', v, h, e => by
    simp only [resW, Option.map_eq_some_iff] at e
    obtain ⟨ys, e, rfl⟩ := e
    simp only [VR] at h ⊢
    obtain ⟨p, vs, rfl, h1, hl, h2⟩ := h
    refine ⟨p, vs, rfl, ?_, hl, res_reps hd h2 e⟩
    rcases h1 with ⟨h1, n⟩ | h1
    · exact .inl ⟨h1, fun z => n (List.mem_append_left _ z)⟩
    · exact .inr h1
  | .ins c ns ws, w', v, h, e => by
    simp only [resW, Option.map_eq_some_iff] at e
    obtain ⟨ys, e, rfl⟩ := e
    simp only [VR] at h ⊢
    obtain ⟨p, dx, fs, rfl, h1, n, hn, hc, he, h2⟩ := h
    exact ⟨p, dx, fs, rfl, h1, fun z => n (List.mem_append_left _ z), hn, hc, he, res_reps hd h2 e⟩
  | .dct ks ws, w', v, h, e => by
    simp only [resW, Option.map_eq_some_iff] at e
    obtain ⟨ys, e, rfl⟩ := e
    simp only [VR] at h ⊢
    obtain ⟨p, kvs, rfl, h1, n, hl, he, h2⟩ := h
    exact ⟨p, kvs, rfl, h1, fun z => n (List.mem_append_left _ z), hl, he, res_reps hd h2 e⟩
  | .ref l, w', v, h, e => by
    simp only [resW] at e
    by_cases hl : l < ρ.length
    · rw [if_pos hl] at e
      cases e
      exact h.shrink (by simpa [below] using hl)
    · rw [if_neg hl] at e
      exact hd l w' v (by omega) h e
theorem res_reps {d : Nat → Option W} (hd : DOk P T K ρ r H d) : ∀ {ws ws' : List W} {vs : List V}, VRs P T K (ρ ++ r) H ws vs → resWs ρ.length d ws = some ws' → VRs P T K ρ H ws' vs
  | [], ws', vs, h, e => by simp only [resWs, Option.some.injEq] at e; subst e; simpa [VRs] using h
  | w :: ws, ws', vs, h, e => by
    simp only [VRs] at h
    obtain ⟨v, t, rfl, h1, h2⟩ := h
    simp only [resWs] at e
    cases e1 : resW ρ.length d w with
    | none => rw [e1] at e; simp at e
    | some y =>
      cases e2 : resWs ρ.length d ws with
      | none => rw [e1, e2] at e; simp at e
      | some ys =>
        rw [e1, e2] at e
        simp only [Option.some.injEq] at e
        subst e
        exact VRs.cons (res_rep hd h1 e1) (res_reps hd h2 e2)
end
theorem deref_ok (s : SR P T K (ρ ++ r) H S') : ∀ f : Nat, DOk P T K ρ r H (deref ρ.length (S'.drop ρ.length) f)
  | 0 => fun l w' v _ _ e => by simp [deref] at e
  | f + 1 => fun l w' v hl h e => by
    have ih := deref_ok s f
    simp only [VR] at h
    obtain ⟨a, h1, rfl⟩ := h
    have ha : a ∉ ρ := fun z => by
      obtain ⟨i, hi⟩ := List.mem_iff_getElem?.mp z
      have hi2 := (List.getElem?_eq_some_iff.mp hi).1
      have q : (ρ ++ r)[i]? = some a := by rw [List.getElem?_append_left hi2]; exact hi
      have := nodup_ix' s.nd q h1
      omega
    simp only [deref, List.getElem?_drop] at e
    rw [show ρ.length + (l - ρ.length) = l by omega] at e
    cases q : S'[l]? with
    | none => rw [q] at e; simp at e
    | some o =>
      rw [q] at e
      have g := s.ob l a o h1 q
      cases o with
      | lst xs =>
        simp only [Option.map_eq_some_iff] at e
        obtain ⟨ys, e, rfl⟩ := e
        obtain ⟨vs, g1, g2, g3⟩ := g
        simp only [VR]
        exact ⟨a, vs, rfl, g1, ha, g2, res_reps ih g3 e⟩
      | ins c ns ws =>
        simp only [Option.map_eq_some_iff] at e
        obtain ⟨ys, e, rfl⟩ := e
        obtain ⟨dx, fs, g1, g2, g3, g4, g5⟩ := g
        simp only [VR]
        exact ⟨a, dx, fs, rfl, g1, ha, g2, g3, g4, res_reps ih g5 e⟩
      | dK ks ws =>
        simp only [Option.map_eq_some_iff] at e
        obtain ⟨ys, e, rfl⟩ := e
        obtain ⟨kvs, g1, g2, g3, g4⟩ := g
        simp only [VR]
        exact ⟨a, kvs, rfl, g1, ha, g2, g3, res_reps ih g4 e⟩
/-- the end of a region -/
theorem exit_ok {w w' : W} {v : V} (s : SR P T K ρ H S) (x : Ext ρ H ρ' H') (s' : SR P T K ρ' H' S') (h : VR P T K ρ' H' w v) (e : exitR S w S' = .ok w' S1) :
    Ext ρ H ρ H' ∧ SR P T K ρ H' S1 ∧ VR P T K ρ H' w' v := by
  classical
  unfold exitR at e
  split at e
  · rename_i c
    obtain ⟨c1, c2⟩ := c
    split at e
    · rename_i w2 e2
      cases e
      obtain ⟨r, rfl⟩ := x.pre
      rw [← s.len] at e2
      refine ⟨⟨⟨[], by simp⟩, fun p o h1 h2 => ⟨(x.keep p o h1 h2).1, h2⟩⟩, ⟨?_, s.nd, fun i a o h1 h2 => ?_⟩, res_rep (deref_ok s' 8) h e2⟩
      · rw [List.length_take, s.len]; omega
      · have hi : i < ρ.length := (List.getElem?_eq_some_iff.mp h1).1
        have h1' : (ρ ++ r)[i]? = some a := by rw [List.getElem?_append_left hi]; exact h1
        have h2' : S'[i]? = some o := by
          rw [List.getElem?_take] at h2
          split at h2
          · exact h2
          · cases h2
        have g := s'.ob i a o h1' h2'
        rcases c2 i o h2 with z | z
        · refine g.shrink ?_
          exact (s.ob i a o h1 z).below
        · rw [← s.len] at z
          exact g.shrink z
    · cases e
  · cases e
end

/-! ### what is wanted behind a computation -/
section
variable {α : Type} (P : Prog) (T : Adr) (K : PySem.W.Frag)
/-- behind a computation of a value: wherever it stands, Q -/
def Post (ρ : List Addr) (H : Hp) (r : R W) (Q : W → Sto → List Addr → Hp → V → Prop) : Prop :=
  match r with
  | .ok w S' => ∀ ρ' H' v, Ext ρ H ρ' H' → SR P T K ρ' H' S' → VR P T K ρ' H' w v → Q w S' ρ' H' v
  | _ => False
def PostL (ρ : List Addr) (H : Hp) (r : R (List W)) (Q : List W → Sto → List Addr → Hp → List V → Prop) : Prop :=
  match r with
  | .ok ws S' => ∀ ρ' H' vs, Ext ρ H ρ' H' → SR P T K ρ' H' S' → VRs P T K ρ' H' ws vs → Q ws S' ρ' H' vs
  | _ => False
/-- .. of something else -/
def PostA (ρ : List Addr) (H : Hp) (r : R α) (Q : α → Sto → List Addr → Hp → Prop) : Prop :=
  match r with
  | .ok w S' => ∀ ρ' H', Ext ρ H ρ' H' → SR P T K ρ' H' S' → Q w S' ρ' H'
  | _ => False
end
section
variable {α β : Type} {P : Prog} {T : Adr} {K : PySem.W.Frag} {ρ : List Addr} {H : Hp}
theorem Post.bind {r : R W} {f : W → Sto → R W} {Q : W → Sto → List Addr → Hp → V → Prop} (h : Post P T K ρ H (r.bind f) Q) : Post P T K ρ H r fun w S1 ρ1 H1 _ => Post P T K ρ1 H1 (f w S1) Q := by
  cases r with
  | ok w S1 =>
    intro ρ1 H1 v x s _
    simp only [R.bind] at h
    unfold Post at h ⊢
    split at h
    · rename_i w2 S2 e
      exact fun ρ2 H2 v2 x2 s2 q2 => h ρ2 H2 v2 (x.trans x2) s2 q2
    · exact h.elim
  | exc _ _ _ => exact h.elim
  | bad => exact h.elim
theorem Post.bindA {r : R W} {f : W → Sto → R β} {Q : β → Sto → List Addr → Hp → Prop} (h : PostA P T K ρ H (r.bind f) Q) : Post P T K ρ H r fun w S1 ρ1 H1 _ => PostA P T K ρ1 H1 (f w S1) Q := by
  cases r with
  | ok w S1 =>
    intro ρ1 H1 v x s _
    simp only [R.bind] at h
    unfold PostA at h ⊢
    split at h
    · rename_i w2 S2 e
      exact fun ρ2 H2 x2 s2 => h ρ2 H2 (x.trans x2) s2
    · exact h.elim
  | exc _ _ _ => exact h.elim
  | bad => exact h.elim
theorem Post.bindL {r : R W} {f : W → Sto → R (List W)} {Q : List W → Sto → List Addr → Hp → List V → Prop} (h : PostL P T K ρ H (r.bind f) Q) : Post P T K ρ H r fun w S1 ρ1 H1 _ => PostL P T K ρ1 H1 (f w S1) Q := by
  cases r with
  | ok w S1 =>
    intro ρ1 H1 v x s _
    simp only [R.bind] at h
    unfold PostL at h ⊢
    split at h
    · rename_i w2 S2 e
      exact fun ρ2 H2 v2 x2 s2 q2 => h ρ2 H2 v2 (x.trans x2) s2 q2
    · exact h.elim
  | exc _ _ _ => exact h.elim
  | bad => exact h.elim
theorem PostL.bind {r : R (List W)} {f : List W → Sto → R W} {Q : W → Sto → List Addr → Hp → V → Prop} (h : Post P T K ρ H (r.bind f) Q) : PostL P T K ρ H r fun w S1 ρ1 H1 _ => Post P T K ρ1 H1 (f w S1) Q := by
  cases r with
  | ok w S1 =>
    intro ρ1 H1 v x s _
    simp only [R.bind] at h
    unfold Post at h ⊢
    split at h
    · rename_i w2 S2 e
      exact fun ρ2 H2 v2 x2 s2 q2 => h ρ2 H2 v2 (x.trans x2) s2 q2
    · exact h.elim
  | exc _ _ _ => exact h.elim
  | bad => exact h.elim
theorem PostL.bindL {r : R (List W)} {f : List W → Sto → R (List W)} {Q : List W → Sto → List Addr → Hp → List V → Prop} (h : PostL P T K ρ H (r.bind f) Q) : PostL P T K ρ H r fun w S1 ρ1 H1 _ => PostL P T K ρ1 H1 (f w S1) Q := by
  cases r with
  | ok w S1 =>
    intro ρ1 H1 v x s _
    simp only [R.bind] at h
    unfold PostL at h ⊢
    split at h
    · rename_i w2 S2 e
      exact fun ρ2 H2 v2 x2 s2 q2 => h ρ2 H2 v2 (x.trans x2) s2 q2
    · exact h.elim
  | exc _ _ _ => exact h.elim
  | bad => exact h.elim
theorem PostA.bind {r : R α} {f : α → Sto → R W} {Q : W → Sto → List Addr → Hp → V → Prop} (h : Post P T K ρ H (r.bind f) Q) : PostA P T K ρ H r fun w S1 ρ1 H1 => Post P T K ρ1 H1 (f w S1) Q := by
  cases r with
  | ok w S1 =>
    intro ρ1 H1 x s
    simp only [R.bind] at h
    unfold Post at h ⊢
    split at h
    · rename_i w2 S2 e
      exact fun ρ2 H2 v2 x2 s2 q2 => h ρ2 H2 v2 (x.trans x2) s2 q2
    · exact h.elim
  | exc _ _ _ => exact h.elim
  | bad => exact h.elim
theorem PostA.bindA {r : R α} {f : α → Sto → R β} {Q : β → Sto → List Addr → Hp → Prop} (h : PostA P T K ρ H (r.bind f) Q) : PostA P T K ρ H r fun w S1 ρ1 H1 => PostA P T K ρ1 H1 (f w S1) Q := by
  cases r with
  | ok w S1 =>
    intro ρ1 H1 x s
    simp only [R.bind] at h
    unfold PostA at h ⊢
    split at h
    · rename_i w2 S2 e
      exact fun ρ2 H2 x2 s2 => h ρ2 H2 (x.trans x2) s2
    · exact h.elim
  | exc _ _ _ => exact h.elim
  | bad => exact h.elim
theorem PostA.bindL {r : R α} {f : α → Sto → R (List W)} {Q : List W → Sto → List Addr → Hp → List V → Prop} (h : PostL P T K ρ H (r.bind f) Q) : PostA P T K ρ H r fun w S1 ρ1 H1 => PostL P T K ρ1 H1 (f w S1) Q := by
  cases r with
  | ok w S1 =>
    intro ρ1 H1 x s
    simp only [R.bind] at h
    unfold PostL at h ⊢
    split at h
    · rename_i w2 S2 e
      exact fun ρ2 H2 v2 x2 s2 q2 => h ρ2 H2 v2 (x.trans x2) s2 q2
    · exact h.elim
  | exc _ _ _ => exact h.elim
  | bad => exact h.elim
theorem PostL.bindA {r : R (List W)} {f : List W → Sto → R β} {Q : β → Sto → List Addr → Hp → Prop} (h : PostA P T K ρ H (r.bind f) Q) : PostL P T K ρ H r fun w S1 ρ1 H1 _ => PostA P T K ρ1 H1 (f w S1) Q := by
  cases r with
  | ok w S1 =>
    intro ρ1 H1 v x s _
    simp only [R.bind] at h
    unfold PostA at h ⊢
    split at h
    · rename_i w2 S2 e
      exact fun ρ2 H2 x2 s2 => h ρ2 H2 (x.trans x2) s2
    · exact h.elim
  | exc _ _ _ => exact h.elim
  | bad => exact h.elim
theorem Post.imp {r : R W} {Q Q' : W → Sto → List Addr → Hp → V → Prop} (h : Post P T K ρ H r Q) (i : ∀ w S1 ρ1 H1 v, Ext ρ H ρ1 H1 → SR P T K ρ1 H1 S1 → VR P T K ρ1 H1 w v → Q w S1 ρ1 H1 v → Q' w S1 ρ1 H1 v) : Post P T K ρ H r Q' := by
  cases r with
  | ok w S1 => exact fun ρ1 H1 v x s q => i _ _ _ _ _ x s q (h ρ1 H1 v x s q)
  | exc _ _ _ => exact h
  | bad => exact h
theorem PostL.imp {r : R (List W)} {Q Q' : List W → Sto → List Addr → Hp → List V → Prop} (h : PostL P T K ρ H r Q) (i : ∀ w S1 ρ1 H1 v, Ext ρ H ρ1 H1 → SR P T K ρ1 H1 S1 → VRs P T K ρ1 H1 w v → Q w S1 ρ1 H1 v → Q' w S1 ρ1 H1 v) : PostL P T K ρ H r Q' := by
  cases r with
  | ok w S1 => exact fun ρ1 H1 v x s q => i _ _ _ _ _ x s q (h ρ1 H1 v x s q)
  | exc _ _ _ => exact h
  | bad => exact h
theorem PostA.imp {r : R α} {Q Q' : α → Sto → List Addr → Hp → Prop} (h : PostA P T K ρ H r Q) (i : ∀ w S1 ρ1 H1, Ext ρ H ρ1 H1 → SR P T K ρ1 H1 S1 → Q w S1 ρ1 H1 → Q' w S1 ρ1 H1) : PostA P T K ρ H r Q' := by
  cases r with
  | ok w S1 => exact fun ρ1 H1 x s => i _ _ _ _ x s (h ρ1 H1 x s)
  | exc _ _ _ => exact h
  | bad => exact h
/-- a computed value without a step -/
theorem Post.of {o : Option W} {S : Sto} {Q : W → Sto → List Addr → Hp → V → Prop} (h : Post P T K ρ H (R.of o S) Q) : ∃ w, o = some w ∧ ∀ ρ' H' v, Ext ρ H ρ' H' → SR P T K ρ' H' S → VR P T K ρ' H' w v → Q w S ρ' H' v := by
  cases o with
  | none => exact h.elim
  | some w => exact ⟨w, rfl, h⟩
end
end Eng

set_option Elab.async false
set_option linter.all false
/-! E4: which of the model's syntax a small term stands for. -/
namespace Eng
open PySem L2

def visC (sc : Scope) (x : Str) : Bool := match sc.names.lookup x with
  | some .local => true | some .cell => true | some .free => true | _ => false
def glbC (sc : Scope) (x : Str) : Bool := match sc.names.lookup x with
  | some .globalImplicit => true | _ => false
def locC (dfm : Bool) (sc : Scope) (x : Str) : Bool := match sc.names.lookup x with
  | some .local => true | some .cell => dfm | _ => false
def plainN (x : Str) : Bool := !(x == ("__debug__" : Str)) && !(x == ("__classdict__" : Str)) && decide (x ≠ "__name__")
def opC : BOp → Operator → Bool
  | .add, .Add => true | .sub, .Sub => true | .mul, .Mult => true | .fdiv, .FloorDiv => true | .mod, .Mod => true | .pow, .Pow => true
  | _, _ => false
def cmpC : COp → CmpOp → Bool
  | .eq, .Eq => true | .ne, .NotEq => true | .lt, .Lt => true | .le, .LtE => true | .gt, .Gt => true | .ge, .GtE => true
  | .in_, .In => true | .notIn, .NotIn => true | .isN, .Is => true | .notN, .IsNot => true
  | _, _ => false
def isNone : Expr → Bool
  | .Constant .none _ _ => true
  | _ => false
def bltN : Blt → Str
  | .len => "len" | .int => "int" | .tuple => "tuple" | .sum => "sum" | .all => "all" | .any => "any" | .min2 => "min" | .max2 => "max" | .abs => "abs"
def bltA : Blt → Nat
  | .min2 => 2 | .max2 => 2 | _ => 1
def bmN : Bm → Str
  | .append => "append" | .extend => "extend" | .pop0 => "pop" | .popAt => "pop" | .get2 => "get" | .index => "index"
def bmA : Bm → Nat
  | .append => 1 | .extend => 1 | .pop0 => 0 | .popAt => 1 | .get2 => 2 | .index => 1
/-- the parts of a further operation -/
def xShape : Xop → Expr → Option (List Expr)
  | .dnew, e => match e with | .Dict [] [] _ => some [] | _ => none
  | .revT, e => match e with | .Subscript ea (.Slice none none (some (.UnaryOp .USub (.Constant (.int 1) _ _) _)) _) _ => some [ea] | _ => none
def noSup : Expr → Bool
  | .Call (.Name _ _) [] [] _ => false
  | _ => true
def lenEs : CEs → Nat
  | .nil => 0
  | .cons _ es => lenEs es + 1
mutual
def chkT (N : List Str) (dfm : Bool) (sc : Scope) : CT → Expr → Bool
  | .nm i, e => match e with | .Name x _ => decide (N[i]? = some x) && locC dfm sc x | _ => false
  | .tp ts, e => match e with | .Tuple es _ _ => chkTs N dfm sc ts es | _ => false
def chkTs (N : List Str) (dfm : Bool) (sc : Scope) : List CT → List Expr → Bool
  | [], es => match es with | [] => true | _ => false
  | t :: ts, es => match es with | e :: es => chkT N dfm sc t e && chkTs N dfm sc ts es | [] => false
end
mutual
def chkE (P : Prog) (N : List Str) (sc : Scope) : CE → Expr → Bool
  | .var i, e => match e with | .Name x _ => decide (N[i]? = some x) && visC sc x && plainN x | _ => false
  | .non, e => isNone e
  | .bl b, e => match e with | .Constant (.bool c) _ _ => b == c | _ => false
  | .int i, e => match e with | .Constant (.int j) _ _ => decide (i = j) | _ => false
  | .str t, e => match e with | .Constant (.str s) _ _ => decide (P.tag t = s) | _ => false
  | .gc t, e => match e with | .Name x _ => decide (P.tag t = x) && glbC sc x && plainN x | _ => false
  | .bin op a b, e => match e with | .BinOp ea o eb _ => opC op o && chkE P N sc a ea && chkE P N sc b eb | _ => false
  | .neg a, e => match e with | .UnaryOp .USub ea _ => chkE P N sc a ea | _ => false
  | .cmp op a b, e => match e with
    | .Compare ea [o] [eb] _ => cmpC op o && !behindInMarks o eb && (match op with | .isN => isNone eb | .notN => isNone eb | _ => true) && chkE P N sc a ea && chkE P N sc b eb
    | _ => false
  | .chain op op' a b c, e => match e with
    | .Compare ea [o, o'] [eb, ec] _ => cmpC op o && cmpC op' o' && (match op with | .lt => true | .le => true | _ => false) && (match op' with | .lt => true | .le => true | _ => false) && chkE P N sc a ea && chkE P N sc b eb && chkE P N sc c ec
    | _ => false
  | .and_ es, e => match e with | .BoolOp .And vs _ => chkEs P N sc es vs && decide (2 ≤ lenEs es) | _ => false
  | .or_ es, e => match e with | .BoolOp .Or vs _ => chkEs P N sc es vs && decide (2 ≤ lenEs es) | _ => false
  | .not_ a, e => match e with | .UnaryOp .Not ea _ => chkE P N sc a ea | _ => false
  | .ite c a b, e => match e with | .IfExp ec ea eb _ => chkE P N sc c ec && chkE P N sc a ea && chkE P N sc b eb | _ => false
  | .tup es, e => match e with | .Tuple vs _ _ => chkEs P N sc es vs | _ => false
  | .lst l, e => chkL P N sc l e
  | .alloc l, e => chkL P N sc l e
  | .idx a i, e => match e with | .Subscript ea ei _ => chkE P N sc a ea && chkE P N sc i ei | _ => false
  | .sl a lo hi, e => match e with | .Subscript ea (.Slice el eh none _) _ => chkE P N sc a ea && (match el with | none => isOmit lo | some x => chkE P N sc lo x) && (match eh with | none => isOmit hi | some x => chkE P N sc hi x) | _ => false
  | .omit, _ => false
  | .fld a f, e => match e with | .Attribute ea x _ => noSup ea && decide (P.tag f = x) && chkE P N sc a ea | _ => false
  | .call f es, e => match e with
    | .Call (.Name x _) vs [] _ => (match P.gname f with | some t => decide (P.tag t = x) | none => false) && glbC sc x && plainN x && chkEs P N sc es vs
    | _ => false
  | .make _ c es, e => match e with
    | .Call (.Name x _) vs [] _ => (match P.cname c with | some t => decide (P.tag t = x) | none => false) && glbC sc x && plainN x && chkEs P N sc es vs
    | _ => false
  | .meth a m es, e => match e with
    | .Call (.Attribute ea x ap) vs [] ps => noSup ea && decide (P.tag m = x) && decide (ap.endLine = ps.line) && decide (vs.length < 29) && chkE P N sc a ea && chkEs P N sc es vs
    | _ => false
  | .blt b es, e => match e with
    | .Call (.Name x _) vs [] _ => decide (bltN b = x) && glbC sc x && plainN x && decide (lenEs es = bltA b) && chkEs P N sc es vs
    | _ => false
  | .bm m a es, e => match e with
    | .Call (.Attribute ea x ap) vs [] ps => noSup ea && decide (bmN m = x) && decide (ap.endLine = ps.line) && decide (lenEs es = bmA m) && chkE P N sc a ea && chkEs P N sc es vs
    | _ => false
  | .isC a c, e => match e with
    | .Call (.Name y _) [ea, .Name x _] [] _ => decide (y = "isinstance") && (match P.cname c with | some t => decide (P.tag t = x) | none => false) && glbC sc x && glbC sc y && plainN x && chkE P N sc a ea
    | _ => false
  | .isT a t, e => match e with
    | .Call (.Name y _) [ea, .Name x _] [] _ => decide (y = "isinstance") && (match t with | 0 => decide (x = "tuple") | 1 => decide (x = "list") | 2 => decide (x = "bool") | _ => false) && glbC sc x && glbC sc y && plainN x && chkE P N sc a ea
    | _ => false
  | .dict ks es, e => match e with
    | .Dict keys vs _ => chkK P ks keys && decide (lenEs es = ks.length) && decide (ks ≠ []) && decide (ks.length ≤ 15) && chkEs P N sc es vs
    | _ => false
  | .dcopy a, e => match e with
    | .Call (.Name y _) [ea] [] _ => decide (y = "dict") && glbC sc y && chkE P N sc a ea
    | _ => false
  | .op o es, e => match xShape o e with | some vs => chkEs P N sc es vs | none => false
  | .rep ne a b, e => match e with
    | .Compare (.Call (.Name x _) [ea] [] _) [o] [.Call (.Name y _) [eb] [] _] _ => decide (x = "repr") && decide (y = "repr") && (match o with | .Eq => !ne | .NotEq => ne | _ => false) && glbC sc x && chkE P N sc a ea && chkE P N sc b eb
    | _ => false
  | .comp _ own t it tst ce, e => match e with
    | .ListComp elt [⟨tg, iter, ifs, 0⟩] scope _ =>
      blkC N sc scope (own.map fun i => (N.getD i Str.empty, i)) && chkI P N sc it tg iter && chkT N false (relS scope sc) t tg
        && chkEs P N (relS scope sc) tst ifs && decide (lenEs tst ≤ 1) && chkE P N (relS scope sc) ce elt && inT own t
    | _ => false
def chkK (P : Prog) : List Nat → List (Option Expr) → Bool
  | [], es => match es with | [] => true | _ => false
  | k :: ks, es => match es with | some (.Constant (.str s) _ _) :: es => decide (P.tag k = s) && chkK P ks es | _ => false
def chkL (P : Prog) (N : List Str) (sc : Scope) : CL → Expr → Bool
  | .disp es, e => match e with | .List vs _ => chkEs P N sc es vs | _ => false
  | .copy a, e => match e with | .Call (.Name y _) [ea] [] _ => decide (y = "list") && glbC sc y && chkE P N sc a ea | _ => false
  | .sl a lo hi, e => match e with | .Subscript ea (.Slice el eh none _) _ => chkE P N sc a ea && (match el with | none => isOmit lo | some x => chkE P N sc lo x) && (match eh with | none => isOmit hi | some x => chkE P N sc hi x) | _ => false
  | .cat a b, e => match e with | .BinOp ea .Add eb _ => chkE P N sc a ea && chkE P N sc b eb | _ => false
def chkEs (P : Prog) (N : List Str) (sc : Scope) : CEs → List Expr → Bool
  | .nil, es => match es with | [] => true | _ => false
  | .cons c cs, es => match es with | e :: es => chkE P N sc c e && chkEs P N sc cs es | [] => false
/-- the target belongs: enumerate and zip want a written tuple -/
def chkI (P : Prog) (N : List Str) (sc : Scope) : CI → Expr → Expr → Bool
  | .seq a, _, e => chkE P N sc a e
  | .rng1 a, _, e => match e with | .Call (.Name y _) [ea] [] _ => decide (y = "range") && glbC sc y && chkE P N sc a ea | _ => false
  | .rng2 a b, _, e => match e with | .Call (.Name y _) [ea, eb] [] _ => decide (y = "range") && glbC sc y && chkE P N sc a ea && chkE P N sc b eb | _ => false
  | .enm a, tg, e => match tg, e with | .Tuple _ _ _, .Call (.Name y _) [ea] [] _ => decide (y = "enumerate") && glbC sc y && chkE P N sc a ea | _, _ => false
  | .rev a, _, e => match e with | .Call (.Name y _) [ea] [] _ => decide (y = "reversed") && glbC sc y && chkE P N sc a ea | _ => false
  | .zip a b, tg, e => match tg, e with | .Tuple _ _ _, .Call (.Name y _) [ea, eb] [] _ => decide (y = "zip") && glbC sc y && chkE P N sc a ea && chkE P N sc b eb | _, _ => false
/-- the slots that a target fills are among some -/
def inT (own : List Nat) : CT → Bool
  | .nm i => own.contains i
  | .tp ts => inTs own ts
def inTs (own : List Nat) : List CT → Bool
  | [] => true
  | t :: ts => inT own t && inTs own ts
end

def chkO (P : Prog) (N : List Str) (sc : Scope) (ce : CE) (e : Option Expr) : Bool := match e with | none => isOmit ce | some x => chkE P N sc ce x
end Eng

set_option Elab.async false
set_option linter.all false
set_option maxHeartbeats 1000000
/-! E5: operations on values: what the small language reckons is what the model's rules give. -/
namespace Eng
open PySem L2 PyProof.Rows
section
variable {P : Prog} {T : Adr} {K : PySem.W.Frag} {ρ : List Addr} {H : Hp} {S : Sto} {X : Cx}
/-- wherever it stands: w's stands for Q -/
def Ok1 (P : Prog) (T : Adr) (K : PySem.W.Frag) (ρ : List Addr) (H : Hp) (S : Sto) (w : W) (Q : VK) : Prop :=
  ∀ ρ' H' v, Ext ρ H ρ' H' → SR P T K ρ' H' S → VR P T K ρ' H' w v → Q v H'
theorem Ok1.here {w : W} {Q : VK} {v : V} (h : Ok1 P T K ρ H S w Q) (s : SR P T K ρ H S) (r : VR P T K ρ H w v) : Q v H := h ρ H v Ext.refl s r
theorem Ok1.int {i : Int} {Q : VK} (h : Ok1 P T K ρ H S (.int i) Q) (s : SR P T K ρ H S) : Q (.int i) H := h.here s (by simp [VR])
theorem Ok1.bl {i : Bool} {Q : VK} (h : Ok1 P T K ρ H S (.bl i) Q) (s : SR P T K ρ H S) : Q (.bl i) H := h.here s (by simp [VR])
theorem Ok1.str {i : Str} {Q : VK} (h : Ok1 P T K ρ H S (.str i) Q) (s : SR P T K ρ H S) : Q (.str i) H := h.here s (by simp [VR])
/-- a new tuple -/
theorem Ok1.tup {ws : List W} {vs : List V} {Q : VK} (h : Ok1 P T K ρ H S (.tup ws) Q) (s : SR P T K ρ H S) (r : VRs P T K ρ H ws vs) (hl : vs.length ≤ sizeLine) {p : Addr} (hp : H p = none) : Q (.ref p) (upd H p (.tup vs)) := by
  refine h ρ _ _ (Ext.fresh s hp) (s.new hp) ?_
  simp only [VR]
  exact ⟨p, vs, rfl, .inl ⟨upd_same, s.fresh hp⟩, hl, r.mono (Ext.fresh s hp)⟩
/-- .. the tuple that is there -/
theorem Ok1.tupAt {ws : List W} {vs : List V} {Q : VK} {p : Addr} (h : Ok1 P T K ρ H S (.tup ws) Q) (s : SR P T K ρ H S) (r : VRs P T K ρ H ws vs) (q : VR P T K ρ H (.tup ws) (.ref p)) : Q (.ref p) H := h.here s q

theorem VR.int_inv {i : Int} {v : V} (h : VR P T K ρ H (.int i) v) : v = .int i := by simpa [VR] using h
theorem VR.bl_inv {i : Bool} {v : V} (h : VR P T K ρ H (.bl i) v) : v = .bl i := by simpa [VR] using h
theorem VR.str_inv {i : Str} {v : V} (h : VR P T K ρ H (.str i) v) : v = .str i := by simpa [VR] using h
theorem VR.non_inv {v : V} (h : VR P T K ρ H .non v) : v = .non := by simpa [VR] using h
theorem VR.tup_inv {ws : List W} {v : V} (h : VR P T K ρ H (.tup ws) v) : ∃ p vs, v = .ref p ∧ SqT K H p vs ∧ vs.length ≤ sizeLine ∧ VRs P T K ρ H ws vs := by
  simp only [VR] at h
  obtain ⟨p, vs, rfl, h1, hl, h2⟩ := h
  refine ⟨p, vs, rfl, ?_, hl, h2⟩
  rcases h1 with ⟨h1, _⟩ | h1
  · exact .inl (.inl h1)
  · exact .inr h1

/-! ### two-place operators -/
def rAdd5 (K : PySem.W.Frag) : R2 := fun x y H Q => rI0 (fun i j => V.int (i + j)) x y H Q ∨ (∃ i k, x = V.int i ∧ y = V.bl k ∧ Q (V.int (i + b2i k)) H) ∨ rCatA K x y H Q ∨
  (∃ i j, x = V.str i ∧ y = V.str j ∧ i.length + j.length ≤ sizeLine ∧ Q (V.str (i ++ j)) H)
theorem op_add5 : OpR X (binaryOp .Add) (rAdd5 X.K) := OpR.or op_add (OpR.or op_add_ib (OpR.or op_catA op_add_str))
theorem add_ok {w1 w2 w : W} {v1 v2 : V} {Q : VK} (s : SR P T K ρ H S) (r1 : VR P T K ρ H w1 v1) (r2 : VR P T K ρ H w2 v2) (e : binW .add w1 w2 = some w) (q : Ok1 P T K ρ H S w Q) : rAdd5 K v1 v2 H Q := by
  cases w1 with
  | int i =>
    cases r1.int_inv
    cases w2 with
    | int j => cases r2.int_inv; simp only [binW, Option.some.injEq] at e; subst e; exact .inl ⟨i, j, rfl, rfl, q.int s⟩
    | bl k =>
      cases r2.bl_inv
      simp only [binW, Option.some.injEq] at e
      subst e
      refine .inr (.inl ⟨i, k, rfl, rfl, ?_⟩)
      have := q.int s
      cases k <;> simpa [b2i] using this
    | _ => simp [binW] at e
  | tup xs =>
    cases w2 with
    | tup ys =>
      simp only [binW] at e
      split at e
      · rename_i hl
        cases e
        obtain ⟨a, vs, rfl, t1, l1, x1⟩ := id r1.tup_inv
        obtain ⟨b, us, rfl, t2, l2, x2⟩ := id r2.tup_inv
        have e1 := x1.len
        have e2 := x2.len
        refine .inr (.inr (.inl ⟨a, b, vs, us, rfl, rfl, t1, t2, by omega, fun z => ?_, fun _ z => ?_, fun _ _ p hp => ?_⟩))
        · subst z
          have : xs = [] := List.length_eq_zero_iff.mp (by simpa using e1)
          subst this
          exact q.here s (by simpa using r2)
        · subst z
          have : ys = [] := List.length_eq_zero_iff.mp (by simpa using e2)
          subst this
          exact q.here s (by simpa using r1)
        · exact q.tup s (x1.app x2) (by rw [List.length_append]; omega) hp
      · cases e
    | _ => simp [binW] at e
  | str x =>
    cases r1.str_inv
    cases w2 with
    | str y =>
      cases r2.str_inv
      simp only [binW] at e
      split at e
      · rename_i hl; cases e; exact .inr (.inr (.inr ⟨x, y, rfl, rfl, hl, q.str s⟩))
      · cases e
    | _ => simp [binW] at e
  | _ => cases w2 <;> simp [binW] at e
theorem sub_ok {w1 w2 w : W} {v1 v2 : V} {Q : VK} (s : SR P T K ρ H S) (r1 : VR P T K ρ H w1 v1) (r2 : VR P T K ρ H w2 v2) (e : binW .sub w1 w2 = some w) (q : Ok1 P T K ρ H S w Q) : rI0 (fun i j => V.int (i - j)) v1 v2 H Q := by
  cases w1 with
  | int i => cases r1.int_inv; cases w2 with
    | int j => cases r2.int_inv; simp only [binW, Option.some.injEq] at e; subst e; exact ⟨i, j, rfl, rfl, q.int s⟩
    | _ => simp [binW] at e
  | _ => cases w2 <;> simp [binW] at e
theorem mul_ok {w1 w2 w : W} {v1 v2 : V} {Q : VK} (s : SR P T K ρ H S) (r1 : VR P T K ρ H w1 v1) (r2 : VR P T K ρ H w2 v2) (e : binW .mul w1 w2 = some w) (q : Ok1 P T K ρ H S w Q) : rI CMul (fun i j => V.int (i * j)) v1 v2 H Q := by
  cases w1 with
  | int i => cases r1.int_inv; cases w2 with
    | int j =>
      cases r2.int_inv; simp only [binW] at e
      split at e
      · rename_i c; cases e; exact ⟨i, j, rfl, rfl, c, q.int s⟩
      · cases e
    | _ => simp [binW] at e
  | _ => cases w2 <;> simp [binW] at e
theorem fdiv_ok {w1 w2 w : W} {v1 v2 : V} {Q : VK} (s : SR P T K ρ H S) (r1 : VR P T K ρ H w1 v1) (r2 : VR P T K ρ H w2 v2) (e : binW .fdiv w1 w2 = some w) (q : Ok1 P T K ρ H S w Q) : rI CDivN (fun i j => V.int (i.fdiv j)) v1 v2 H Q := by
  cases w1 with
  | int i => cases r1.int_inv; cases w2 with
    | int j =>
      cases r2.int_inv; simp only [binW] at e
      split at e
      · rename_i c; cases e; exact ⟨i, j, rfl, rfl, c, q.int s⟩
      · cases e
    | _ => simp [binW] at e
  | _ => cases w2 <;> simp [binW] at e
theorem mod_ok {w1 w2 w : W} {v1 v2 : V} {Q : VK} (s : SR P T K ρ H S) (r1 : VR P T K ρ H w1 v1) (r2 : VR P T K ρ H w2 v2) (e : binW .mod w1 w2 = some w) (q : Ok1 P T K ρ H S w Q) : rI (fun _ j => j ≠ 0) (fun i j => V.int (i.fmod j)) v1 v2 H Q := by
  cases w1 with
  | int i => cases r1.int_inv; cases w2 with
    | int j =>
      cases r2.int_inv; simp only [binW] at e
      split at e
      · rename_i c; cases e; exact ⟨i, j, rfl, rfl, c, q.int s⟩
      · cases e
    | _ => simp [binW] at e
  | _ => cases w2 <;> simp [binW] at e
theorem pow_ok {w1 w2 w : W} {v1 v2 : V} {Q : VK} (s : SR P T K ρ H S) (r1 : VR P T K ρ H w1 v1) (r2 : VR P T K ρ H w2 v2) (e : binW .pow w1 w2 = some w) (q : Ok1 P T K ρ H S w Q) : rI CPow (fun i j => V.int (i ^ j.toNat)) v1 v2 H Q := by
  cases w1 with
  | int i => cases r1.int_inv; cases w2 with
    | int j =>
      cases r2.int_inv; simp only [binW] at e
      split at e
      · rename_i c; cases e; exact ⟨i, j, rfl, rfl, c, q.int s⟩
      · cases e
    | _ => simp [binW] at e
  | _ => cases w2 <;> simp [binW] at e

/-! ### data as a whole -/
mutual
theorem VR.dp : ∀ {w : W} {v : V}, VR P T K ρ H w v → isD w = true → Dp K H v (toD w)
  | .non, v, h, _ => by cases h.non_inv; exact .non
  | .bl b, v, h, _ => by cases h.bl_inv; exact .bl b
  | .int b, v, h, _ => by cases h.int_inv; exact .int b
  | .str b, v, h, _ => by cases h.str_inv; exact .str b
  | .tup ws, v, h, d => by
    obtain ⟨p, vs, rfl, t, _, x⟩ := h.tup_inv
    exact .tup t (VRs.dp x (by simpa [isD] using d))
  | .lst ws, v, h, d => by
    simp only [VR] at h
    obtain ⟨p, vs, rfl, h1, _, hl, h2⟩ := h
    exact .lst (.inl (.inl h1)) (VRs.dp h2 (by simpa [isD] using d))
  | .fro ws, v, h, d => by
    simp only [VR] at h
    obtain ⟨p, vs, rfl, h1, hl, h2⟩ := h
    refine .lst ?_ (VRs.dp h2 (by simpa [isD] using d))
    rcases h1 with ⟨h1, _⟩ | h1
    · exact .inl (.inr h1)
    · exact .inr h1
  | .ins _ _ _, v, h, d => by simp [isD] at d
  | .dct _ _, v, h, d => by simp [isD] at d
  | .ref _, v, h, d => by simp [isD] at d
theorem VRs.dp : ∀ {ws : List W} {vs : List V}, VRs P T K ρ H ws vs → isDs ws = true → DpAll K H vs (toDs ws)
  | [], vs, h, _ => by cases VRs.nil_iff.mp h; exact .nil
  | w :: ws, vs, h, d => by
    simp only [VRs] at h
    simp only [isDs, Bool.and_eq_true] at d
    obtain ⟨v, r, rfl, h1, h2⟩ := h
    exact .cons (VR.dp h1 d.1) (VRs.dp h2 d.2)
end
/-- what a value reads as stands there -/
theorem readW_ok {w w' : W} {v : V} (s : SR P T K ρ H S) (h : VR P T K ρ H w v) (e : readW S w = some w') : isD w' = true → Dp K H v (toD w') := by
  intro d
  unfold readW at e
  split at e
  · cases e; exact h.dp d
  · have s' : SR P T K ([] ++ ρ) H S := by simpa using s
    have hd : DOk P T K [] ρ H (deref 0 S 8) := by
      have := deref_ok (ρ := []) (r := ρ) s' 8
      simpa using this
    have h' : VR P T K ([] ++ ρ) H w v := by simpa using h
    have q := res_rep (ρ := []) (r := ρ) hd h' (by simpa using e)
    exact q.dp d
theorem scal_of {w1 w2 : W} {v1 v2 : V} {b : Bool} (r1 : VR P T K ρ H w1 v1) (r2 : VR P T K ρ H w2 v2) (e : eqS w1 w2 = some b) : scal v1 v2 = true ∧ decide (v1 = v2) = b := by
  cases w1 <;> cases w2 <;> simp only [eqS, Option.some.injEq, reduceCtorEq] at e
  all_goals simp only [VR] at r1 r2
  all_goals subst r1
  all_goals subst r2
  all_goals subst e
  all_goals simp [scal]
def rEq5 (K : PySem.W.Frag) : R2 := fun x y H Q => rEq x y H Q ∨ rEqD K x y H Q
def rNe5 (K : PySem.W.Frag) : R2 := fun x y H Q => rNe x y H Q ∨ rNeD K x y H Q
theorem eq_ok {w1 w2 : W} {v1 v2 : V} {b : Bool} {Q : VK} (s : SR P T K ρ H S) (r1 : VR P T K ρ H w1 v1) (r2 : VR P T K ρ H w2 v2) (e : eqW S w1 w2 = some b) (q : Q (.bl b) H) : rEq5 K v1 v2 H Q := by
  unfold eqW at e
  split at e
  · rename_i r hr
    cases e
    obtain ⟨h1, h2⟩ := scal_of r1 r2 hr
    exact .inl ⟨h1, by rw [h2]; exact q⟩
  · unfold eqDeep at e
    split at e
    · rename_i a' b' ea eb
      split at e
      · rename_i c
        obtain ⟨c1, c2, c3, c4⟩ := c
        cases e
        exact .inr ⟨_, _, readW_ok s r1 ea c1, readW_ok s r2 eb c2, c3, c4, q⟩
      · cases e
    · cases e
theorem ne_ok {w1 w2 : W} {v1 v2 : V} {b : Bool} {Q : VK} (s : SR P T K ρ H S) (r1 : VR P T K ρ H w1 v1) (r2 : VR P T K ρ H w2 v2) (e : eqW S w1 w2 = some b) (q : Q (.bl (!b)) H) : rNe5 K v1 v2 H Q := by
  unfold eqW at e
  split at e
  · rename_i r hr
    cases e
    obtain ⟨h1, h2⟩ := scal_of r1 r2 hr
    exact .inl ⟨h1, by rw [h2]; exact q⟩
  · unfold eqDeep at e
    split at e
    · rename_i a' b' ea eb
      split at e
      · rename_i c
        obtain ⟨c1, c2, c3, c4⟩ := c
        cases e
        exact .inr ⟨_, _, readW_ok s r1 ea c1, readW_ok s r2 eb c2, c3, c4, q⟩
      · cases e
    · cases e

/-! ### dicts by key -/
theorem key_ok {w : W} {k : Key} {v : V} (r : VR P T K ρ H w v) (e : keyOf w = some k) : v = kV k := by
  cases w <;> simp only [keyOf, Option.some.injEq, reduceCtorEq] at e
  all_goals subst e
  all_goals simpa [VR, kV] using r
theorem look_some : ∀ {ks : List Key} {ws : List W} {kvs : List (Key × V)} {k : Key} {w : W}, kvs.map (·.1) = ks → VRs P T K ρ H ws (kvs.map (·.2)) → dLook ks ws k = some w → ∃ v, valV kvs k = some v ∧ VR P T K ρ H w v
  | [], ws, kvs, k, w, hk, hv, e => by simp [dLook] at e
  | k0 :: ks, [], kvs, k, w, hk, hv, e => by simp [dLook] at e
  | k0 :: ks, w0 :: ws, [], k, w, hk, hv, e => by simp at hk
  | k0 :: ks, w0 :: ws, (k1, v1) :: kvs, k, w, hk, hv, e => by
    simp only [List.map_cons, List.cons.injEq] at hk
    obtain ⟨rfl, hk⟩ := hk
    simp only [List.map_cons, VRs] at hv
    obtain ⟨v, r, hv0, h1, h2⟩ := hv
    simp only [List.cons.injEq] at hv0
    obtain ⟨rfl, rfl⟩ := hv0
    simp only [dLook] at e
    split at e
    · rename_i c
      cases e
      exact ⟨v1, valV_pos c, h1⟩
    · rename_i c
      obtain ⟨v', q1, q2⟩ := look_some hk h2 e
      exact ⟨v', (valV_neg c).trans q1, q2⟩
theorem look_none : ∀ {ks : List Key} {ws : List W} {kvs : List (Key × V)} {k : Key}, kvs.map (·.1) = ks → VRs P T K ρ H ws (kvs.map (·.2)) → dLook ks ws k = none → valV kvs k = none
  | [], ws, kvs, k, hk, hv, e => by
    have : kvs = [] := by simpa using hk
    subst this; exact valV_nil
  | k0 :: ks, ws, [], k, hk, hv, e => by simp at hk
  | k0 :: ks, [], (k1, v1) :: kvs, k, hk, hv, e => by simp [VRs] at hv
  | k0 :: ks, w0 :: ws, (k1, v1) :: kvs, k, hk, hv, e => by
    simp only [List.map_cons, List.cons.injEq] at hk
    obtain ⟨rfl, hk⟩ := hk
    simp only [List.map_cons, VRs] at hv
    obtain ⟨v, r, hv0, h1, h2⟩ := hv
    simp only [List.cons.injEq] at hv0
    obtain ⟨rfl, rfl⟩ := hv0
    simp only [dLook] at e
    split at e
    · cases e
    · rename_i c
      exact (valV_neg c).trans (look_none hk h2 e)
theorem look_isSome {ks : List Key} {ws : List W} {kvs : List (Key × V)} {k : Key} (hk : kvs.map (·.1) = ks) (hv : VRs P T K ρ H ws (kvs.map (·.2))) : (valV kvs k).isSome = (dLook ks ws k).isSome := by
  cases e : dLook ks ws k with
  | none => rw [look_none hk hv e]; rfl
  | some w =>
    obtain ⟨v, q, _⟩ := look_some hk hv e
    rw [q]; rfl
theorem rep_map {k : Key} {w : W} {v : V} (r : VR P T K ρ H w v) : ∀ {ks : List Key} {ws : List W} {kvs : List (Key × V)}, kvs.map (·.1) = ks → VRs P T K ρ H ws (kvs.map (·.2)) →
    VRs P T K ρ H (dRep ks ws k w) ((kvs.map fun kv => if kv.1 = k then (kv.1, v) else kv).map (·.2))
  | [], ws, kvs, hk, hv => by
    have : kvs = [] := by simpa using hk
    subst this
    simp only [List.map_nil, VRs.nil_iff]
    cases ws with
    | nil => simp [dRep, VRs]
    | cons _ _ => simp [VRs] at hv
  | k0 :: ks, ws, [], hk, hv => by simp at hk
  | k0 :: ks, [], (k1, v1) :: kvs, hk, hv => by simp [VRs] at hv
  | k0 :: ks, w0 :: ws, (k1, v1) :: kvs, hk, hv => by
    simp only [List.map_cons, List.cons.injEq] at hk
    obtain ⟨rfl, hk⟩ := hk
    simp only [List.map_cons, VRs] at hv
    obtain ⟨v', r', hv0, h1, h2⟩ := hv
    simp only [List.cons.injEq] at hv0
    obtain ⟨rfl, rfl⟩ := hv0
    have ih := rep_map r (k := k) hk h2
    simp only [dRep, List.map_cons]
    by_cases c : k1 = k
    · rw [if_pos c, if_pos c]; exact VRs.cons r ih
    · rw [if_neg c, if_neg c]; exact VRs.cons h1 ih
theorem put_map {ks : List Key} {ws : List W} {kvs : List (Key × V)} {k : Key} {w : W} {v : V} (hk : kvs.map (·.1) = ks) (hv : VRs P T K ρ H ws (kvs.map (·.2))) (r : VR P T K ρ H w v) :
    (putK kvs k v).map (·.1) = (dPut ks ws k w).1 ∧ VRs P T K ρ H (dPut ks ws k w).2 ((putK kvs k v).map (·.2)) ∧ (putK kvs k v).length ≤ kvs.length + 1 := by
  have hany : (kvs.any fun kv => decide (kv.1 = k)) = (ks.any fun x => decide (x = k)) := by
    subst hk
    rw [List.any_map]
    rfl
  unfold putK dPut
  rw [hany]
  by_cases c : (ks.any fun x => decide (x = k)) = true
  · rw [if_pos c, if_pos c]
    refine ⟨?_, rep_map r hk hv, by simp⟩
    rw [← hk, List.map_map]
    refine List.map_congr_left fun kv _ => ?_
    show (if kv.1 = k then (kv.1, v) else kv).1 = kv.1
    split <;> rfl
  · rw [if_neg c, if_neg c]
    refine ⟨by simp [hk], ?_, by simp⟩
    rw [List.map_append]
    exact hv.app (VRs.cons r VRs.nil)

/-! ### fields by name -/
theorem fld_ok (inj : ∀ i j, P.tag i = P.tag j → i = j) : ∀ {ns : List Nat} {ws : List W} {fs : List (Str × V)} {f : Nat} {w : W}, fs.map (·.1) = ns.map P.tag → VRs P T K ρ H ws (fs.map (·.2)) → fldW ns ws f = some w → f ∈ ns ∧ ∃ v, fs.lookup (P.tag f) = some v ∧ VR P T K ρ H w v
  | [], ws, fs, f, w, hk, hv, e => by simp [fldW] at e
  | n :: ns, [], fs, f, w, hk, hv, e => by simp [fldW] at e
  | n :: ns, w0 :: ws, [], f, w, hk, hv, e => by simp at hk
  | n :: ns, w0 :: ws, (g, v1) :: fs, f, w, hk, hv, e => by
    simp only [List.map_cons, List.cons.injEq] at hk
    obtain ⟨rfl, hk⟩ := hk
    simp only [List.map_cons, VRs] at hv
    obtain ⟨v, r, hv0, h1, h2⟩ := hv
    simp only [List.cons.injEq] at hv0
    obtain ⟨rfl, rfl⟩ := hv0
    simp only [fldW] at e
    by_cases c : n = f
    · rw [if_pos c] at e
      cases e
      subst c
      exact ⟨List.mem_cons_self, v1, by rw [List.lookup_cons]; simp, h1⟩
    · rw [if_neg c] at e
      obtain ⟨m, v', q1, q2⟩ := fld_ok inj hk h2 e
      refine ⟨List.mem_cons_of_mem _ m, v', ?_, q2⟩
      rw [List.lookup_cons]
      have : (P.tag f == P.tag n) = false := beq_eq_false_iff_ne.mpr fun z => c (inj _ _ z.symm)
      rw [this]
      exact q1
theorem nolook (inj : ∀ i j, P.tag i = P.tag j → i = j) : ∀ {ns : List Nat} {fs : List (Str × V)} {f : Nat}, fs.map (·.1) = ns.map P.tag → f ∉ ns → fs.lookup (P.tag f) = none
  | [], fs, f, hk, h => by
    have : fs = [] := by simpa using hk
    subst this; rfl
  | n :: ns, [], f, hk, h => by simp at hk
  | n :: ns, (g, v1) :: fs, f, hk, h => by
    simp only [List.map_cons, List.cons.injEq] at hk
    obtain ⟨rfl, hk⟩ := hk
    rw [List.lookup_cons]
    have : (P.tag f == P.tag n) = false := beq_eq_false_iff_ne.mpr fun z => h (by rw [inj _ _ z]; exact List.mem_cons_self)
    rw [this]
    exact nolook inj hk fun z => h (List.mem_cons_of_mem _ z)
theorem putF_ok (inj : ∀ i j, P.tag i = P.tag j → i = j) {f : Nat} {w : W} {v : V} (r : VR P T K ρ H w v) : ∀ {ns : List Nat} {ws : List W} {fs : List (Str × V)}, fs.map (·.1) = ns.map P.tag → VRs P T K ρ H ws (fs.map (·.2)) →
    (putF (P.tag f) v fs).map (·.1) = (putW ns ws f w).1.map P.tag ∧ VRs P T K ρ H (putW ns ws f w).2 ((putF (P.tag f) v fs).map (·.2)) ∧ ∀ g ∈ (putW ns ws f w).1, g ∈ ns ∨ g = f
  | [], ws, fs, hk, hv => by
    have : fs = [] := by simpa using hk
    subst this
    simp only [List.map_nil, VRs.nil_iff] at hv
    cases ws with
    | nil => exact ⟨by simp [putF, putW], by simpa [putF, putW] using VRs.cons r VRs.nil, by simp [putW]⟩
    | cons _ _ => simp [VRs] at hv
  | n :: ns, ws, [], hk, hv => by simp at hk
  | n :: ns, [], (g, v1) :: fs, hk, hv => by simp [VRs] at hv
  | n :: ns, w0 :: ws, (g, v1) :: fs, hk, hv => by
    simp only [List.map_cons, List.cons.injEq] at hk
    obtain ⟨rfl, hk⟩ := hk
    simp only [List.map_cons, VRs] at hv
    obtain ⟨v', r', hv0, h1, h2⟩ := hv
    simp only [List.cons.injEq] at hv0
    obtain ⟨rfl, rfl⟩ := hv0
    by_cases c : n = f
    · subst c
      simp only [putF, putW, if_pos]
      exact ⟨by simp [hk], by simpa using VRs.cons r h2, fun g hg => .inl hg⟩
    · obtain ⟨i1, i2, i3⟩ := putF_ok inj r (f := f) hk h2
      have c' : ¬ P.tag n = P.tag f := fun z => c (inj _ _ z)
      simp only [putF, putW, if_neg c, if_neg c']
      refine ⟨by simp [i1], by simpa using VRs.cons h1 i2, fun g hg => ?_⟩
      rcases List.mem_cons.mp hg with z | z
      · exact .inl (z ▸ List.mem_cons_self)
      · rcases i3 g z with z | z
        · exact .inl (List.mem_cons_of_mem _ z)
        · exact .inr z
end
end Eng

set_option Elab.async false
set_option linter.all false
set_option maxHeartbeats 1000000
/-! E6: judgements; names, constants, operators, comparisons, truths. -/
namespace Eng
open PySem L2 PyProof.Rows

def bltNames : List Str := ["len", "int", "tuple", "list", "sum", "all", "any", "min", "max", "abs", "dict", "isinstance", "range", "enumerate", "reversed", "zip", "bool", "repr"]
/-- what the text's top has left -/
structure Facts (P : Prog) (T : Adr) (K : PySem.W.Frag) (mg : Str → Option Value) : Prop where
  inj : ∀ i j, P.tag i = P.tag j → i = j
  blt : ∀ x ∈ bltNames, mg x = none
  gc : ∀ t w, P.gc t = some w → ∃ u v, mg (P.tag t) = some u ∧ RelV v u ∧ ∀ ρ H, VR P T K ρ H w v
  fn : ∀ f t, P.gname f = some t → mg (P.tag t) = some (.ref (T.F f)) ∧ PySem.W.keepIn K (.ref (T.F f)) = true
  cls : ∀ c t, P.cname c = some t → mg (P.tag t) = some (.ref (T.C c))
  ccls : ∀ c f, P.init c = some f → Cls K (T.C c)
  nf : ∀ c f, P.isF c f = true → NoAttr K (T.C c) (P.tag f)
  init : ∀ c f, P.init c = some f → Mk K (T.C c) (T.F f)
  meth : ∀ c m f, P.meth c m = some f → Meth K (T.C c) (P.tag m) (T.F f) ∧ Cls K (T.C c)
  sub : ∀ c c' b, P.sub c c' = some b → PySem.W.kitOne K (.ref (T.C c)) (.ref (T.C c')) = some b
  tyc : ∀ c c' b, P.sub c c' = some b → PySem.W.findIn K (.ref (T.C c)) "__class__" = some (some (.builtin "object.__class__")) ∧ PySem.W.specialIn K (.builtin "object.__class__") "__get__" = some (some (.builtin "getset_descriptor.__get__")) ∧
    PySem.W.takesIn K (.builtin "object.__class__") = some true ∧ PySem.W.mroIn K (T.C c) (.type "object") = some true
  kty : PySem.W.kitOne K (.type "tuple") (.type "tuple") = some true ∧ PySem.W.kitOne K (.type "list") (.type "list") = some true ∧ PySem.W.kitOne K (.type "bool") (.type "bool") = some true
  dfl : ∀ f n, n ≤ (P.dfl f).length → ∃ ds dvs, Binds K (T.fd f) (T.ps f) ds ∧ Vals dvs ds ∧ ∀ ρ H, VRs P T K ρ H ((P.dfl f).drop n) dvs
  np : ∀ f d, P.fn f = some d → (T.ps f).length = d.np

/-- the promise of a function: what the small language's run says -/
def spR (P : Prog) (T : Adr) (K : PySem.W.Frag) (k f : Nat) : Sp := fun vs H Q _ => vs.length = (T.ps f).length ∧ ∃ ρ S ws, SR P T K ρ H S ∧ VRs P T K ρ H ws vs ∧ Post P T K ρ H (run P k f ws S) fun _ _ _ H' v => Q v H'
noncomputable def iniOf (P : Prog) (k : Nat) : Nat → List W → Sto → R W := match k with | 0 => fun _ _ _ => .bad | j + 1 => run P j
noncomputable def clG (P : Prog) (k : Nat) (gb : Bool) : Cl := ⟨run P k, iniOf P k, gb⟩
noncomputable def clOf (P : Prog) (k : Nat) : Cl := clG P k false
/-- where a body runs -/
structure XOk (P : Prog) (T : Adr) (k : Nat) (gb : Bool) (N : List Str) (dfm : Bool) (sc : Scope) (X : Cx) : Prop where
  F : Facts P T X.K X.mg
  nd : N.Nodup
  hN : X.N = N
  sc : X.env.scope = sc
  calm : X.calm = true
  room : Room k X.A
  gds : gb = true → X.A.guards = some []
  xe : X.xe = fun _ _ => False
  fnd : dfm = true → ∀ x, X.fn x = true
  call : ∀ f, FnOk X.prog X.w X.K X.mg X.base CX0 k (T.F f) (T.fd f) (T.ps f) (spR P T X.K k f)
  ini : ∀ j, k = j + 1 → ∀ f, FnOk X.prog X.w X.K X.mg X.base CX0 j (T.F f) (T.fd f) (T.ps f) (spR P T X.K j f)

section
variable (P : Prog) (T : Adr) (K : PySem.W.Frag)
abbrev MW := Env → Sto → R W
def tE (m : MW) : TE := fun σ H Q => ∃ ρ env S, ER P T K ρ H env σ ∧ SR P T K ρ H S ∧ Post P T K ρ H (m env S) fun _ _ _ H' v => Q v H'
def tEs (m : Env → Sto → R (List W)) : TA := fun σ H Q => ∃ ρ env S, ER P T K ρ H env σ ∧ SR P T K ρ H S ∧ PostL P T K ρ H (m env S) fun _ _ _ H' v => Q v H'
/-- a truth -/
def PostT (ρ : List Addr) (H : Hp) (r : R W) (Q : Bool → Hp → Prop) : Prop :=
  match r with
  | .ok (.bl b) S' => ∀ ρ' H', Ext ρ H ρ' H' → SR P T K ρ' H' S' → Q b H'
  | _ => False
def tT (m : MW) : TT := fun σ H Q => ∃ ρ env S, ER P T K ρ H env σ ∧ SR P T K ρ H S ∧ PostT P T K ρ H (m env S) fun b H' => Q b H'
/-- a new list -/
def PostF (ρ : List Addr) (H : Hp) (r : R (List W)) (Q : List W → Sto → List Addr → Hp → Addr → List V → Prop) : Prop :=
  match r with
  | .ok ws S' => ∀ ρ' H0 p vs, Ext ρ H ρ' H0 → SR P T K ρ' H0 S' → VRs P T K ρ' H0 ws vs → vs.length ≤ sizeLine → H0 p = none → Q ws S' ρ' H0 p vs
  | _ => False
def tF (m : Env → Sto → R (List W)) : TE := fun σ H Q => ∃ ρ env S, ER P T K ρ H env σ ∧ SR P T K ρ H S ∧ PostF P T K ρ H (m env S) fun _ _ _ H0 p vs => Q (.ref p) (upd H0 p (.lst vs))
end

section
variable {P : Prog} {T : Adr} {ρ : List Addr} {H : Hp} {S : Sto} {X : Cx} {k : Nat} {N : List Str} {gb dfm : Bool} {sc : Scope} {e ea eb ec : Expr} {pos : Pos} {m ma mb mc : MW}

theorem PostT.of {K : PySem.W.Frag} {r : R W} {Q : Bool → Hp → Prop} (h : PostT P T K ρ H r Q) : Post P T K ρ H r fun w S' _ H' _ => ∃ b, w = .bl b ∧ Q b H' := by
  unfold PostT at h
  unfold Post
  split at h
  · exact fun ρ' H' v x s _ => ⟨_, rfl, h ρ' H' x s⟩
  · exact h.elim
theorem PostT.bind {K : PySem.W.Frag} {r : R W} {f : W → Sto → R W} {Q : Bool → Hp → Prop} (h : PostT P T K ρ H (r.bind f) Q) : Post P T K ρ H r fun w S1 ρ1 H1 _ => PostT P T K ρ1 H1 (f w S1) Q := by
  cases r with
  | ok w S1 =>
    intro ρ1 H1 v x s _
    simp only [R.bind] at h
    unfold PostT at h ⊢
    split at h
    · exact fun ρ2 H2 x2 s2 => h ρ2 H2 (x.trans x2) s2
    · exact h.elim
  | exc _ _ _ => exact h.elim
  | bad => exact h.elim
/-- .. as the truth of a value -/
theorem PE.test (h : PE X e (tE P T X.K m)) (he : ∀ whole, isTrue e X.env whole = (do let v ← whole; standAt e.pos; holding [v] (truthy v))) : PT X e (tT P T X.K m) := by
  refine ⟨fun pins s σ H Q I q => ?_⟩
  obtain ⟨ρ, env, S, er, sr, q⟩ := q
  refine (pt_val h he).run pins s σ H Q I ⟨ρ, env, S, er, sr, q.of.imp fun w S1 ρ1 H1 v x s1 r ⟨b, e1, e2⟩ => ?_⟩
  subst e1
  exact ⟨b, r.bl_inv, e2⟩

/-! ### names, constants -/
theorem vis_of (h : visC sc x = true) (hs : X.env.scope = sc) : Vis X.env.scope x := by
  unfold visC at h
  rw [hs]
  unfold Vis
  split at h
  · exact .inl (by assumption)
  · exact .inr (.inl (by assumption))
  · exact .inr (.inr (by assumption))
  · cases h
theorem gl_of (h : glbC sc x = true) (hs : X.env.scope = sc) : Gl X x := by
  unfold glbC at h
  unfold Gl
  show X.env.scope.names.lookup x = _
  rw [hs]
  split at h
  · assumption
  · cases h
theorem plain_of {x : Str} (h : plainN x = true) : (x == ("__debug__" : Str)) = false ∧ (x == ("__classdict__" : Str)) = false ∧ x ≠ "__name__" := by
  unfold plainN at h
  simp only [Bool.and_eq_true, Bool.not_eq_true', decide_eq_true_eq] at h
  exact ⟨h.1.1, h.1.2, h.2⟩
theorem s_var (O : XOk P T k gb N dfm sc X) {i : Nat} {x : Str} (h1 : N[i]? = some x) (h2 : visC sc x = true) (h3 : plainN x = true) : PE X (.Name x pos) (tE P T X.K fun env S => R.of (env[i]?.join) S) := by
  obtain ⟨p1, p2, _⟩ := plain_of h3
  refine ⟨fun pins s σ H Q I q => ?_⟩
  obtain ⟨ρ, env, S, er, sr, q⟩ := q
  obtain ⟨w, hw, q⟩ := q.of
  have he : env[i]? = some (some w) := by
    cases c : env[i]? with
    | none => rw [c] at hw; cases hw
    | some o => rw [c] at hw; exact congrArg some hw
  obtain ⟨v, h4, h5⟩ := er.2 i w he
  exact (pe_var (i := i) (by rw [O.hN]; exact h1) (vis_of h2 O.sc) p1 p2).run pins s σ H Q I ⟨v, h4, q ρ H v Ext.refl sr h5⟩
theorem s_c {v : V} {w : W} (h : PE X e (tC v)) (hv : ∀ ρ H, VR P T X.K ρ H w v) : PE X e (tE P T X.K fun _ S => .ok w S) := by
  refine ⟨fun pins s σ H Q I q => ?_⟩
  obtain ⟨ρ, env, S, er, sr, q⟩ := q
  exact h.run pins s σ H Q I (q ρ H v Ext.refl sr (hv ρ H))
theorem s_gc (O : XOk P T k gb N dfm sc X) {t : Nat} (h1 : glbC sc (P.tag t) = true) (h2 : plainN (P.tag t) = true) : PE X (.Name (P.tag t) pos) (tE P T X.K fun _ S => R.of (P.gc t) S) := by
  refine ⟨fun pins s σ H Q I q => ?_⟩
  obtain ⟨ρ, env, S, er, sr, q⟩ := q
  obtain ⟨w, hw, q⟩ := q.of
  obtain ⟨u, v, g1, g2, g3⟩ := O.F.gc t w hw
  exact (pe_glob (gl_of h1 O.sc) g1 g2 (plain_of h2).1).run pins s σ H Q I (q ρ H v Ext.refl sr (g3 ρ H))

/-! ### operators -/
theorem s_op2 {f : Value → Value → Sem Value} {g : Sto → W → W → Option W} {r : R2}
    (hr : ∀ {ρ : List Addr} {H : Hp} {S : Sto} {w1 w2 w : W} {v1 v2 : V} {Q : VK}, SR P T X.K ρ H S → VR P T X.K ρ H w1 v1 → VR P T X.K ρ H w2 v2 → g S w1 w2 = some w → Ok1 P T X.K ρ H S w Q → r v1 v2 H Q)
    (he : ∀ {ta tb : TE}, PE X ea ta → PE X eb tb → PE X e (tOp r ta tb)) (ha : PE X ea (tE P T X.K ma)) (hb : PE X eb (tE P T X.K mb)) :
    PE X e (tE P T X.K fun env S => (ma env S).bind fun x S1 => (mb env S1).bind fun y S2 => R.of (g S2 x y) S2) := by
  refine ⟨fun pins s σ H Q I q => ?_⟩
  obtain ⟨ρ, env, S, er, sr, q⟩ := q
  refine (he ha hb).run pins s σ H Q I ⟨ρ, env, S, er, sr, q.bind.imp fun w1 S1 ρ1 H1 v1 x1 s1 r1 q1 => ?_⟩
  refine ⟨ρ1, env, S1, er.mono x1, s1, q1.bind.imp fun w2 S2 ρ2 H2 v2 x2 s2 r2 q2 => ?_⟩
  obtain ⟨w, hw, q⟩ := q2.of
  exact hr s2 (r1.mono x2) r2 hw q
theorem s_bin {op : BOp} {o : Operator} (ho : opC op o = true) (ha : PE X ea (tE P T X.K ma)) (hb : PE X eb (tE P T X.K mb)) :
    PE X (.BinOp ea o eb pos) (tE P T X.K fun env S => (ma env S).bind fun x S1 => (mb env S1).bind fun y S2 => R.of (binW op x y) S2) := by
  cases op <;> cases o <;> first | (cases ho; done) | skip
  · exact s_op2 (f := binaryOp .Add) (g := fun _ => binW .add) (r := rAdd5 X.K) (fun s r1 r2 e q => add_ok s r1 r2 e q) (fun a b => pe_op op_add5 a b) ha hb
  · exact s_op2 (f := binaryOp .Sub) (g := fun _ => binW .sub) (fun s r1 r2 e q => sub_ok s r1 r2 e q) (fun a b => pe_op op_sub a b) ha hb
  · exact s_op2 (f := binaryOp .Mult) (g := fun _ => binW .mul) (fun s r1 r2 e q => mul_ok s r1 r2 e q) (fun a b => pe_op op_mul a b) ha hb
  · exact s_op2 (f := binaryOp .FloorDiv) (g := fun _ => binW .fdiv) (fun s r1 r2 e q => fdiv_ok s r1 r2 e q) (fun a b => pe_op op_fdivN a b) ha hb
  · exact s_op2 (f := binaryOp .Mod) (g := fun _ => binW .mod) (fun s r1 r2 e q => mod_ok s r1 r2 e q) (fun a b => pe_op op_modN a b) ha hb
  · exact s_op2 (f := binaryOp .Pow) (g := fun _ => binW .pow) (fun s r1 r2 e q => pow_ok s r1 r2 e q) (fun a b => pe_op op_pow a b) ha hb
theorem s_neg (ha : PE X ea (tE P T X.K ma)) : PE X (.UnaryOp .USub ea pos) (tE P T X.K fun env S => (ma env S).bind fun x S1 => match x with | .int i => .ok (.int (-i)) S1 | _ => .bad) := by
  refine ⟨fun pins s σ H Q I q => ?_⟩
  obtain ⟨ρ, env, S, er, sr, q⟩ := q
  refine (pe_un un_neg ha).run pins s σ H Q I ⟨ρ, env, S, er, sr, q.bind.imp fun w1 S1 ρ1 H1 v1 x1 s1 r1 q1 => ?_⟩
  cases w1 <;> first | (exact q1.elim; done) | skip
  cases r1.int_inv
  exact ⟨_, rfl, q1 _ _ _ Ext.refl s1 (by simp [VR])⟩
end
end Eng

set_option Elab.async false
set_option linter.all false
set_option maxHeartbeats 1000000
/-! E7: comparisons, truths, conditional expressions, tuples. -/
namespace Eng
open PySem L2 PyProof.Rows
section
variable {K : PySem.W.Frag} {P : Prog} {T : Adr} {ρ : List Addr} {H : Hp} {S : Sto} {X : Cx} {k : Nat} {N : List Str} {gb dfm : Bool} {sc : Scope} {e ea eb ec : Expr} {pos : Pos} {m ma mb mc : MW}
theorem Post.impE {r : R W} {Q Q' : W → Sto → List Addr → Hp → V → Prop} (h : Post P T K ρ H r Q) (i : ∀ w S1, r = .ok w S1 → ∀ ρ1 H1 v, Ext ρ H ρ1 H1 → SR P T K ρ1 H1 S1 → VR P T K ρ1 H1 w v → Q w S1 ρ1 H1 v → Q' w S1 ρ1 H1 v) : Post P T K ρ H r Q' := by
  cases r with
  | ok w S1 => exact fun ρ1 H1 v x s q => i _ _ rfl _ _ _ x s q (h ρ1 H1 v x s q)
  | exc _ _ _ => exact h
  | bad => exact h
theorem Post.val {r : R W} {Q : W → Sto → List Addr → Hp → V → Prop} (h : Post P T K ρ H r Q) : ∃ w S1, r = .ok w S1 := by
  cases r with
  | ok w S1 => exact ⟨w, S1, rfl⟩
  | exc _ _ _ => exact h.elim
  | bad => exact h.elim
theorem PostT.val {r : R W} {Q : Bool → Hp → Prop} (h : PostT P T K ρ H r Q) : ∃ b S1, r = .ok (.bl b) S1 := by
  unfold PostT at h
  split at h
  · exact ⟨_, _, rfl⟩
  · exact h.elim

/-! ### comparisons -/
theorem op_eq5 (hu : X.A.units + 64 < cLine) : OpR X (compareOp .Eq) (rEq5 X.K) := OpR.or op_eq (op_eqD hu)
theorem op_ne5 (hu : X.A.units + 64 < cLine) : OpR X (compareOp .NotEq) (rNe5 X.K) := OpR.or op_ne (op_neD hu)
/-- in over a list, a tuple -/
def rIn5 (K : PySem.W.Frag) (neg : Bool) : R2 := fun x y H Q => rIn K neg x y H Q ∨ (if neg then rNotInD K x y H Q else rInD K x y H Q)
theorem op_in5 (hu : X.A.units + 65 < cLine) : OpR X (compareOp .In) (rIn5 X.K false) := OpR.or op_in_seq (op_inD hu)
theorem op_notIn5 (hu : X.A.units + 65 < cLine) : OpR X (compareOp .NotIn) (rIn5 X.K true) := OpR.or op_notIn_seq (op_notInD hu)
theorem flat_ok {w : W} {v : V} (r : VR P T K ρ H w v) (f : flatW w = true) : flatV v = true := by
  cases w <;> simp [flatW] at f <;> simp only [VR] at r <;> subst r <;> rfl
theorem eqF_ok {w1 w2 : W} {v1 v2 : V} (r1 : VR P T K ρ H w1 v1) (r2 : VR P T K ρ H w2 v2) (f1 : flatW w1 = true) (f2 : flatW w2 = true) : eqV v1 v2 = eqF w1 w2 := by
  cases w1 <;> simp [flatW] at f1 <;> cases w2 <;> simp [flatW] at f2 <;> simp only [VR] at r1 r2 <;> subst r1 <;> subst r2 <;> rfl
theorem flats_ok : ∀ {ws : List W} {vs : List V}, VRs P T K ρ H ws vs → ws.all flatW = true → vs.all flatV = true
  | [], vs, h, _ => by cases VRs.nil_iff.mp h; rfl
  | w :: ws, vs, h, f => by
    simp only [VRs] at h
    obtain ⟨v, r, rfl, h1, h2⟩ := h
    simp only [List.all_cons, Bool.and_eq_true] at f ⊢
    exact ⟨flat_ok h1 f.1, flats_ok h2 f.2⟩
theorem inF_ok {w : W} {v : V} (r : VR P T K ρ H w v) (f : flatW w = true) : ∀ {ws : List W} {vs : List V}, VRs P T K ρ H ws vs → ws.all flatW = true → inV v vs = ws.any fun y => eqF y w
  | [], vs, h, _ => by cases VRs.nil_iff.mp h; rfl
  | w' :: ws, vs, h, g => by
    simp only [VRs] at h
    obtain ⟨v', r', rfl, h1, h2⟩ := h
    simp only [List.all_cons, Bool.and_eq_true] at g
    have ih := inF_ok r f h2 g.2
    unfold inV at ih ⊢
    simp only [List.any_cons]
    rw [eqF_ok h1 r g.1 f, ih]
theorem toDs_any (d : PyData) : ∀ ws : List W, ((toDs ws).any fun z => PyData.eqv z d) = ws.any fun z => PyData.eqv (toD z) d
  | [] => by simp [toDs]
  | w :: ws => by simp [toDs, toDs_any d ws]
theorem in_ok {neg : Bool} {w1 w2 : W} {v1 v2 : V} {b : Bool} {Q : VK} (s : SR P T K ρ H S) (r1 : VR P T K ρ H w1 v1) (r2 : VR P T K ρ H w2 v2) (nd : asDict S w2 = none) (e : inW S w1 w2 = some b) (q : Q (.bl (if neg then !b else b)) H) : rIn5 K neg v1 v2 H Q := by
  unfold inW at e
  rw [nd] at e
  simp only at e
  cases c : asSeq S w2 with
  | none => rw [c] at e; cases e
  | some xs =>
    rw [c] at e
    simp only at e
    split at e
    · rename_i hf
      cases e
      obtain ⟨p, vs, rfl, hsq, hl, hv⟩ := r2.seq s c
      exact .inl ⟨p, vs, rfl, hsq, flat_ok r1 hf.1, flats_ok hv hf.2, by rw [inF_ok r1 hf.1 hv hf.2]; exact q⟩
    · unfold inDeep at e
      split at e
      · rename_i x' ys ex ey
        split at e
        · rename_i hc
          obtain ⟨c1, c2, c3, c4⟩ := hc
          cases e
          have d1 := readW_ok s r1 ex c1
          have d2 := readW_ok s r2 ey (by simpa [isD] using c2)
          refine .inr ?_
          cases neg with
          | true => exact ⟨toD x', toDs ys, d1, d2, c3, c4, by rw [toDs_any]; exact q⟩
          | false => exact ⟨toD x', toDs ys, d1, d2, c3, c4, by rw [toDs_any]; exact q⟩
        · cases e
      · cases e
/-- two values reckoned, then a rule of theirs, as a value and as a truth -/
theorem s_cmp (O : XOk P T k gb N dfm sc X) {op : COp} {o : CmpOp} (ho : cmpC op o = true) (hm : behindInMarks o eb = false) (ha : PE X ea (tE P T X.K ma)) (hb : PE X eb (tE P T X.K mb)) :
    ∀ {Q : VK} {pins : List (Addr × Obj)} {s : Shared} {σ : L2.St} {env : Env}, Inv X pins σ H s → ER P T X.K ρ H env σ → SR P T X.K ρ H S →
      Post P T X.K ρ H ((ma env S).bind fun x S1 => (mb env S1).bind fun y S2 => R.of ((cmpW S2 op x y).map .bl) S2) (fun _ _ _ H' v => Q v H') →
      ∃ t, PE X (.Compare ea [o] [eb] pos) t ∧ t σ H Q ∧ PT X (.Compare ea [o] [eb] pos) (tTest t) := by
  intro Q pins s σ env I er sr q
  have hu : X.A.units + 65 < cLine := by have := O.room.un; omega
  -- the rule, by the operator and by the container
  have fin : ∀ {r : R2}, (OpR X (compareOp o) r) → (∀ w1 S1 w2 S2 ρ2 H2 v1 v2 w, ma env S = .ok w1 S1 → mb env S1 = .ok w2 S2 → SR P T X.K ρ2 H2 S2 → VR P T X.K ρ2 H2 w1 v1 → VR P T X.K ρ2 H2 w2 v2 → (cmpW S2 op w1 w2).map W.bl = some w → Ok1 P T X.K ρ2 H2 S2 w Q → r v1 v2 H2 Q) →
      ∃ t, PE X (.Compare ea [o] [eb] pos) t ∧ t σ H Q ∧ PT X (.Compare ea [o] [eb] pos) (tTest t) := by
    intro r hr hq
    refine ⟨_, pe_cmpR hr ha hb hm, ⟨ρ, env, S, er, sr, q.bind.impE fun w1 S1 e1 ρ1 H1 v1 x1 s1 r1 q1 => ?_⟩, pt_cmpR hr ha hb hm⟩
    refine ⟨ρ1, env, S1, er.mono x1, s1, q1.bind.impE fun w2 S2 e2 ρ2 H2 v2 x2 s2 r2 q2 => ?_⟩
    obtain ⟨w, hw, q⟩ := q2.of
    exact hq w1 S1 w2 S2 ρ2 H2 v1 v2 w e1 e2 s2 (r1.mono x2) r2 hw q
  have bl_of : ∀ {b : Option Bool} {w : W}, b.map W.bl = some w → ∃ c, b = some c ∧ w = .bl c := fun {b w} h => by
    cases b with
    | none => cases h
    | some c => cases h; exact ⟨c, rfl, rfl⟩
  have ins : ∀ {neg : Bool} {r0 : TE → TE → TE}, (∀ w1 w2 S2, cmpW S2 op w1 w2 = (inW S2 w1 w2).map (fun b => if neg then !b else b)) → OpR X (compareOp o) (rIn5 X.K neg) →
      (PC X o ea eb (r0 (tE P T X.K ma) (tE P T X.K mb))) → (∀ ta tb σ H Q, (ta σ H fun y H1 => tb σ H1 fun x H2 => ∃ a o, x = .ref a ∧ DGet H2 a y o ∧ Q (.bl (if neg then !o.isSome else o.isSome)) H2) → r0 ta tb σ H Q) →
      ∃ t, PE X (.Compare ea [o] [eb] pos) t ∧ t σ H Q ∧ PT X (.Compare ea [o] [eb] pos) (tTest t) := by
    intro neg r0 hop h1 h2 h3
    obtain ⟨w1, S1, e1⟩ := q.bind.val
    have q1 : Post P T X.K ρ H ((mb env S1).bind fun y S2 => R.of ((cmpW S2 op w1 y).map .bl) S2) (fun _ _ _ H' v => Q v H') := by
      have := q
      rw [e1] at this
      exact this
    obtain ⟨w2, S2, e2⟩ := q1.bind.val
    cases hd : asDict S2 w2 with
    | none =>
      refine fin h1 fun w1' S1' w2' S2' ρ2 H2 v1 v2 w f1 f2 s2 r1 r2 hw hq => ?_
      rw [e1] at f1; cases f1
      rw [e2] at f2; cases f2
      rw [hop] at hw
      obtain ⟨c, hc, rfl⟩ := bl_of hw
      cases hi : inW S2 w1 w2 with
      | none => rw [hi] at hc; cases hc
      | some b =>
        rw [hi] at hc
        cases hc
        exact in_ok s2 r1 r2 hd hi (hq.bl s2)
    | some kw =>
      obtain ⟨ks, ws⟩ := kw
      refine ⟨_, pe_cmp h2 hm, h3 _ _ _ _ _ ⟨ρ, env, S, er, sr, q.bind.impE fun w1' S1' f1 ρ1 H1 v1 x1 s1 r1 q1 => ?_⟩, ?_⟩
      · refine ⟨ρ1, env, S1', er.mono x1, s1, q1.bind.impE fun w2' S2' f2 ρ2 H2 v2 x2 s2 r2 q2 => ?_⟩
        rw [e1] at f1; cases f1
        rw [e2] at f2; cases f2
        obtain ⟨w, hw, q⟩ := q2.of
        rw [hop] at hw
        obtain ⟨c, hc, rfl⟩ := bl_of hw
        obtain ⟨p, kvs, rfl, g1, g2, g3, g4⟩ := r2.dict s2 hd
        unfold inW at hc
        rw [hd] at hc
        simp only [Option.map_map] at hc
        cases hk : keyOf w1 with
        | none => rw [hk] at hc; cases hc
        | some k0 =>
          rw [hk] at hc
          simp only [Option.map_some, Option.some.injEq, Function.comp_apply] at hc
          refine ⟨p, valV kvs k0, rfl, ?_, ?_⟩
          · rw [key_ok (r1.mono x2) hk]; exact DGet.k g1
          · rw [look_isSome g3 g4, hc]
            exact Ok1.bl q s2
      · refine ⟨fun pins s σ H Q I hw => (pt_cmp h2 hm).run pins s σ H Q I hw⟩
  cases op <;> cases o <;> first | (cases ho; done) | skip
  · refine fin (op_eq5 (by omega)) fun w1 S1 w2 S2 ρ2 H2 v1 v2 w e1 e2 s2 r1 r2 hw hq => ?_
    obtain ⟨c, hc, rfl⟩ := bl_of hw
    exact eq_ok s2 r1 r2 hc (hq.bl s2)
  · refine fin (op_ne5 (by omega)) fun w1 S1 w2 S2 ρ2 H2 v1 v2 w e1 e2 s2 r1 r2 hw hq => ?_
    obtain ⟨c, hc, rfl⟩ := bl_of hw
    simp only [cmpW] at hc
    cases hi : eqW S2 w1 w2 with
    | none => rw [hi] at hc; cases hc
    | some b => rw [hi] at hc; cases hc; exact ne_ok s2 r1 r2 hi (hq.bl s2)
  · refine fin op_lt fun w1 S1 w2 S2 ρ2 H2 v1 v2 w e1 e2 s2 r1 r2 hw hq => ?_
    obtain ⟨c, hc, rfl⟩ := bl_of hw
    cases w1 <;> cases w2 <;> simp [cmpW] at hc
    cases r1.int_inv; cases r2.int_inv; subst hc
    exact ⟨_, _, rfl, rfl, hq.bl s2⟩
  · refine fin op_le fun w1 S1 w2 S2 ρ2 H2 v1 v2 w e1 e2 s2 r1 r2 hw hq => ?_
    obtain ⟨c, hc, rfl⟩ := bl_of hw
    cases w1 <;> cases w2 <;> simp [cmpW] at hc
    cases r1.int_inv; cases r2.int_inv; subst hc
    exact ⟨_, _, rfl, rfl, hq.bl s2⟩
  · refine fin op_gt fun w1 S1 w2 S2 ρ2 H2 v1 v2 w e1 e2 s2 r1 r2 hw hq => ?_
    obtain ⟨c, hc, rfl⟩ := bl_of hw
    cases w1 <;> cases w2 <;> simp [cmpW] at hc
    cases r1.int_inv; cases r2.int_inv; subst hc
    exact ⟨_, _, rfl, rfl, hq.bl s2⟩
  · refine fin op_ge fun w1 S1 w2 S2 ρ2 H2 v1 v2 w e1 e2 s2 r1 r2 hw hq => ?_
    obtain ⟨c, hc, rfl⟩ := bl_of hw
    cases w1 <;> cases w2 <;> simp [cmpW] at hc
    cases r1.int_inv; cases r2.int_inv; subst hc
    exact ⟨_, _, rfl, rfl, hq.bl s2⟩
  · refine fin op_isN fun w1 S1 w2 S2 ρ2 H2 v1 v2 w e1 e2 s2 r1 r2 hw hq => ?_
    obtain ⟨c, hc, rfl⟩ := bl_of hw
    cases w2 <;> first | (cases w1 <;> simp [cmpW] at hc; done) | skip
    refine ⟨r2.non_inv, ?_⟩
    have : decide (v1 = V.non) = c := by
      cases w1 <;> simp [cmpW] at hc <;> subst hc <;> simp only [VR] at r1
      all_goals first | (subst r1; simp; done) | (obtain ⟨_, _, rfl, _⟩ := r1; simp; done) | (obtain ⟨_, _, _, rfl, _⟩ := r1; simp; done) | (obtain ⟨_, _, rfl⟩ := r1; simp; done)
    rw [this]
    exact hq.bl s2
  · refine fin op_notN fun w1 S1 w2 S2 ρ2 H2 v1 v2 w e1 e2 s2 r1 r2 hw hq => ?_
    obtain ⟨c, hc, rfl⟩ := bl_of hw
    cases w2 <;> first | (cases w1 <;> simp [cmpW] at hc; done) | skip
    refine ⟨r2.non_inv, ?_⟩
    have : (!decide (v1 = V.non)) = c := by
      cases w1 <;> simp [cmpW] at hc <;> subst hc <;> simp only [VR] at r1
      all_goals first | (subst r1; simp; done) | (obtain ⟨_, _, rfl, _⟩ := r1; simp; done) | (obtain ⟨_, _, _, rfl, _⟩ := r1; simp; done) | (obtain ⟨_, _, rfl⟩ := r1; simp; done)
    rw [this]
    exact hq.bl s2
  · refine ins (neg := false) (r0 := tDIn) (fun w1 w2 S2 => ?_) (op_in5 hu) (pc_din (by omega) ha hb) fun ta tb σ H Q h => h
    simp [cmpW]
  · refine ins (neg := true) (r0 := tDNotIn) (fun w1 w2 S2 => ?_) (op_notIn5 hu) (pc_dnotin (by omega) ha hb) fun ta tb σ H Q h => h
    simp [cmpW]
end
end Eng

set_option Elab.async false
set_option linter.all false
set_option maxHeartbeats 1000000
/-! E8: comparisons as values and truths; and, or, not; conditional expressions; tuples; lists; items; slices; fields. -/
namespace Eng
open PySem L2
section
variable {K : PySem.W.Frag} {P : Prog} {T : Adr} {ρ : List Addr} {H : Hp} {S : Sto} {X : Cx} {k : Nat} {N : List Str} {gb dfm : Bool} {sc : Scope} {e ea eb ec : Expr} {pos : Pos} {m ma mb mc : MW}
theorem Post.re {r : R W} {ρ1 : List Addr} {H1 : Hp} {Q : W → Sto → List Addr → Hp → V → Prop} (x : Ext ρ H ρ1 H1) (h : Post P T K ρ H r Q) : Post P T K ρ1 H1 r Q := by
  cases r with
  | ok w S1 => exact fun ρ2 H2 v x2 s q => h ρ2 H2 v (x.trans x2) s q
  | exc _ _ _ => exact h
  | bad => exact h
theorem PostT.re {r : R W} {ρ1 : List Addr} {H1 : Hp} {Q : Bool → Hp → Prop} (x : Ext ρ H ρ1 H1) (h : PostT P T K ρ H r Q) : PostT P T K ρ1 H1 r Q := by
  unfold PostT at h ⊢
  split at h
  · exact fun ρ2 H2 x2 s => h ρ2 H2 (x.trans x2) s
  · exact h.elim
abbrev cmpM (op : COp) (ma mb : MW) : MW := fun env S => (ma env S).bind fun x S1 => (mb env S1).bind fun y S2 => R.of ((cmpW S2 op x y).map .bl) S2
theorem s_cmpE (O : XOk P T k gb N dfm sc X) {op : COp} {o : CmpOp} (ho : cmpC op o = true) (hm : behindInMarks o eb = false) (ha : PE X ea (tE P T X.K ma)) (hb : PE X eb (tE P T X.K mb)) :
    PE X (.Compare ea [o] [eb] pos) (tE P T X.K (cmpM op ma mb)) := by
  refine ⟨fun pins s σ H Q I q => ?_⟩
  obtain ⟨ρ, env, S, er, sr, q⟩ := q
  obtain ⟨t, h1, h2, _⟩ := s_cmp O ho hm ha hb I er sr q
  exact h1.run pins s σ H Q I h2
theorem s_cmpT (O : XOk P T k gb N dfm sc X) {op : COp} {o : CmpOp} (ho : cmpC op o = true) (hm : behindInMarks o eb = false) (ha : PE X ea (tE P T X.K ma)) (hb : PE X eb (tE P T X.K mb)) :
    PT X (.Compare ea [o] [eb] pos) (tT P T X.K (cmpM op ma mb)) := by
  refine ⟨fun pins s σ H Q I q => ?_⟩
  obtain ⟨ρ, env, S, er, sr, q⟩ := q
  obtain ⟨t, _, h2, h3⟩ := s_cmp O ho hm ha hb I er sr (Q := fun v H' => ∃ b, v = .bl b ∧ Q b H') (q.of.imp fun w S1 ρ1 H1 v1 x1 s1 r1 ⟨b, e1, e2⟩ => by subst e1; exact ⟨b, r1.bl_inv, e2⟩)
  exact h3.run pins s σ H Q I h2
/-! ### chains of two -/
theorem s_ltle {op : COp} {o : CmpOp} (ho : cmpC op o = true) (hl : (match op with | .lt => true | .le => true | _ => false) = true) :
    ∃ f : Int → Int → Bool, (OpR X (compareOp o) (rI0 fun i j => V.bl (f i j))) ∧ ∀ S w1 w2 b, cmpW S op w1 w2 = some b → ∃ i j, w1 = .int i ∧ w2 = .int j ∧ b = f i j := by
  cases op <;> simp at hl <;> cases o <;> first | (cases ho; done) | skip
  · refine ⟨fun i j => decide (i < j), op_lt, fun S w1 w2 b h => ?_⟩
    cases w1 <;> cases w2 <;> simp [cmpW] at h
    exact ⟨_, _, rfl, rfl, h.symm⟩
  · refine ⟨fun i j => decide (i ≤ j), op_le, fun S w1 w2 b h => ?_⟩
    cases w1 <;> cases w2 <;> simp [cmpW] at h
    exact ⟨_, _, rfl, rfl, h.symm⟩
abbrev chainM (op op' : COp) (ma mb mc : MW) : MW := fun env S => (ma env S).bind fun x S1 => (mb env S1).bind fun y S2 => (R.of (cmpW S2 op x y) S2).bind fun r S3 =>
      if r = true then (mc env S3).bind fun z S4 => R.of ((cmpW S4 op' y z).map .bl) S4 else .ok (.bl false) S3
theorem chain_read {op op' : COp} {o o' : CmpOp} (ho : cmpC op o = true) (ho' : cmpC op' o' = true) (hl : (match op with | .lt => true | .le => true | _ => false) = true) (hl' : (match op' with | .lt => true | .le => true | _ => false) = true)
    {σ : L2.St} {Q : VK} {env : Env} (er : ER P T X.K ρ H env σ) (sr : SR P T X.K ρ H S) (q : Post P T X.K ρ H (chainM op op' ma mb mc env S) fun _ _ _ H' v => Q v H') :
    ∃ r r', OpR X (compareOp o) r ∧ OpR X (compareOp o') r' ∧ tChain r r' (tE P T X.K ma) (tE P T X.K mb) (tE P T X.K mc) σ H Q := by
  obtain ⟨f, hf, hf2⟩ := s_ltle (X := X) ho hl
  obtain ⟨g, hg, hg2⟩ := s_ltle (X := X) ho' hl'
  refine ⟨_, _, hf, hg, ρ, env, S, er, sr, q.bind.imp fun w1 S1 ρ1 H1 v1 x1 s1 r1 q1 => ⟨ρ1, env, S1, er.mono x1, s1, q1.bind.imp fun w2 S2 ρ2 H2 v2 x2 s2 r2 q2 => ?_⟩⟩
  cases hc : cmpW S2 op w1 w2 with
  | none => rw [hc] at q2; exact q2.elim
  | some b =>
    rw [hc] at q2
    obtain ⟨i, j, rfl, rfl, rfl⟩ := hf2 _ _ _ _ hc
    cases (r1.mono x2).int_inv
    cases r2.int_inv
    refine ⟨i, j, rfl, rfl, _, rfl, ?_⟩
    simp only [R.of, R.bind] at q2
    split at q2
    · rename_i ht
      rw [if_pos ht]
      refine ⟨ρ2, env, S2, (er.mono x1).mono x2, s2, q2.bind.imp fun w3 S3 ρ3 H3 v3 x3 s3 r3 q3 => ?_⟩
      obtain ⟨w, hw, q4⟩ := q3.of
      cases hd : cmpW S3 op' (W.int j) w3 with
      | none => rw [hd] at hw; cases hw
      | some c =>
        rw [hd] at hw; cases hw
        obtain ⟨i', j', e1, rfl, rfl⟩ := hg2 _ _ _ _ hd
        cases e1
        cases r3.int_inv
        exact ⟨_, _, rfl, rfl, Ok1.bl q4 s3⟩
    · rename_i ht
      rw [if_neg ht]
      exact Ok1.bl q2 s2
theorem marks2 {op' : COp} {o o' : CmpOp} (ho' : cmpC op' o' = true) (hl' : (match op' with | .lt => true | .le => true | _ => false) = true) : lastMarks [o, o'] [eb, ec] = false := by
  show behindInMarks o' ec = false
  refine nobehind ec ?_ ?_ <;> cases op' <;> simp at hl' <;> cases o' <;> first | (cases ho'; done) | decide
theorem s_chainE {op op' : COp} {o o' : CmpOp} (ho : cmpC op o = true) (ho' : cmpC op' o' = true) (hl : (match op with | .lt => true | .le => true | _ => false) = true) (hl' : (match op' with | .lt => true | .le => true | _ => false) = true)
    (ha : PE X ea (tE P T X.K ma)) (hb : PE X eb (tE P T X.K mb)) (hc : PE X ec (tE P T X.K mc)) : PE X (.Compare ea [o, o'] [eb, ec] pos) (tE P T X.K (chainM op op' ma mb mc)) := by
  refine ⟨fun pins s σ H Q I q => ?_⟩
  obtain ⟨ρ, env, S, er, sr, q⟩ := q
  obtain ⟨r, r', h1, h2, h3⟩ := chain_read ho ho' hl hl' er sr q
  exact (pe_chain h1 h2 ha hb hc (marks2 ho' hl')).run pins s σ H Q I h3
theorem s_chainT {op op' : COp} {o o' : CmpOp} (ho : cmpC op o = true) (ho' : cmpC op' o' = true) (hl : (match op with | .lt => true | .le => true | _ => false) = true) (hl' : (match op' with | .lt => true | .le => true | _ => false) = true)
    (ha : PE X ea (tE P T X.K ma)) (hb : PE X eb (tE P T X.K mb)) (hc : PE X ec (tE P T X.K mc)) : PT X (.Compare ea [o, o'] [eb, ec] pos) (tT P T X.K (chainM op op' ma mb mc)) := by
  refine ⟨fun pins s σ H Q I q => ?_⟩
  obtain ⟨ρ, env, S, er, sr, q⟩ := q
  obtain ⟨r, r', h1, h2, h3⟩ := chain_read ho ho' hl hl' er sr (Q := fun v H' => ∃ b, v = .bl b ∧ Q b H') (q.of.imp fun w S1 ρ1 H1 v1 x1 s1 r1 ⟨b, e1, e2⟩ => by subst e1; exact ⟨b, r1.bl_inv, e2⟩)
  exact (pt_chain h1 h2 ha hb hc (marks2 ho' hl')).run pins s σ H Q I h3
/-! ### and, or, not -/
abbrev andM (ma mb : MW) : MW := fun env S => (ma env S).bind fun x S1 => match x with | .bl true => mb env S1 | .bl false => .ok (.bl false) S1 | _ => .bad
abbrev orM (ma mb : MW) : MW := fun env S => (ma env S).bind fun x S1 => match x with | .bl true => .ok (.bl true) S1 | .bl false => mb env S1 | _ => .bad
abbrev notM (ma : MW) : MW := fun env S => (ma env S).bind fun x S1 => match x with | .bl b => .ok (.bl (!b)) S1 | _ => .bad
abbrev iteM (mc ma mb : MW) : MW := fun env S => (mc env S).bind fun x S1 => match x with | .bl true => ma env S1 | .bl false => mb env S1 | _ => .bad
variable {rest : List Expr}
theorem s_and (ha : PE X ea (tE P T X.K ma)) (hb : PE X (.BoolOp .And (eb :: rest) pos) (tE P T X.K mb)) : PE X (.BoolOp .And (ea :: eb :: rest) pos) (tE P T X.K (andM ma mb)) := by
  refine ⟨fun pins s σ H Q I q => ?_⟩
  obtain ⟨ρ, env, S, er, sr, q⟩ := q
  refine (pe_and ha hb).run pins s σ H Q I ⟨ρ, env, S, er, sr, q.bind.imp fun w1 S1 ρ1 H1 v1 x1 s1 r1 q1 => ?_⟩
  cases w1 <;> first | (exact q1.elim; done) | skip
  rename_i b
  refine ⟨b, r1.bl_inv, ?_⟩
  cases b with
  | true => rw [if_pos rfl]; exact ⟨ρ1, env, S1, er.mono x1, s1, q1⟩
  | false => rw [if_neg (by decide)]; exact Ok1.bl q1 s1
theorem s_or (ha : PE X ea (tE P T X.K ma)) (hb : PE X (.BoolOp .Or (eb :: rest) pos) (tE P T X.K mb)) : PE X (.BoolOp .Or (ea :: eb :: rest) pos) (tE P T X.K (orM ma mb)) := by
  refine ⟨fun pins s σ H Q I q => ?_⟩
  obtain ⟨ρ, env, S, er, sr, q⟩ := q
  refine (pe_or ha hb).run pins s σ H Q I ⟨ρ, env, S, er, sr, q.bind.imp fun w1 S1 ρ1 H1 v1 x1 s1 r1 q1 => ?_⟩
  cases w1 <;> first | (exact q1.elim; done) | skip
  rename_i b
  refine ⟨b, r1.bl_inv, ?_⟩
  cases b with
  | true => rw [if_pos rfl]; exact Ok1.bl q1 s1
  | false => rw [if_neg (by decide)]; exact ⟨ρ1, env, S1, er.mono x1, s1, q1⟩
theorem s_not (ha : PE X ea (tE P T X.K ma)) : PE X (.UnaryOp .Not ea pos) (tE P T X.K (notM ma)) := by
  refine ⟨fun pins s σ H Q I q => ?_⟩
  obtain ⟨ρ, env, S, er, sr, q⟩ := q
  refine (pe_not ha).run pins s σ H Q I ⟨ρ, env, S, er, sr, q.bind.imp fun w1 S1 ρ1 H1 v1 x1 s1 r1 q1 => ?_⟩
  cases w1 <;> first | (exact q1.elim; done) | skip
  exact ⟨_, r1.bl_inv, Ok1.bl q1 s1⟩
/-- a truth, then what hangs on it -/
theorem tT.bind {Q : Bool → Hp → Prop} {f : W → Sto → R W} {r : R W} (q : PostT P T K ρ H (r.bind f) Q)
    (nb : ∀ w S1, (∀ b, w ≠ .bl b) → f w S1 = .bad) {R' : Bool → Hp → Prop} (h : ∀ b S1 ρ1 H1, Ext ρ H ρ1 H1 → SR P T K ρ1 H1 S1 → PostT P T K ρ1 H1 (f (.bl b) S1) Q → R' b H1) : PostT P T K ρ H r R' := by
  cases r with
  | ok w S1 =>
    simp only [R.bind] at q
    cases w with
    | bl b => exact fun ρ1 H1 x1 s1 => h b S1 ρ1 H1 x1 s1 (q.re x1)
    | _ =>
      rw [nb _ _ (by intro b z; cases z)] at q
      exact q.elim
  | exc _ _ _ => exact q.elim
  | bad => exact q.elim
theorem s_andT (ha : PT X ea (tT P T X.K ma)) (hb : PW X (.BoolOp .And (eb :: rest) pos) (tT P T X.K mb)) : PW X (.BoolOp .And (ea :: eb :: rest) pos) (tT P T X.K (andM ma mb)) := by
  refine ⟨fun wh pins s σ H Q I q => ?_⟩
  obtain ⟨ρ, env, S, er, sr, q⟩ := q
  refine (pw_and ha hb).run wh pins s σ H Q I ⟨ρ, env, S, er, sr, tT.bind q ?_ fun b S1 ρ1 H1 x1 s1 q1 => ?_⟩
  · intro w S1 h; cases w <;> first | rfl | exact absurd rfl (h _)
  · cases b with
    | true => rw [if_pos rfl]; exact ⟨ρ1, env, S1, er.mono x1, s1, q1⟩
    | false => rw [if_neg (by decide)]; exact q1 ρ1 H1 Ext.refl s1
theorem s_orT (ha : PT X ea (tT P T X.K ma)) (hb : PW X (.BoolOp .Or (eb :: rest) pos) (tT P T X.K mb)) : PW X (.BoolOp .Or (ea :: eb :: rest) pos) (tT P T X.K (orM ma mb)) := by
  refine ⟨fun wh pins s σ H Q I q => ?_⟩
  obtain ⟨ρ, env, S, er, sr, q⟩ := q
  refine (pw_or ha hb).run wh pins s σ H Q I ⟨ρ, env, S, er, sr, tT.bind q ?_ fun b S1 ρ1 H1 x1 s1 q1 => ?_⟩
  · intro w S1 h; cases w <;> first | rfl | exact absurd rfl (h _)
  · cases b with
    | true => rw [if_pos rfl]; exact q1 ρ1 H1 Ext.refl s1
    | false => rw [if_neg (by decide)]; exact ⟨ρ1, env, S1, er.mono x1, s1, q1⟩
theorem s_notT (ha : PT X ea (tT P T X.K ma)) : PT X (.UnaryOp .Not ea pos) (tT P T X.K (notM ma)) := by
  refine ⟨fun pins s σ H Q I q => ?_⟩
  obtain ⟨ρ, env, S, er, sr, q⟩ := q
  refine (pt_not ha).run pins s σ H Q I ⟨ρ, env, S, er, sr, tT.bind q ?_ fun b S1 ρ1 H1 x1 s1 q1 => q1 ρ1 H1 Ext.refl s1⟩
  intro w S1 h; cases w <;> first | rfl | exact absurd rfl (h _)
theorem s_ite (hc : PT X ec (tT P T X.K mc)) (ha : PE X ea (tE P T X.K ma)) (hb : PE X eb (tE P T X.K mb)) : PE X (.IfExp ec ea eb pos) (tE P T X.K (iteM mc ma mb)) := by
  refine ⟨fun pins s σ H Q I q => ?_⟩
  obtain ⟨ρ, env, S, er, sr, q⟩ := q
  refine (pe_ifExp hc ha hb).run pins s σ H Q I ⟨ρ, env, S, er, sr, ?_⟩
  unfold iteM at q
  generalize mc env S = r at q
  cases r with
  | ok w S1 =>
    simp only [R.bind] at q
    cases w with
    | bl b =>
      intro ρ1 H1 x1 s1
      cases b with
      | true => exact iteT ⟨ρ1, env, S1, er.mono x1, s1, q.re x1⟩
      | false => exact iteF ⟨ρ1, env, S1, er.mono x1, s1, q.re x1⟩
    | _ => exact q.elim
  | exc _ _ _ => exact q.elim
  | bad => exact q.elim
/-! ### argument lists, tuples, lists -/
variable {es : List Expr} {ms : Env → Sto → R (List W)}
theorem s_nil : PA X [] (tEs P T X.K fun _ S => .ok [] S) := by
  refine ⟨fun pos pins s σ H Q I q => ?_⟩
  obtain ⟨ρ, env, S, er, sr, q⟩ := q
  exact pa_nil.run pos pins s σ H Q I (q ρ H [] Ext.refl sr VRs.nil)
theorem PostL.consBind {K : PySem.W.Frag} {r : R (List W)} {w : W} {v : V} {Q : List W → Sto → List Addr → Hp → List V → Prop} (h : PostL P T K ρ H (r.bind fun ws S2 => .ok (w :: ws) S2) Q) (rv : VR P T K ρ H w v) :
    PostL P T K ρ H r fun ws S2 ρ2 H2 vs => Q (w :: ws) S2 ρ2 H2 (v :: vs) := by
  cases r with
  | ok ws S1 => exact fun ρ1 H1 vs x s q => h ρ1 H1 (v :: vs) x s (VRs.cons (rv.mono x) q)
  | exc _ _ _ => exact h
  | bad => exact h
theorem s_cons (hs : starEach (ea :: es) X.env = (false, eval ea X.env) :: starEach es X.env) (ha : PE X ea (tE P T X.K ma)) (hes : PA X es (tEs P T X.K ms)) :
    PA X (ea :: es) (tEs P T X.K fun env S => (ma env S).bind fun w S1 => (ms env S1).bind fun ws S2 => .ok (w :: ws) S2) := by
  refine ⟨fun pos pins s σ H Q I q => ?_⟩
  obtain ⟨ρ, env, S, er, sr, q⟩ := q
  refine (pa_cons ha hes hs).run pos pins s σ H Q I ⟨ρ, env, S, er, sr, (Post.bindL q).imp fun w1 S1 ρ1 H1 v1 x1 s1 r1 q1 => ?_⟩
  exact ⟨ρ1, env, S1, er.mono x1, s1, q1.consBind r1⟩
theorem s_tup {x1 : Nat} (h : PA X es (tEs P T X.K ms)) : PE X (.Tuple es x1 pos) (tE P T X.K fun env S => (ms env S).bind fun ws S1 => if ws.length ≤ sizeLine then .ok (.tup ws) S1 else .bad) := by
  refine ⟨fun pins s σ H Q I q => ?_⟩
  obtain ⟨ρ, env, S, er, sr, q⟩ := q
  refine (pe_tup h).run pins s σ H Q I ⟨ρ, env, S, er, sr, (PostL.bind q).imp fun ws S1 ρ1 H1 vs x1 s1 r1 q1 => ?_⟩
  split at q1
  · rename_i hl
    have hl' : vs.length ≤ sizeLine := by rw [← r1.len]; exact hl
    exact ⟨hl', fun p hp => Ok1.tup q1 s1 r1 hl' hp⟩
  · exact q1.elim
/-! ### lists -/
theorem PostF.exc {c : Nat} {w : W} {S : Sto} {Q : List W → Sto → List Addr → Hp → Addr → List V → Prop} (h : PostF P T K ρ H (.exc c w S) Q) : False := h
theorem PostF.bad {Q : List W → Sto → List Addr → Hp → Addr → List V → Prop} (h : PostF P T K ρ H .bad Q) : False := h
theorem PostF.ite {p : Prop} [Decidable p] {ws : List W} {S : Sto} {Q : List W → Sto → List Addr → Hp → Addr → List V → Prop} (h : PostF P T K ρ H (if p then .ok ws S else .bad) Q) : p ∧ PostF P T K ρ H (.ok ws S) Q := by
  by_cases hp : p
  · rw [if_pos hp] at h; exact ⟨hp, h⟩
  · rw [if_neg hp] at h; exact h.bad.elim
theorem s_disp (h : PA X es (tEs P T X.K ms)) : PE X (.List es pos) (tF P T X.K fun env S => (ms env S).bind fun ws S1 => if ws.length ≤ sizeLine then .ok ws S1 else .bad) := by
  refine ⟨fun pins s σ H Q I q => ?_⟩
  obtain ⟨ρ, env, S, er, sr, q⟩ := q
  refine (pe_lst h).run pins s σ H Q I ⟨ρ, env, S, er, sr, ?_⟩
  dsimp only at q
  generalize ms env S = r at q
  cases r with
  | ok ws S1 =>
    obtain ⟨hl, q⟩ := PostF.ite (p := ws.length ≤ sizeLine) q
    intro ρ1 H1 vs x1 s1 r1
    have hl' : vs.length ≤ sizeLine := by rw [← r1.len]; exact hl
    exact ⟨hl', fun p hp => q ρ1 H1 p vs x1 s1 r1 hl' hp⟩
  | exc _ _ _ => exact (PostF.exc q).elim
  | bad => exact (PostF.bad q).elim
end
end Eng

set_option Elab.async false
set_option linter.all false
set_option maxHeartbeats 1000000
/-! E9: lists made, slices, items, fields. -/
namespace Eng
open PySem L2
section
variable {K : PySem.W.Frag} {P : Prog} {T : Adr} {ρ : List Addr} {H : Hp} {S : Sto} {X : Cx} {k : Nat} {N : List Str} {gb dfm : Bool} {sc : Scope} {e ea eb ec : Expr} {pos p2 p3 : Pos} {m ma mb mc : MW} {ml : Env → Sto → R (List W)}
/-! ### a new list as a value, in the store -/
theorem s_lst (h : PE X e (tF P T X.K ml)) : PE X e (tE P T X.K fun env S => (ml env S).bind fun ws S1 => .ok (.lst ws) S1) := by
  refine ⟨fun pins s σ H Q I q => ?_⟩
  obtain ⟨ρ, env, S, er, sr, q⟩ := q
  refine h.run pins s σ H Q I ⟨ρ, env, S, er, sr, ?_⟩
  dsimp only at q
  generalize ml env S = r at q
  cases r with
  | ok ws S1 =>
    intro ρ1 H0 p vs x1 s1 r1 hl hp
    refine q ρ1 _ _ (x1.trans (Ext.fresh s1 hp)) (s1.new hp) ?_
    simp only [VR]
    exact ⟨p, vs, rfl, upd_same, s1.fresh hp, hl, r1.mono (Ext.fresh s1 hp)⟩
  | exc _ _ _ => exact False.elim q
  | bad => exact False.elim q
theorem keep_upd {H : Hp} {p : Addr} {o : HO} (hp : H p = none) : ∀ q u, H q = some u → upd H p o q = some u := fun q u e => by rw [upd_ne (ne_of_none e hp)]; exact e
theorem s_alloc (h : PE X e (tF P T X.K ml)) : PE X e (tE P T X.K fun env S => (ml env S).bind fun ws S1 => .ok (.ref S1.length) (S1 ++ [.lst ws])) := by
  refine ⟨fun pins s σ H Q I q => ?_⟩
  obtain ⟨ρ, env, S, er, sr, q⟩ := q
  refine h.run pins s σ H Q I ⟨ρ, env, S, er, sr, ?_⟩
  dsimp only at q
  generalize ml env S = r at q
  cases r with
  | ok ws S1 =>
    intro ρ1 H0 p vs x1 s1 r1 hl hp
    have x2 : Ext ρ1 H0 (ρ1 ++ [p]) (upd H0 p (.lst vs)) := Ext.push (keep_upd hp) hp
    refine q (ρ1 ++ [p]) _ _ (x1.trans x2) (s1.push (keep_upd hp) hp ⟨vs, upd_same, hl, r1.mono x2⟩) ?_
    simp only [VR]
    exact ⟨p, by rw [← s1.len, List.getElem?_append_right (Nat.le_refl _)]; simp, rfl⟩
  | exc _ _ _ => exact False.elim q
  | bad => exact False.elim q
theorem PostF.bind {r : R W} {f : W → Sto → R (List W)} {Q : List W → Sto → List Addr → Hp → Addr → List V → Prop} (h : PostF P T K ρ H (r.bind f) Q) : Post P T K ρ H r fun w S1 ρ1 H1 _ => PostF P T K ρ1 H1 (f w S1) Q := by
  cases r with
  | ok w S1 =>
    intro ρ1 H1 v x s _
    simp only [R.bind] at h
    unfold PostF at h ⊢
    split at h
    · exact fun ρ2 H2 v2 p2 x2 s2 q2 => h ρ2 H2 v2 p2 (x.trans x2) s2 q2
    · exact h.elim
  | exc _ _ _ => exact False.elim h
  | bad => exact False.elim h
theorem PostF.of {o : Option (List W)} {S : Sto} {Q : List W → Sto → List Addr → Hp → Addr → List V → Prop} (h : PostF P T K ρ H (R.of o S) Q) : ∃ ws, o = some ws ∧ PostF P T K ρ H (.ok ws S) Q := by
  cases o with
  | none => exact False.elim h
  | some ws => exact ⟨ws, rfl, h⟩
/-- list(a) -/
theorem s_copy (O : XOk P T k gb N dfm sc X) {q0 : Pos} (hg : glbC sc "list" = true) (hs : starEach [ea] X.env = (false, eval ea X.env) :: starEach [] X.env) (ha : PE X ea (tE P T X.K ma)) :
    PE X (.Call (.Name "list" q0) [ea] [] pos) (tF P T X.K fun env S => (ma env S).bind fun x S1 => R.of (asSeq S1 x) S1) := by
  refine ⟨fun pins s σ H Q I q => ?_⟩
  obtain ⟨ρ, env, S, er, sr, q⟩ := q
  refine (pe_callTy call_list_of (gl_of hg O.sc) (O.F.blt _ (by decide +kernel)) (by decide +kernel) (pa_cons ha pa_nil hs) (by decide) (by decide) hs rfl).run pins s σ H Q I
    ⟨ρ, env, S, er, sr, (PostF.bind q).imp fun w1 S1 ρ1 H1 v1 x1 s1 r1 q1 => ?_⟩
  obtain ⟨ws, hw, q2⟩ := q1.of
  obtain ⟨p, vs, rfl, hsq, hl, hv⟩ := r1.seq s1 hw
  exact ⟨p, vs, rfl, hsq, fun l hl' => q2 ρ1 H1 l vs Ext.refl s1 hv hl hl'⟩
/-- a + b of lists -/
theorem asLst_H {w : W} {ws : List W} {v : V} (h : VR P T K ρ H w v) (s : SR P T K ρ H S) (e : asLst S w = some ws) : ∃ p vs, v = .ref p ∧ H p = some (.lst vs) ∧ vs.length ≤ sizeLine ∧ VRs P T K ρ H ws vs := by
  cases w with
  | lst xs =>
    simp only [asLst, Option.some.injEq] at e; subst e
    simp only [VR] at h
    obtain ⟨p, vs, rfl, h1, _, hl, h2⟩ := h
    exact ⟨p, vs, rfl, h1, hl, h2⟩
  | ref l =>
    simp only [asLst] at e
    simp only [VR] at h
    obtain ⟨a, h1, rfl⟩ := h
    cases q : S[l]? with
    | none => rw [q] at e; cases e
    | some o =>
      rw [q] at e
      cases o with
      | lst xs =>
        cases e
        obtain ⟨vs, g1, g2, g3⟩ := s.ob l a _ h1 q
        exact ⟨a, vs, rfl, g1, g2, g3⟩
      | ins _ _ _ => cases e
      | dK _ _ => cases e
  | _ => simp [asLst] at e
theorem s_cat (ha : PE X ea (tE P T X.K ma)) (hb : PE X eb (tE P T X.K mb)) : PE X (.BinOp ea .Add eb pos) (tF P T X.K fun env S => (ma env S).bind fun x S1 => (mb env S1).bind fun y S2 => match asLst S2 x, asLst S2 y with
      | some xs, some ys => if xs.length + ys.length ≤ sizeLine then .ok (xs ++ ys) S2 else .bad
      | _, _ => .bad) := by
  refine ⟨fun pins s σ H Q I q => ?_⟩
  obtain ⟨ρ, env, S, er, sr, q⟩ := q
  refine (pe_op op_cat ha hb).run pins s σ H Q I ⟨ρ, env, S, er, sr, (PostF.bind q).imp fun w1 S1 ρ1 H1 v1 x1 s1 r1 q1 => ?_⟩
  refine ⟨ρ1, env, S1, er.mono x1, s1, (PostF.bind q1).imp fun w2 S2 ρ2 H2 v2 x2 s2 r2 q2 => ?_⟩
  cases c1 : asLst S2 w1 with
  | none => rw [c1] at q2; exact False.elim q2
  | some xs =>
    cases c2 : asLst S2 w2 with
    | none => rw [c1, c2] at q2; exact False.elim q2
    | some ys =>
      rw [c1, c2] at q2
      obtain ⟨hl, q3⟩ := PostF.ite (p := xs.length + ys.length ≤ sizeLine) q2
      obtain ⟨a, vs, rfl, g1, l1, y1⟩ := asLst_H (r1.mono x2) s2 c1
      obtain ⟨b, us, rfl, g2, l2, y2⟩ := asLst_H r2 s2 c2
      have e1 := y1.len
      have e2 := y2.len
      exact ⟨a, b, vs, us, rfl, rfl, g1, g2, by omega, fun p hp => q3 ρ2 H2 p (vs ++ us) Ext.refl s2 (y1.app y2) (by rw [List.length_append]; omega) hp⟩
/-! ### slices -/
/-- a part of a slice -/
def tO (P : Prog) (T : Adr) (K : PySem.W.Frag) (mo : Env → Sto → R (Option Int)) : TO := fun σ H Q => ∃ ρ env S, ER P T K ρ H env σ ∧ SR P T K ρ H S ∧ PostA P T K ρ H (mo env S) fun o _ _ H' => Q o H'
theorem s_onone : PO X none (tO P T X.K fun _ S => .ok none S) := by
  refine ⟨fun pins s σ H Q I q => ?_⟩
  obtain ⟨ρ, env, S, er, sr, q⟩ := q
  exact po_none.run pins s σ H Q I (q ρ H Ext.refl sr)
theorem s_osome (ha : PE X ea (tE P T X.K ma)) : PO X (some ea) (tO P T X.K fun env S => (ma env S).bind toI) := by
  refine ⟨fun pins s σ H Q I q => ?_⟩
  obtain ⟨ρ, env, S, er, sr, q⟩ := q
  refine (po_some ha).run pins s σ H Q I ⟨ρ, env, S, er, sr, (Post.bindA q).imp fun w1 S1 ρ1 H1 v1 x1 s1 r1 q1 => ?_⟩
  cases w1 <;> first | (exact False.elim q1; done) | skip
  exact ⟨_, r1.int_inv, q1 ρ1 H1 Ext.refl s1⟩
theorem VRs.cut {ws : List W} {vs : List V} (h : VRs P T K ρ H ws vs) (lo hi : Option Int) : VRs P T K ρ H (Eng.cut ws lo hi) (cutV vs lo hi) := by
  unfold Eng.cut cutV
  rw [h.len]
  exact (h.drop _).take _
variable {mo mo' : Env → Sto → R (Option Int)} {el eh : Option Expr}
theorem PostA.bindF {r : R (Option Int)} {f : Option Int → Sto → R (List W)} {Q : List W → Sto → List Addr → Hp → Addr → List V → Prop} (h : PostF P T K ρ H (r.bind f) Q) : PostA P T K ρ H r fun w S1 ρ1 H1 => PostF P T K ρ1 H1 (f w S1) Q := by
  cases r with
  | ok w S1 =>
    intro ρ1 H1 x s
    simp only [R.bind] at h
    unfold PostF at h ⊢
    split at h
    · exact fun ρ2 H2 v2 p2 x2 s2 q2 => h ρ2 H2 v2 p2 (x.trans x2) s2 q2
    · exact h.elim
  | exc _ _ _ => exact False.elim h
  | bad => exact False.elim h
theorem s_sll (ha : PE X ea (tE P T X.K ma)) (hl : PO X el (tO P T X.K mo)) (hh : PO X eh (tO P T X.K mo')) :
    PE X (.Subscript ea (.Slice el eh none p2) pos) (tF P T X.K fun env S => (ma env S).bind fun x S1 => (mo env S1).bind fun l S2 => (mo' env S2).bind fun h S3 => match asList S3 x with
      | some xs => .ok (cut xs l h) S3
      | none => .bad) := by
  refine ⟨fun pins s σ H Q I q => ?_⟩
  obtain ⟨ρ, env, S, er, sr, q⟩ := q
  refine (pe_slice sl_list ha hl hh).run pins s σ H Q I ⟨ρ, env, S, er, sr, (PostF.bind q).imp fun w1 S1 ρ1 H1 v1 x1 s1 r1 q1 => ?_⟩
  refine ⟨ρ1, env, S1, er.mono x1, s1, (PostA.bindF q1).imp fun l S2 ρ2 H2 x2 s2 q2 => ?_⟩
  refine ⟨ρ2, env, S2, (er.mono x1).mono x2, s2, (PostA.bindF q2).imp fun h S3 ρ3 H3 x3 s3 q3 => ?_⟩
  cases c : asList S3 w1 with
  | none => rw [c] at q3; exact False.elim q3
  | some xs =>
    rw [c] at q3
    obtain ⟨p, vs, rfl, hsq, hlen, hv⟩ := ((r1.mono x2).mono x3).list s3 c
    exact ⟨p, vs, rfl, hsq, fun l' hl' => q3 ρ3 H3 l' _ Ext.refl s3 (hv.cut l h) (Nat.le_trans (cutV_length _ _ _) hlen) hl'⟩
theorem s_slt (ha : PE X ea (tE P T X.K ma)) (hl : PO X el (tO P T X.K mo)) (hh : PO X eh (tO P T X.K mo')) :
    PE X (.Subscript ea (.Slice el eh none p2) pos) (tE P T X.K fun env S => (ma env S).bind fun x S1 => (mo env S1).bind fun l S2 => (mo' env S2).bind fun h S3 => match x with
      | .tup xs => .ok (.tup (cut xs l h)) S3
      | _ => .bad) := by
  refine ⟨fun pins s σ H Q I q => ?_⟩
  obtain ⟨ρ, env, S, er, sr, q⟩ := q
  refine (pe_slice sl_tupA ha hl hh).run pins s σ H Q I ⟨ρ, env, S, er, sr, (Post.bind q).imp fun w1 S1 ρ1 H1 v1 x1 s1 r1 q1 => ?_⟩
  refine ⟨ρ1, env, S1, er.mono x1, s1, (PostA.bind q1).imp fun l S2 ρ2 H2 x2 s2 q2 => ?_⟩
  refine ⟨ρ2, env, S2, (er.mono x1).mono x2, s2, (PostA.bind q2).imp fun h S3 ρ3 H3 x3 s3 q3 => ?_⟩
  cases w1 <;> first | (exact False.elim q3; done) | skip
  rename_i wsT
  have r3 := (r1.mono x2).mono x3
  obtain ⟨p, vs, rfl, hsq, hlen, hv⟩ := r3.tup_inv
  refine ⟨p, vs, rfl, hsq, fun hw => ?_, fun _ l' hl' => ?_⟩
  · refine q3 ρ3 H3 _ Ext.refl s3 ?_
    have e := hv.len
    have : cut wsT l h = wsT := by
      unfold cut
      rw [e, hw.1, hw.2]
      simp
      rw [← e]
      exact List.take_length
    rw [this]
    exact r3
  · exact Ok1.tup q3 s3 (hv.cut l h) (Nat.le_trans (cutV_length _ _ _) hlen) hl'
/-! ### items -/
theorem atI_ok {ws : List W} {vs : List V} {i : Int} {w : W} (h : VRs P T K ρ H ws vs) (e : atI ws i = some w) : ∃ v, atI vs i = some v ∧ VR P T K ρ H w v := by
  unfold atI at e ⊢
  rw [← h.len]
  cases c : ixN ws.length i with
  | none => rw [c] at e; cases e
  | some j =>
    rw [c] at e
    exact h.get e
theorem s_idx (O : XOk P T k gb N dfm sc X) (hs : ∀ o i, subscripted eb false o i = operate [o, i] (getItem o i)) (ha : PE X ea (tE P T X.K ma)) (hb : PE X eb (tE P T X.K mb)) :
    PE X (.Subscript ea eb pos) (tE P T X.K fun env S => (ma env S).bind fun x S1 => (mb env S1).bind fun y S2 => R.of (idxW S2 x y) S2) := by
  refine ⟨fun pins s σ H Q I q => ?_⟩
  obtain ⟨ρ, env, S, er, sr, q⟩ := q
  have hu : X.A.units + 1 < cLine := hu_of O.room
  have q0 := q
  dsimp only at q0
  obtain ⟨w1, S1, e1⟩ := (Post.bind q0).val
  rw [e1] at q0
  simp only [R.bind] at q0
  obtain ⟨w2, S2, e2⟩ := (Post.bind (r := mb env S1) (f := fun y S2 => R.of (idxW S2 w1 y) S2) q0).val
  cases hd : asDict S2 w1 with
  | some kw =>
    obtain ⟨ks, ws⟩ := kw
    refine (pe_dget hu ha hb hs).run pins s σ H Q I ⟨ρ, env, S, er, sr, (Post.bind q).impE fun w1' S1' f1 ρ1 H1 v1 x1 s1 r1 q1 => ?_⟩
    refine ⟨ρ1, env, S1', er.mono x1, s1, (Post.bind q1).impE fun w2' S2' f2 ρ2 H2 v2 x2 s2 r2 q2 => ?_⟩
    rw [e1] at f1; cases f1
    rw [e2] at f2; cases f2
    obtain ⟨w, hw, q3⟩ := q2.of
    unfold idxW at hw
    rw [hd] at hw
    simp only at hw
    cases hk : keyOf w2 with
    | none => rw [hk] at hw; cases hw
    | some k0 =>
      rw [hk] at hw
      obtain ⟨p, kvs, rfl, g1, g2, g3, g4⟩ := (r1.mono x2).dict s2 hd
      obtain ⟨v, h1, h2⟩ := look_some g3 g4 hw
      refine ⟨p, v, rfl, ?_, Ok1.here q3 s2 h2⟩
      rw [key_ok r2 hk, ← h1]
      exact DGet.k g1
  | none =>
    refine (pe_ix (IxR.or ix_list ix_tup) ha hb hs).run pins s σ H Q I ⟨ρ, env, S, er, sr, (Post.bind q).impE fun w1' S1' f1 ρ1 H1 v1 x1 s1 r1 q1 => ?_⟩
    refine ⟨ρ1, env, S1', er.mono x1, s1, (Post.bind q1).impE fun w2' S2' f2 ρ2 H2 v2 x2 s2 r2 q2 => ?_⟩
    rw [e1] at f1; cases f1
    rw [e2] at f2; cases f2
    obtain ⟨w, hw, q3⟩ := q2.of
    unfold idxW at hw
    rw [hd] at hw
    simp only at hw
    cases c : asSeq S2 w1 with
    | none => rw [c] at hw; cases hw
    | some xs =>
      rw [c] at hw
      cases w2 <;> first | (cases hw; done) | skip
      cases r2.int_inv
      obtain ⟨p, vs, rfl, hsq, hl, hv⟩ := (r1.mono x2).seq s2 c
      obtain ⟨v, h1, h2⟩ := atI_ok hv hw
      rcases hsq with z | z
      · exact .inl ⟨p, vs, _, v, rfl, rfl, z, h1, Ok1.here q3 s2 h2⟩
      · exact .inr ⟨p, vs, _, v, rfl, rfl, z, h1, Ok1.here q3 s2 h2⟩
/-! ### fields -/
theorem supBase {o : Expr} {a : Str} {env : PySem.Env} (h : noSup o = true) : ∀ whole, attributeBase o a env whole = whole := by
  intro whole
  unfold attributeBase
  cases o with
  | Call f args kws pos =>
    cases f with
    | Name id p =>
      cases args with
      | nil =>
        cases kws with
        | nil => simp [noSup] at h
        | cons _ _ => rfl
      | cons _ _ => rfl
    | _ => rfl
  | _ => rfl
theorem s_fld (O : XOk P T k gb N dfm sc X) {f : Nat} (hn : noSup ea = true) (ha : PE X ea (tE P T X.K ma)) : PE X (.Attribute ea (P.tag f) pos) (tE P T X.K fun env S => (ma env S).bind fun x S1 => R.of (getF S1 x f) S1) := by
  refine ⟨fun pins s σ H Q I q => ?_⟩
  obtain ⟨ρ, env, S, er, sr, q⟩ := q
  refine (pe_fld ha (supBase hn _)).run pins s σ H Q I ⟨ρ, env, S, er, sr, (Post.bind q).imp fun w1 S1 ρ1 H1 v1 x1 s1 r1 q1 => ?_⟩
  obtain ⟨w, hw, q2⟩ := q1.of
  unfold getF at hw
  cases c : asIns S1 w1 with
  | none => rw [c] at hw; cases hw
  | some t =>
    obtain ⟨cl, ns, ws⟩ := t
    rw [c] at hw
    obtain ⟨p, dx, fs, rfl, g1, g2, g3, g4, g5⟩ := r1.inst s1 c
    obtain ⟨hm, v, h1, h2⟩ := fld_ok O.F.inj g4 g5 hw
    exact ⟨p, _, dx, fs, v, rfl, g1, g3, g2 f hm, h1, Ok1.here q2 s1 h2⟩
end
end Eng

set_option Elab.async false
set_option linter.all false
set_option maxHeartbeats 1000000
/-! E10: calls. -/
namespace Eng
open PySem L2
section
variable {K : PySem.W.Frag} {P : Prog} {T : Adr} {ρ : List Addr} {H : Hp} {S : Sto} {X : Cx} {k : Nat} {N : List Str} {gb dfm : Bool} {sc : Scope} {e ea eb ec : Expr} {es : List Expr} {pos p2 p3 apos : Pos} {m ma mb mc : MW} {ms : Env → Sto → R (List W)}
/-! ### argument lists without stars -/
def nonStar : Expr → Bool
  | .Starred _ _ => false
  | _ => true
theorem star_map : ∀ {es : List Expr} {env : PySem.Env}, es.all nonStar = true → starEach es env = es.map fun e => (false, eval e env)
  | [], env, _ => rfl
  | e :: es, env, h => by
    simp only [List.all_cons, Bool.and_eq_true] at h
    have ih := star_map (env := env) h.2
    have h1 := h.1
    cases e <;> first | (cases h1; done) | (show _ :: _ = _; rw [ih]; rfl)
theorem star_cons {es : List Expr} {env : PySem.Env} (h : (ea :: es).all nonStar = true) : starEach (ea :: es) env = (false, eval ea env) :: starEach es env := by
  rw [star_map h, star_map (es := es) (by simp only [List.all_cons, Bool.and_eq_true] at h; exact h.2)]
  rfl
theorem star_plain {es : List Expr} {env : PySem.Env} (h : es.all nonStar = true) : (backTo pos (starEach es env)).any (·.1) = false := by
  rw [star_map h]
  unfold backTo
  rw [List.map_map]
  induction es with
  | nil => rfl
  | cons a l ih =>
    simp only [List.all_cons, Bool.and_eq_true] at h
    simp only [List.map_cons, List.any_cons]
    rw [ih h.2]
    rfl
theorem star_few {es : List Expr} {env : PySem.Env} (h : es.all nonStar = true) : (backTo pos (starEach es env)).all (fun x => !x.1) = true := by
  rw [star_map h]
  unfold backTo
  rw [List.map_map]
  induction es with
  | nil => rfl
  | cons a l ih =>
    simp only [List.all_cons, Bool.and_eq_true] at h
    simp only [List.map_cons, List.all_cons]
    rw [ih h.2]
    rfl
theorem few_ok {es : List Expr} {env : PySem.Env} (h : es.all nonStar = true) (hl : es.length < 29) : ((backTo pos (starEach es env)).all (fun x => !x.1) && (backToKw pos (keywordEach [] env)).all (fun x => x.1.isSome)
      && decide (es.length + ([] : List Keyword).length + (if ([] : List Keyword).isEmpty then 0 else 1) < 30)) = true := by
  rw [star_few h]
  simp [keywordEach, backToKw]
  omega
theorem meth_ht {o : Expr} {x : Str} {es : List Expr} {env : PySem.Env} (hb : noSup o = true) (hl : (apos.endLine == pos.line) = true) (h : es.all nonStar = true) (hn : es.length < 29) :
    eval (.Call (.Attribute o x apos) es [] pos) env = (do
      let ov ← eval o env
      standAt apos.atName
      let (f, first) ← holding [ov] (getMethod ov x (do return (← importBound o env).getD true))
      callWith pos f first (backTo pos (starEach es env)) (backToKw pos (keywordEach [] env))) := by
  show (do
    let ov ← attributeBase o x env (eval o env)
    standAt apos.atName
    methodCall o x apos pos env ov (es.length + ([] : List Keyword).length) (backTo pos (starEach es env)) (backToKw pos (keywordEach [] env))) = _
  rw [supBase hb]
  have hf : methodCallForm (es.length + ([] : List Keyword).length) (backTo pos (starEach es env)) (backToKw pos (keywordEach [] env)) = true := by
    unfold methodCallForm
    rw [star_few h]
    simp [keywordEach, backToKw]
    omega
  unfold methodCall
  rw [hf]
  have hp : methodCallPos true o env apos pos = pure pos := by
    unfold methodCallPos
    have : apos.endLine = pos.line := by simpa using hl
    simp [this]
  rw [hp]
  simp only [calleeOf, if_pos, pure_bind]
/-! ### calls of the program's functions -/
theorem drop_min {α : Type} (l : List α) (n : Nat) : l.drop (min n l.length) = l.drop n := by
  by_cases h : n ≤ l.length
  · rw [Nat.min_eq_left h]
  · rw [Nat.min_eq_right (by omega), List.drop_length, List.drop_eq_nil_of_le (by omega)]
theorem full_ok (F : Facts P T K mg) (f : Nat) (ws : List W) : ∃ ds dvs, Binds K (T.fd f) (T.ps f) ds ∧ Vals dvs ds ∧ ∀ ρ H vs, VRs P T K ρ H ws vs → VRs P T K ρ H (full P f ws) (vs ++ dvs) := by
  unfold full
  cases c : P.fn f with
  | none =>
    obtain ⟨ds, dvs, h1, h2, h3⟩ := F.dfl f (P.dfl f).length (Nat.le_refl _)
    refine ⟨ds, dvs, h1, h2, fun ρ H vs hv => ?_⟩
    have := h3 ρ H
    rw [List.drop_length] at this
    have e : dvs = [] := VRs.nil_iff.mp this
    subst e
    simpa using hv
  | some d =>
    obtain ⟨ds, dvs, h1, h2, h3⟩ := F.dfl f (min ((P.dfl f).length + ws.length - d.np) (P.dfl f).length) (Nat.min_le_right _ _)
    refine ⟨ds, dvs, h1, h2, fun ρ H vs hv => ?_⟩
    have := h3 ρ H
    rw [drop_min] at this
    exact hv.app this
theorem run_spR (F : Facts P T K mg) {k f : Nat} {ws : List W} {vs : List V} {Q : VK} {E : XK} (s : SR P T K ρ H S) (r : VRs P T K ρ H ws vs) (q : Post P T K ρ H (run P k f ws S) fun _ _ _ H' v => Q v H') : spR P T K k f vs H Q E := by
  refine ⟨?_, ρ, S, ws, s, r, q⟩
  cases k with
  | zero => exact False.elim q
  | succ k =>
    unfold run at q
    cases c : P.fn f with
    | none => rw [c] at q; exact False.elim q
    | some d =>
      rw [c] at q
      by_cases hl : ws.length = d.np
      · rw [F.np f d c, ← hl]; exact r.len.symm
      · simp only [if_neg hl] at q; exact False.elim q
theorem s_call (O : XOk P T k gb N dfm sc X) {f t : Nat} {q0 : Pos} (hn : P.gname f = some t) (hg : glbC sc (P.tag t) = true) (hp : plainN (P.tag t) = true) (hs : (ea :: es).all nonStar = true) (ha : PA X (ea :: es) (tEs P T X.K ms)) :
    PE X (.Call (.Name (P.tag t) q0) (ea :: es) [] pos) (tE P T X.K fun env S => (ms env S).bind fun ws S1 => run P k f (full P f ws) S1) := by
  refine ⟨fun pins s σ H Q I q => ?_⟩
  obtain ⟨ρ, env, S, er, sr, q⟩ := q
  obtain ⟨g1, g2⟩ := O.F.fn f t hn
  obtain ⟨p1, _, _⟩ := plain_of hp
  dsimp only at q
  cases c : ms env S with
  | exc _ _ _ => rw [c] at q; exact False.elim q
  | bad => rw [c] at q; exact False.elim q
  | ok ws S1 =>
    rw [c] at q
    obtain ⟨ds, dvs, hb, hd, hv⟩ := full_ok O.F f ws
    refine (pe_call (O.call f) O.room (gl_of hg O.sc) g1 g2 hb hd pass0 ha p1 (star_cons hs) (star_plain (by simp only [List.all_cons, Bool.and_eq_true] at hs; exact hs.2))).run pins s σ H Q I ⟨ρ, env, S, er, sr, ?_⟩
    rw [c]
    intro ρ1 H1 vs x1 s1 r1
    exact run_spR O.F s1 (hv _ _ _ r1) (Post.re x1 q)
theorem s_call0 (O : XOk P T k gb N dfm sc X) {f t : Nat} {q0 : Pos} (hn : P.gname f = some t) (hg : glbC sc (P.tag t) = true) (hp : plainN (P.tag t) = true) :
    PE X (.Call (.Name (P.tag t) q0) [] [] pos) (tE P T X.K fun _ S => run P k f (full P f []) S) := by
  refine ⟨fun pins s σ H Q I q => ?_⟩
  obtain ⟨ρ, env, S, er, sr, q⟩ := q
  obtain ⟨g1, g2⟩ := O.F.fn f t hn
  obtain ⟨p1, _, _⟩ := plain_of hp
  obtain ⟨ds, dvs, hb, hd, hv⟩ := full_ok O.F f []
  exact (pe_call0 (O.call f) O.room (gl_of hg O.sc) g1 g2 hb hd pass0 p1).run pins s σ H Q I (run_spR (E := E0) O.F sr (hv _ _ _ VRs.nil) q)
/-! ### new instances -/
theorem make_rd (F : Facts P T X.K mg) {c f j : Nat} {pu : Bool} (hi : P.init c = some f) {ws : List W} {vs dvs : List V} {Q : VK} {E : XK} {Q' : W → Sto → List Addr → Hp → V → Prop} (hQ : Q' = fun _ _ _ H' v => Q v H')
    (sr : SR P T X.K ρ H S) (r : VRs P T X.K ρ H ws vs)
    (hv : ∀ ρ H vs, VRs P T X.K ρ H (.ref S.length :: ws) vs → VRs P T X.K ρ H (full P f (.ref S.length :: ws)) (vs ++ dvs))
    (q : Post P T X.K ρ H (mkR P ⟨run P (j + 1), run P j, gb⟩ pu c ws S) Q') :
    ∀ x dx, H x = none → H dx = none → dx ≠ x → spR P T X.K j f (.ref x :: (vs ++ dvs)) (upd (upd H dx (.own x)) x (.ins (T.C c) dx [])) (fun v H2 => v = .non ∧ Q (.ref x) H2) E := by
  subst hQ
  intro x dx hx hdx hne
  have hk : ∀ q o, H q = some o → (upd (upd H dx (.own x)) x (.ins (T.C c) dx [])) q = some o := fun q o e => by
    rw [upd_ne (ne_of_none e hx), upd_ne (ne_of_none e hdx)]; exact e
  have x1 : Ext ρ H (ρ ++ [x]) (upd (upd H dx (.own x)) x (.ins (T.C c) dx [])) := Ext.push hk hx
  have s1 : SR P T X.K (ρ ++ [x]) (upd (upd H dx (.own x)) x (.ins (T.C c) dx [])) (S ++ [.ins c [] []]) :=
    sr.push hk hx ⟨dx, [], upd_same, by simp, F.ccls c f hi, rfl, by simpa using VRs.nil⟩
  have rx : VR P T X.K (ρ ++ [x]) (upd (upd H dx (.own x)) x (.ins (T.C c) dx [])) (.ref S.length) (.ref x) := by
    simp only [VR]
    exact ⟨x, by rw [← sr.len, List.getElem?_append_right (Nat.le_refl _)]; simp, rfl⟩
  refine run_spR F s1 (hv _ _ _ (VRs.cons rx (r.mono x1))) ?_
  unfold mkR at q
  rw [hi] at q
  dsimp only at q
  generalize run P j f (full P f (.ref S.length :: ws)) (S ++ [.ins c [] []]) = rr at q
  cases rr with
  | exc _ _ _ => exact False.elim q
  | bad => exact False.elim q
  | ok w S2 =>
    simp only [R.bind] at q
    intro ρ2 H2 v x2 s2 r2
    cases w <;> first | (exact False.elim q; done) | skip
    refine ⟨r2.non_inv, ?_⟩
    dsimp only at q
    by_cases hp : pu = true
    · rw [if_pos hp] at q
      cases ce : exitR S (.ref S.length) S2 with
      | exc _ _ _ => rw [ce] at q; exact False.elim q
      | bad => rw [ce] at q; exact False.elim q
      | ok w' S3 =>
        rw [ce] at q
        obtain ⟨y1, y2, y3⟩ := exit_ok sr (x1.trans x2) s2 (rx.mono x2) ce
        exact q ρ H2 _ y1 y2 y3
    · rw [if_neg hp] at q
      exact q ρ2 H2 _ (x1.trans x2) s2 (rx.mono x2)
theorem s_make (O : XOk P T k gb N dfm sc X) {c t : Nat} {pu : Bool} {q0 : Pos} (hn : P.cname c = some t) (hg : glbC sc (P.tag t) = true) (hp : plainN (P.tag t) = true) (hs : (ea :: es).all nonStar = true) (ha : PA X (ea :: es) (tEs P T X.K ms)) :
    PE X (.Call (.Name (P.tag t) q0) (ea :: es) [] pos) (tE P T X.K fun env S => (ms env S).bind fun ws S1 => mkR P (clG P k gb) pu c ws S1) := by
  refine ⟨fun pins s σ H Q I q => ?_⟩
  obtain ⟨ρ, env, S, er, sr, q⟩ := q
  obtain ⟨p1, _, _⟩ := plain_of hp
  dsimp only at q
  cases cm : ms env S with
  | exc _ _ _ => rw [cm] at q; exact False.elim q
  | bad => rw [cm] at q; exact False.elim q
  | ok ws S1 =>
    rw [cm] at q
    simp only [R.bind] at q
    cases hi : P.init c with
    | none => unfold mkR at q; rw [hi] at q; exact False.elim q
    | some f =>
      cases k with
      | zero =>
        unfold mkR at q
        rw [hi] at q
        exact False.elim q
      | succ j =>
        obtain ⟨ds, dvs, hb, hd, hv⟩ := full_ok O.F f (.ref S1.length :: ws)
        refine (pe_make (O.F.init c f hi) (O.ini j rfl f) O.room (gl_of hg O.sc) (O.F.cls c t hn) hb hd pass0 ha p1 (star_cons hs) (star_plain (by simp only [List.all_cons, Bool.and_eq_true] at hs; exact hs.2))).run pins s σ H Q I ⟨ρ, env, S, er, sr, ?_⟩
        rw [cm]
        intro ρ1 H1 vs x1 s1 r1
        exact make_rd O.F hi rfl s1 r1 (fun ρ H vs => hv ρ H vs) (Post.re x1 q)
theorem s_make0 (O : XOk P T k gb N dfm sc X) {c t : Nat} {pu : Bool} {q0 : Pos} (hn : P.cname c = some t) (hg : glbC sc (P.tag t) = true) (hp : plainN (P.tag t) = true) :
    PE X (.Call (.Name (P.tag t) q0) [] [] pos) (tE P T X.K fun _ S => mkR P (clG P k gb) pu c [] S) := by
  refine ⟨fun pins s σ H Q I q => ?_⟩
  obtain ⟨ρ, env, S, er, sr, q⟩ := q
  obtain ⟨p1, _, _⟩ := plain_of hp
  dsimp only at q
  cases hi : P.init c with
  | none => unfold mkR at q; rw [hi] at q; exact False.elim q
  | some f =>
    cases k with
    | zero =>
      unfold mkR at q
      rw [hi] at q
      exact False.elim q
    | succ j =>
      obtain ⟨ds, dvs, hb, hd, hv⟩ := full_ok O.F f [.ref S.length]
      exact (pe_make0 (O.F.init c f hi) (O.ini j rfl f) O.room (gl_of hg O.sc) (O.F.cls c t hn) hb hd pass0 p1).run pins s σ H Q I (make_rd (E := E0) O.F hi rfl sr VRs.nil (fun ρ H vs => hv ρ H vs) q)
/-! ### methods -/
noncomputable abbrev methM (P : Prog) (k m : Nat) (ma : MW) (ms : Env → Sto → R (List W)) : MW := fun env S => (ma env S).bind fun x S1 => match asIns S1 x with
      | some (c, ns, _) => match P.meth c m with
        | some f => if m ∈ ns then .bad else (ms env S1).bind fun ws S2 => run P k f (full P f (x :: ws)) S2
        | none => .bad
      | none => .bad
theorem s_meth (O : XOk P T k gb N dfm sc X) {mt : Nat} (hn : noSup ea = true) (hl : (apos.endLine == pos.line) = true) (hs : es.all nonStar = true) (hle : es.length < 29) (ha : PE X ea (tE P T X.K ma)) (hes : PA X es (tEs P T X.K ms)) (hnil : es = [] → ms = fun _ S => .ok [] S) :
    PE X (.Call (.Attribute ea (P.tag mt) apos) es [] pos) (tE P T X.K (methM P k mt ma ms)) := by
  refine ⟨fun pins s σ H Q I q => ?_⟩
  obtain ⟨ρ, env, S, er, sr, q⟩ := q
  have q0 := q
  unfold methM at q0
  cases cm : ma env S with
  | exc _ _ _ => rw [cm] at q0; exact False.elim q0
  | bad => rw [cm] at q0; exact False.elim q0
  | ok w1 S1 =>
    rw [cm] at q0
    simp only [R.bind] at q0
    cases ci : asIns S1 w1 with
    | none => rw [ci] at q0; exact False.elim q0
    | some tr =>
      obtain ⟨c, ns, wf⟩ := tr
      rw [ci] at q0
      dsimp only at q0
      cases cf : P.meth c mt with
      | none => rw [cf] at q0; exact False.elim q0
      | some f =>
        rw [cf] at q0
        dsimp only at q0
        by_cases hm : mt ∈ ns
        · rw [if_pos hm] at q0; exact False.elim q0
        · rw [if_neg hm] at q0
          cases cs : ms env S1 with
          | exc _ _ _ => rw [cs] at q0; exact False.elim q0
          | bad => rw [cs] at q0; exact False.elim q0
          | ok ws S2 =>
            rw [cs] at q0
            obtain ⟨M, hc⟩ := O.F.meth c mt f cf
            obtain ⟨ds, dvs, hb, hd, hv⟩ := full_ok O.F f (w1 :: ws)
            have body : ∀ ρ1 H1 v1, Ext ρ H ρ1 H1 → SR P T X.K ρ1 H1 S1 → VR P T X.K ρ1 H1 w1 v1 →
                ∃ a dx fs, v1 = V.ref a ∧ H1 a = some (.ins (T.C c) dx fs) ∧ fs.lookup (P.tag mt) = none ∧ (tEs P T X.K ms) σ H1 fun vs H2 => spR P T X.K k f (v1 :: (vs ++ dvs)) H2 Q E0 := by
              intro ρ1 H1 v1 x1 s1 r1
              obtain ⟨p, dx, fs, rfl, g1, g2, g3, g4, g5⟩ := r1.inst s1 ci
              refine ⟨p, dx, fs, rfl, g1, nolook O.F.inj g4 hm, ρ1, env, S1, er.mono x1, s1, ?_⟩
              rw [cs]
              intro ρ2 H2 vs x2 s2 r2
              exact run_spR O.F s2 (hv _ _ _ (VRs.cons (r1.mono x2) r2)) (Post.re (x1.trans x2) q0)
            have rd : ∀ {t : TA}, (∀ (H1 : Hp) (v1 : V) (a : Addr), (tEs P T X.K ms) σ H1 (fun vs H2 => spR P T X.K k f (v1 :: (vs ++ dvs)) H2 Q E0) → t σ H1 fun vs H2 => spR P T X.K k f (v1 :: (vs ++ dvs)) H2 Q E0) → tMeth (T.C c) (P.tag mt) (spR P T X.K k f) dvs E0 (tE P T X.K ma) t σ H Q := by
              intro t ht
              refine ⟨ρ, env, S, er, sr, ?_⟩
              rw [cm]
              intro ρ1 H1 v1 x1 s1 r1
              obtain ⟨a, dx, fs, e1, e2, e3, e4⟩ := body ρ1 H1 v1 x1 s1 r1
              exact ⟨a, dx, fs, e1, e2, e3, ht H1 v1 a e4⟩
            cases es with
            | nil =>
              refine (pe_meth0 ha hc M (O.call f) O.room hb hd pass0 (meth_ht hn hl hs hle)).run pins s σ H Q I (rd fun H1 v1 a h => ?_)
              obtain ⟨ρ', env', S', er', sr', h'⟩ := h
              rw [hnil rfl] at h'
              exact h' ρ' H1 [] Ext.refl sr' VRs.nil
            | cons e1 es1 => exact (pe_meth ha hc M (O.call f) O.room hb hd pass0 hes (star_cons hs) (star_plain (by simp only [List.all_cons, Bool.and_eq_true] at hs; exact hs.2)) (meth_ht hn hl hs hle)).run pins s σ H Q I (rd fun H1 v1 a h => h)
end
end Eng

set_option Elab.async false
set_option linter.all false
set_option maxHeartbeats 1000000
/-! E11: built-in functions, methods of lists and dicts, isinstance, dicts written. -/
namespace Eng
open PySem L2
section
variable {K : PySem.W.Frag} {P : Prog} {T : Adr} {ρ : List Addr} {H : Hp} {S : Sto} {X : Cx} {k : Nat} {N : List Str} {gb dfm : Bool} {sc : Scope} {e ea eb ec : Expr} {es : List Expr} {pos p2 p3 apos : Pos} {m ma mb mc : MW} {ms : Env → Sto → R (List W)}
theorem ints_ok : ∀ {ws : List W} {ns : List Int} {vs : List V}, VRs P T K ρ H ws vs → intsW ws = some ns → vs = ns.map V.int
  | [], ns, vs, h, e => by simp only [intsW, Option.some.injEq] at e; subst e; simpa using VRs.nil_iff.mp h
  | w :: ws, ns, vs, h, e => by
    cases w <;> simp only [intsW, reduceCtorEq, Option.map_eq_some_iff] at e
    obtain ⟨ms, e1, rfl⟩ := e
    simp only [VRs] at h
    obtain ⟨v, r, rfl, h1, h2⟩ := h
    rw [h1.int_inv, ints_ok h2 e1]
    rfl
theorem bools_ok : ∀ {ws : List W} {ns : List Bool} {vs : List V}, VRs P T K ρ H ws vs → boolsW ws = some ns → vs = ns.map V.bl
  | [], ns, vs, h, e => by simp only [boolsW, Option.some.injEq] at e; subst e; simpa using VRs.nil_iff.mp h
  | w :: ws, ns, vs, h, e => by
    cases w <;> simp only [boolsW, reduceCtorEq, Option.map_eq_some_iff] at e
    obtain ⟨ms, e1, rfl⟩ := e
    simp only [VRs] at h
    obtain ⟨v, r, rfl, h1, h2⟩ := h
    rw [h1.bl_inv, bools_ok h2 e1]
    rfl
theorem ofOpt {o : Option W} {S : Sto} {Q : W → Sto → List Addr → Hp → V → Prop} (h : Post P T K ρ H (R.of o S) Q) : ∃ w, o = some w := h.of.imp fun _ h => h.1
/-- the reading of a built-in's call, by a rule on values -/
theorem blt_rd {r : List V → Hp → VK → Prop} {g : List W → Sto → Option W} {Q : VK} {σ : L2.St} {env : Env} (er : ER P T K ρ H env σ) (sr : SR P T K ρ H S)
    (q : Post P T K ρ H ((ms env S).bind fun ws S1 => R.of (g ws S1) S1) fun _ _ _ H' v => Q v H')
    (h : ∀ ws S1 w ρ1 H1 vs, ms env S = .ok ws S1 → g ws S1 = some w → SR P T K ρ1 H1 S1 → VRs P T K ρ1 H1 ws vs → Ok1 P T K ρ1 H1 S1 w Q → r vs H1 Q) : tCB r (tEs P T K ms) σ H Q := by
  refine ⟨ρ, env, S, er, sr, ?_⟩
  cases cm : ms env S with
  | exc _ _ _ => rw [cm] at q; exact False.elim q
  | bad => rw [cm] at q; exact False.elim q
  | ok ws S1 =>
    rw [cm] at q
    intro ρ1 H1 vs x1 s1 r1
    have q2 : Post P T K ρ1 H1 (R.of (g ws S1) S1) fun _ _ _ H' v => Q v H' := Post.re x1 q
    obtain ⟨w, hw, q3⟩ := q2.of
    exact h ws S1 w ρ1 H1 vs cm hw s1 r1 q3
/-- .. what it was called with, ahead -/
theorem blt_val {g : List W → Sto → Option W} {env : Env} {Q : W → Sto → List Addr → Hp → V → Prop} (q : Post P T K ρ H ((ms env S).bind fun ws S1 => R.of (g ws S1) S1) Q) : ∃ ws S1 w, ms env S = .ok ws S1 ∧ g ws S1 = some w := by
  cases cm : ms env S with
  | exc _ _ _ => rw [cm] at q; exact False.elim q
  | bad => rw [cm] at q; exact False.elim q
  | ok ws S1 =>
    rw [cm] at q
    obtain ⟨w, hw⟩ := ofOpt (S := S1) (o := g ws S1) q
    exact ⟨ws, S1, w, rfl, hw⟩
theorem one_of {b : Blt} (hb : bltA b = 1) (hl : ws.length = bltA b) : ∃ w : W, ws = [w] := by
  rw [hb] at hl
  match ws, hl with
  | [w], _ => exact ⟨w, rfl⟩
theorem s_blt (O : XOk P T k gb N dfm sc X) {b : Blt} {q0 : Pos} (hg : glbC sc (bltN b) = true) (hs : (ea :: es).all nonStar = true) (ha : PA X (ea :: es) (tEs P T X.K ms)) :
    PE X (.Call (.Name (bltN b) q0) (ea :: es) [] pos) (tE P T X.K fun env S => (ms env S).bind fun ws S1 => R.of (bltW S1 b ws) S1) := by
  refine ⟨fun pins s σ H Q I q => ?_⟩
  obtain ⟨ρ, env, S, er, sr, q⟩ := q
  dsimp only at q
  have gl : Gl X (bltN b) := gl_of hg O.sc
  have mg : X.mg (bltN b) = none := O.F.blt _ (by cases b <;> decide +kernel)
  have st := star_cons (env := X.env) hs
  have pl : (backTo pos (starEach es X.env)).any (·.1) = false := star_plain (by simp only [List.all_cons, Bool.and_eq_true] at hs; exact hs.2)
  obtain ⟨ws0, S0, w0, e0, g0⟩ := blt_val (g := fun ws S1 => bltW S1 b ws) q
  cases b with
  | len =>
    have go : ∀ {r : List V → Hp → VK → Prop}, CallR X (.builtin "len") r → (∀ ws S1 w ρ1 H1 vs, ms env S = .ok ws S1 → bltW S1 .len ws = some w → SR P T X.K ρ1 H1 S1 → VRs P T X.K ρ1 H1 ws vs → Ok1 P T X.K ρ1 H1 S1 w Q → r vs H1 Q) → wpAny (model X.prog X.w) X.A (eval (.Call (.Name (bltN .len) q0) (ea :: es) [] pos) X.env) (EP X pins σ Q) X.xe s := fun hc h =>
      (pe_callB hc gl mg (by decide +kernel) ha (by decide) (by decide) st pl).run pins s σ H Q I (blt_rd (g := fun ws S1 => bltW S1 .len ws) er sr q h)
    match ws0, g0 with
    | [x], g0 =>
      simp only [bltW] at g0
      cases hd : asDict S0 x with
      | some kw =>
        refine go call_lenD fun ws S1 w ρ1 H1 vs e1 g1 s1 r1 q1 => ?_
        rw [e0] at e1; cases e1
        obtain ⟨v, rfl, rv⟩ := r1.one
        simp only [bltW, hd, Option.some.injEq] at g1
        obtain ⟨p, kvs, rfl, h1, h2, h3, h4⟩ := rv.dict s1 hd
        subst g1
        exact ⟨p, kvs, rfl, h1, by have := q1.int s1; rw [← h3, List.length_map] at this; exact this⟩
      | none =>
        rw [hd] at g0
        simp only at g0
        cases hq : asSeq S0 x with
        | some xs =>
          refine go call_len_seq fun ws S1 w ρ1 H1 vs e1 g1 s1 r1 q1 => ?_
          rw [e0] at e1; cases e1
          obtain ⟨v, rfl, rv⟩ := r1.one
          simp only [bltW, hd, hq, Option.some.injEq] at g1
          obtain ⟨p, us, rfl, h1, h2, h3⟩ := rv.seq s1 hq
          subst g1
          exact ⟨p, us, rfl, h1, by have := q1.int s1; rw [h3.len] at this; exact this⟩
        | none =>
          rw [hq] at g0
          cases x <;> first | (cases g0; done) | skip
          simp only at g0
          split at g0
          · rename_i hl
            refine go call_len_str fun ws S1 w ρ1 H1 vs e1 g1 s1 r1 q1 => ?_
            rw [e0] at e1; cases e1
            obtain ⟨v, rfl, rv⟩ := r1.one
            simp only [bltW, hd, hq, if_pos hl, Option.some.injEq] at g1
            subst g1
            exact ⟨_, by rw [rv.str_inv], hl, q1.int s1⟩
          · cases g0
  | int =>
    refine (pe_callTy call_int1 gl mg (by decide +kernel) ha (by decide) (by decide) st pl).run pins s σ H Q I (blt_rd (g := fun ws S1 => bltW S1 .int ws) er sr q fun ws S1 w ρ1 H1 vs e1 g1 s1 r1 q1 => ?_)
    match ws, g1 with
    | [.int i], g1 =>
      obtain ⟨v, rfl, rv⟩ := r1.one
      simp only [bltW, Option.some.injEq] at g1
      subst g1
      exact .inl ⟨i, by rw [rv.int_inv], q1.int s1⟩
    | [.bl i], g1 =>
      obtain ⟨v, rfl, rv⟩ := r1.one
      simp only [bltW, Option.some.injEq] at g1
      subst g1
      exact .inr ⟨i, by rw [rv.bl_inv], q1.int s1⟩
  | tuple =>
    refine (pe_callTy call_tuple_of gl mg (by decide +kernel) ha (by decide) (by decide) st pl).run pins s σ H Q I (blt_rd (g := fun ws S1 => bltW S1 .tuple ws) er sr q fun ws S1 w ρ1 H1 vs e1 g1 s1 r1 q1 => ?_)
    match ws, g1 with
    | [x], g1 =>
      obtain ⟨v, rfl, rv⟩ := r1.one
      simp only [bltW, Option.map_eq_some_iff] at g1
      obtain ⟨xs, hq, rfl⟩ := g1
      cases x with
      | tup ys =>
        simp only [asSeq, Option.some.injEq] at hq
        subst hq
        obtain ⟨p, us, rfl, h1, h2, h3⟩ := id rv.tup_inv
        exact ⟨p, us, rfl, .inr ⟨h1, q1.here s1 rv⟩⟩
      | _ =>
        have hq' := hq
        simp only [asSeq] at hq'
        obtain ⟨p, us, rfl, h1, h2, h3⟩ := rv.list s1 hq'
        exact ⟨p, us, rfl, .inl ⟨h1, fun l hl => q1.tup s1 h3 h2 hl⟩⟩
  | sum =>
    refine (pe_callB (cr_sum O.calm) gl mg (by decide +kernel) ha (by decide) (by decide) st pl).run pins s σ H Q I (blt_rd (g := fun ws S1 => bltW S1 .sum ws) er sr q fun ws S1 w ρ1 H1 vs e1 g1 s1 r1 q1 => ?_)
    match ws, g1 with
    | [x], g1 =>
      obtain ⟨v, rfl, rv⟩ := r1.one
      simp only [bltW, Option.bind_eq_some_iff, Option.map_eq_some_iff] at g1
      obtain ⟨xs, hq, ns, hn, rfl⟩ := g1
      obtain ⟨p, us, rfl, h1, h2, h3⟩ := rv.list s1 hq
      exact ⟨p, ns, rfl, by rw [← ints_ok h3 hn]; exact h1, q1.int s1⟩
  | all =>
    refine (pe_callB (cr_all O.calm) gl mg (by decide +kernel) ha (by decide) (by decide) st pl).run pins s σ H Q I (blt_rd (g := fun ws S1 => bltW S1 .all ws) er sr q fun ws S1 w ρ1 H1 vs e1 g1 s1 r1 q1 => ?_)
    match ws, g1 with
    | [x], g1 =>
      obtain ⟨v, rfl, rv⟩ := r1.one
      simp only [bltW, Option.bind_eq_some_iff, Option.map_eq_some_iff] at g1
      obtain ⟨xs, hq, ns, hn, rfl⟩ := g1
      obtain ⟨p, us, rfl, h1, h2, h3⟩ := rv.list s1 hq
      exact ⟨p, ns, rfl, by rw [← bools_ok h3 hn]; exact h1, q1.bl s1⟩
  | any =>
    refine (pe_callB (cr_any O.calm) gl mg (by decide +kernel) ha (by decide) (by decide) st pl).run pins s σ H Q I (blt_rd (g := fun ws S1 => bltW S1 .any ws) er sr q fun ws S1 w ρ1 H1 vs e1 g1 s1 r1 q1 => ?_)
    match ws, g1 with
    | [x], g1 =>
      obtain ⟨v, rfl, rv⟩ := r1.one
      simp only [bltW, Option.bind_eq_some_iff, Option.map_eq_some_iff] at g1
      obtain ⟨xs, hq, ns, hn, rfl⟩ := g1
      obtain ⟨p, us, rfl, h1, h2, h3⟩ := rv.list s1 hq
      exact ⟨p, ns, rfl, by rw [← bools_ok h3 hn]; exact h1, q1.bl s1⟩
  | min2 =>
    refine (pe_callB (call_min2 O.calm) gl mg (by decide +kernel) ha (by decide) (by decide) st pl).run pins s σ H Q I (blt_rd (g := fun ws S1 => bltW S1 .min2 ws) er sr q fun ws S1 w ρ1 H1 vs e1 g1 s1 r1 q1 => ?_)
    match ws, g1 with
    | [.int i, .int j], g1 =>
      obtain ⟨v, u, rfl, rv, ru⟩ := r1.two
      simp only [bltW, Option.some.injEq] at g1
      subst g1
      exact ⟨i, j, by rw [rv.int_inv, ru.int_inv], q1.int s1⟩
  | max2 =>
    refine (pe_callB (call_max2 O.calm) gl mg (by decide +kernel) ha (by decide) (by decide) st pl).run pins s σ H Q I (blt_rd (g := fun ws S1 => bltW S1 .max2 ws) er sr q fun ws S1 w ρ1 H1 vs e1 g1 s1 r1 q1 => ?_)
    match ws, g1 with
    | [.int i, .int j], g1 =>
      obtain ⟨v, u, rfl, rv, ru⟩ := r1.two
      simp only [bltW, Option.some.injEq] at g1
      subst g1
      exact ⟨i, j, by rw [rv.int_inv, ru.int_inv], q1.int s1⟩
  | abs =>
    refine (pe_callB call_abs gl mg (by decide +kernel) ha (by decide) (by decide) st pl).run pins s σ H Q I (blt_rd (g := fun ws S1 => bltW S1 .abs ws) er sr q fun ws S1 w ρ1 H1 vs e1 g1 s1 r1 q1 => ?_)
    match ws, g1 with
    | [.int i], g1 =>
      obtain ⟨v, rfl, rv⟩ := r1.one
      simp only [bltW, Option.some.injEq] at g1
      subst g1
      exact ⟨i, by rw [rv.int_inv], q1.int s1⟩
end
end Eng

set_option Elab.async false
set_option linter.all false
set_option maxHeartbeats 1000000
/-! E12: methods of lists and dicts, isinstance, dicts written. -/
namespace Eng
open PySem L2
section
variable {K : PySem.W.Frag} {P : Prog} {T : Adr} {ρ : List Addr} {H : Hp} {S : Sto} {X : Cx} {k : Nat} {N : List Str} {gb dfm : Bool} {sc : Scope} {e ea eb ec : Expr} {es : List Expr} {pos p2 p3 apos : Pos} {m ma mb mc : MW} {ms : Env → Sto → R (List W)}
/-- the values of a list of terms, one by one -/
inductive LE (P : Prog) (T : Adr) (X : Cx) : List Expr → (Env → Sto → R (List W)) → Prop where
  | nil : LE P T X [] fun _ S => .ok [] S
  | cons {e : Expr} {es : List Expr} {m : MW} {ms : Env → Sto → R (List W)} : PE X e (tE P T X.K m) → nonStar e = true → LE P T X es ms →
      LE P T X (e :: es) fun env S => (m env S).bind fun w S1 => (ms env S1).bind fun ws S2 => .ok (w :: ws) S2
theorem LE.plain (h : LE P T X es ms) : es.all nonStar = true := by
  induction h with
  | nil => rfl
  | cons _ h2 _ ih => simp [h2, ih]
theorem LE.pa (h : LE P T X es ms) : PA X es (tEs P T X.K ms) := by
  induction h with
  | nil => exact s_nil
  | @cons e es m ms h1 h2 h3 ih => exact s_cons (star_cons (by simp [h2, h3.plain])) h1 ih
theorem LE.len (h : LE P T X es ms) : ∀ {env S ws S'}, ms env S = .ok ws S' → ws.length = es.length := by
  induction h with
  | nil => intro env S ws S' h; cases h; rfl
  | @cons e es m ms h1 h2 h3 ih =>
    intro env S ws S' h
    dsimp only at h
    cases c : m env S with
    | exc _ _ _ => rw [c] at h; cases h
    | bad => rw [c] at h; cases h
    | ok w S1 =>
      rw [c] at h
      simp only [R.bind] at h
      cases d : ms env S1 with
      | exc _ _ _ => rw [d] at h; cases h
      | bad => rw [d] at h; cases h
      | ok ws1 S2 =>
        rw [d] at h
        cases h
        simp [ih d]
/-! ### list.append and its like -/
abbrev bmM (m : Bm) (ma : MW) (ms : Env → Sto → R (List W)) : MW := fun env S => (ma env S).bind fun x S1 => if bmK S1 m x = true then (ms env S1).bind fun ws S2 => bmW S2 m x ws else .bad
theorem lst_ty {w : W} {v : V} (r : VR P T K ρ H w v) (s : SR P T K ρ H S) (h : (asLst S w).isSome = true) : tyV K "list" v H := by
  cases c : asLst S w with
  | none => rw [c] at h; cases h
  | some xs =>
    obtain ⟨p, vs, rfl, g, _, _⟩ := asLst_H r s c
    exact .inl ⟨rfl, vs, .inl (.inl g)⟩
theorem bm_rd {mt : Bm} {r : V → List V → Hp → VK → Prop} {Q : VK} {σ : L2.St} {env : Env} (hk : mt ≠ .get2) (er : ER P T K ρ H env σ) (sr : SR P T K ρ H S) (q : Post P T K ρ H (bmM mt ma ms env S) fun _ _ _ H' v => Q v H')
    (h : ∀ w1 S1 ws S2 ρ2 H2 v1 vs, ma env S = .ok w1 S1 → ms env S1 = .ok ws S2 → SR P T K ρ2 H2 S2 → VR P T K ρ2 H2 w1 v1 → VRs P T K ρ2 H2 ws vs → Post P T K ρ2 H2 (bmW S2 mt w1 ws) (fun _ _ _ H' v => Q v H') → r v1 vs H2 Q) :
    tBM K "list" r (tE P T K ma) (tEs P T K ms) σ H Q := by
  refine ⟨ρ, env, S, er, sr, (Post.bind q).impE fun w1 S1 e1 ρ1 H1 v1 x1 s1 r1 q1 => ?_⟩
  by_cases c : bmK S1 mt w1 = true
  · rw [if_pos c] at q1
    refine ⟨lst_ty r1 s1 (by cases mt <;> first | exact c | exact absurd rfl hk), ρ1, env, S1, er.mono x1, s1, ?_⟩
    have q2 := PostL.bind q1
    cases cs : ms env S1 with
    | exc _ _ _ => rw [cs] at q2; exact False.elim q2
    | bad => rw [cs] at q2; exact False.elim q2
    | ok ws S2 =>
      rw [cs] at q1
      intro ρ2 H2 vs x2 s2 r2
      exact h w1 S1 ws S2 ρ2 H2 v1 vs e1 cs s2 (r1.mono x2) r2 (Post.re x2 q1)
  · rw [if_neg c] at q1
    exact False.elim q1
/-- a list of the store, changed -/
theorem put_lst {l : Nat} {a : Addr} {xs : List W} {vs : List V} (s : SR P T K ρ H S) (ha : ρ[l]? = some a) (hl : vs.length ≤ sizeLine) (r : VRs P T K ρ H xs vs) :
    Ext ρ H ρ (upd H a (.lst vs)) ∧ SR P T K ρ (upd H a (.lst vs)) (S.set l (.lst xs)) :=
  ⟨Ext.put ha, s.put ha ⟨vs, upd_same, hl, r.mono (Ext.put ha)⟩⟩
theorem VRs.dropLast {ws : List W} {vs : List V} (h : VRs P T K ρ H ws vs) : VRs P T K ρ H ws.dropLast vs.dropLast := by
  rw [List.dropLast_eq_take, List.dropLast_eq_take, h.len]
  exact h.take _
theorem toDs_get : ∀ (ws : List W) (i : Nat), (toDs ws)[i]? = (ws[i]?).map toD
  | [], i => by simp [toDs]
  | w :: ws, 0 => by simp [toDs]
  | w :: ws, i + 1 => by simpa [toDs] using toDs_get ws i
theorem ixOf_ok (d : PyData) : ∀ (ws : List W) (j : Nat), ixOf d ws = some j → ∃ z, (toDs ws)[j]? = some z ∧ PyData.eqv z d = true ∧ ∀ (m : Nat) (z' : PyData), m < j → (toDs ws)[m]? = some z' → PyData.eqv z' d = false
  | [], j, h => by simp [ixOf] at h
  | w :: ws, j, h => by
    unfold ixOf at h
    by_cases c : PyData.eqv (toD w) d = true
    · rw [if_pos c] at h
      cases h
      exact ⟨toD w, by simp [toDs], c, fun m z' hm => by omega⟩
    · rw [if_neg c] at h
      obtain ⟨i, hi, rfl⟩ := Option.map_eq_some_iff.mp h
      obtain ⟨z, h1, h2, h3⟩ := ixOf_ok d ws i hi
      refine ⟨z, by simpa [toDs] using h1, h2, fun m z' hm hz => ?_⟩
      cases m with
      | zero =>
        simp [toDs] at hz
        subst hz
        simpa using c
      | succ m => exact h3 m z' (by omega) (by simpa [toDs] using hz)
theorem s_bm1 (O : XOk P T k gb N dfm sc X) {mt : Bm} (hk : bmA mt = 1) (hn : noSup ea = true) (hl : (apos.endLine == pos.line) = true) (hs : (eb :: es).all nonStar = true) (hle : (eb :: es).length < 29) (ha : PE X ea (tE P T X.K ma)) (hes : PA X (eb :: es) (tEs P T X.K ms)) :
    PE X (.Call (.Attribute ea (bmN mt) apos) (eb :: es) [] pos) (tE P T X.K (bmM mt ma ms)) := by
  refine ⟨fun pins s σ H Q I q => ?_⟩
  obtain ⟨ρ, env, S, er, sr, q⟩ := q
  have st := star_cons (env := X.env) hs
  have pl : (backTo pos (starEach es X.env)).any (·.1) = false := star_plain (by simp only [List.all_cons, Bool.and_eq_true] at hs; exact hs.2)
  have fw := few_ok (pos := pos) (env := X.env) hs hle
  cases mt with
  | append =>
    refine (pe_bm PySem.F.plainAttrs_list PySem.F.slot_list_append PySem.F.type_list_append mt_append ha hes (supBase hn _) fw hl st pl).run pins s σ H Q I (bm_rd (by decide) er sr q fun w1 S1 ws S2 ρ2 H2 v1 vs e1 e2 s2 r1 r2 q2 => ?_)
    match w1, ws, q2 with
    | .ref l, [w], q2 =>
      simp only [bmW] at q2
      cases c : S2[l]? with
      | none => rw [c] at q2; exact False.elim q2
      | some o =>
        rw [c] at q2
        cases o <;> first | (exact False.elim q2; done) | skip
        rename_i xs
        dsimp only at q2
        by_cases hz : xs.length < sizeLine
        · rw [if_pos hz] at q2
          simp only [VR] at r1
          obtain ⟨a, g1, rfl⟩ := r1
          obtain ⟨v, rfl, rv⟩ := r2.one
          obtain ⟨us, h1, h2, h3⟩ := s2.ob l a _ g1 c
          obtain ⟨y1, y2⟩ := put_lst s2 g1 (xs := xs ++ [w]) (vs := us ++ [v]) (by rw [List.length_append, ← h3.len]; exact hz) (h3.app (VRs.cons rv VRs.nil))
          exact ⟨a, us, v, rfl, rfl, h1, by rw [← h3.len]; exact hz, q2 ρ2 _ _ y1 y2 (by simp [VR])⟩
        · rw [if_neg hz] at q2; exact False.elim q2
  | extend =>
    refine (pe_bm PySem.F.plainAttrs_list PySem.F.slot_list_extend PySem.F.type_list_extend mt_extend ha hes (supBase hn _) fw hl st pl).run pins s σ H Q I (bm_rd (by decide) er sr q fun w1 S1 ws S2 ρ2 H2 v1 vs e1 e2 s2 r1 r2 q2 => ?_)
    match w1, ws, q2 with
    | .ref l, [.lst ys], q2 =>
      simp only [bmW] at q2
      cases c : S2[l]? with
      | none => rw [c] at q2; exact False.elim q2
      | some o =>
        rw [c] at q2
        cases o <;> first | (exact False.elim q2; done) | skip
        rename_i xs
        dsimp only at q2
        by_cases hz : xs.length + ys.length ≤ sizeLine
        · rw [if_pos hz] at q2
          simp only [VR] at r1
          obtain ⟨a, g1, rfl⟩ := r1
          obtain ⟨v, rfl, rv⟩ := r2.one
          simp only [VR] at rv
          obtain ⟨b, zs, rfl, t1, t2, t3, t4⟩ := rv
          obtain ⟨us, h1, h2, h3⟩ := s2.ob l a _ g1 c
          have el : us.length + zs.length ≤ sizeLine := by rw [← h3.len, ← t4.len]; exact hz
          obtain ⟨y1, y2⟩ := put_lst s2 g1 (xs := xs ++ ys) (vs := us ++ zs) (by rw [List.length_append]; exact el) (h3.app t4)
          exact ⟨a, b, us, zs, rfl, rfl, h1, t1, el, q2 ρ2 _ _ y1 y2 (by simp [VR])⟩
        · rw [if_neg hz] at q2; exact False.elim q2
    | .ref l, [.ref l'], q2 =>
      simp only [bmW] at q2
      cases c : S2[l]? with
      | none => rw [c] at q2; exact False.elim q2
      | some o =>
        rw [c] at q2
        cases o <;> first | (exact False.elim q2; done) | skip
        rename_i xs
        cases c' : S2[l']? with
        | none => rw [c'] at q2; exact False.elim q2
        | some o' =>
          rw [c'] at q2
          cases o' <;> first | (exact False.elim q2; done) | skip
          rename_i ys
          dsimp only at q2
          by_cases hz : xs.length + ys.length ≤ sizeLine
          · rw [if_pos hz] at q2
            simp only [VR] at r1
            obtain ⟨a, g1, rfl⟩ := r1
            obtain ⟨v, rfl, rv⟩ := r2.one
            simp only [VR] at rv
            obtain ⟨b, t1, rfl⟩ := rv
            obtain ⟨us, h1, h2, h3⟩ := s2.ob l a _ g1 c
            obtain ⟨zs, t2, t3, t4⟩ := s2.ob l' b _ t1 c'
            have el : us.length + zs.length ≤ sizeLine := by rw [← h3.len, ← t4.len]; exact hz
            obtain ⟨y1, y2⟩ := put_lst s2 g1 (xs := xs ++ ys) (vs := us ++ zs) (by rw [List.length_append]; exact el) (h3.app t4)
            exact ⟨a, b, us, zs, rfl, rfl, h1, t2, el, q2 ρ2 _ _ y1 y2 (by simp [VR])⟩
          · rw [if_neg hz] at q2; exact False.elim q2
  | popAt =>
    refine (pe_bm PySem.F.plainAttrs_list PySem.F.slot_list_pop PySem.F.type_list_pop mt_popAt ha hes (supBase hn _) fw hl st pl).run pins s σ H Q I (bm_rd (by decide) er sr q fun w1 S1 ws S2 ρ2 H2 v1 vs e1 e2 s2 r1 r2 q2 => ?_)
    match w1, ws, q2 with
    | .ref l, [.int i], q2 =>
      simp only [bmW] at q2
      cases c : S2[l]? with
      | none => rw [c] at q2; exact False.elim q2
      | some o =>
        rw [c] at q2
        cases o <;> first | (exact False.elim q2; done) | skip
        rename_i xs
        dsimp only at q2
        by_cases hz : -(2 ^ 63) ≤ i ∧ i < 2 ^ 63
        · rw [if_pos hz] at q2
          cases ck : seqIndex? i xs.length with
          | none => rw [ck] at q2; exact False.elim q2
          | some kk =>
            rw [ck] at q2
            dsimp only at q2
            cases cy : xs[kk]? with
            | none => rw [cy] at q2; exact False.elim q2
            | some y =>
              rw [cy] at q2
              dsimp only at q2
              simp only [VR] at r1
              obtain ⟨a, g1, rfl⟩ := r1
              obtain ⟨v, rfl, rv⟩ := r2.one
              cases rv.int_inv
              obtain ⟨us, h1, h2, h3⟩ := s2.ob l a _ g1 c
              obtain ⟨u, hu, ru⟩ := h3.get cy
              obtain ⟨y1, y2⟩ := put_lst s2 g1 (xs := xs.eraseIdx kk) (vs := us.eraseIdx kk) (Nat.le_trans (List.length_eraseIdx_le _ _) h2) (h3.eraseIdx kk)
              exact ⟨a, us, i, kk, u, rfl, rfl, h1, hz.1, hz.2, by rw [← h3.len]; exact ck, hu, q2 ρ2 _ _ y1 y2 (ru.mono y1)⟩
        · rw [if_neg hz] at q2; exact False.elim q2
  | index =>
    have hu : X.A.units + 65 < cLine := by have := O.room.un; omega
    refine (pe_bm PySem.F.plainAttrs_list PySem.F.slot_list_index PySem.F.type_list_index (mt_indexD hu) ha hes (supBase hn _) fw hl st pl).run pins s σ H Q I (bm_rd (by decide) er sr q fun w1 S1 ws S2 ρ2 H2 v1 vs e1 e2 s2 r1 r2 q2 => ?_)
    match ws, q2 with
    | [w], q2 =>
      simp only [bmW] at q2
      split at q2
      · rename_i xs y' ex ey
        split at q2
        · rename_i hc
          obtain ⟨c1, c2, c3, c4⟩ := hc
          cases cj : ixOf (toD y') xs with
          | none => rw [cj] at q2; exact False.elim q2
          | some j =>
            rw [cj] at q2
            dsimp only at q2
            obtain ⟨v, rfl, rv⟩ := r2.one
            have d1 := readW_ok s2 r1 ex (by simpa [isD] using c1)
            have d2 := readW_ok s2 rv ey c2
            obtain ⟨a, rfl⟩ : ∃ a, v1 = V.ref a := by
              have d1' : Dp X.K H2 v1 (.list (toDs xs)) := d1
              cases d1' with
              | lst _ _ => exact ⟨_, rfl⟩
            obtain ⟨z, z1, z2, z3⟩ := ixOf_ok _ _ _ cj
            exact ⟨a, v, toD y', toDs xs, j, z, rfl, rfl, d1, d2, c3, c4, z1, z2, z3, q2 ρ2 H2 _ Ext.refl s2 (by simp [VR])⟩
        · exact False.elim q2
      · exact False.elim q2
  | pop0 => cases hk
  | get2 => cases hk
theorem s_pop0 (O : XOk P T k gb N dfm sc X) (hn : noSup ea = true) (hl : (apos.endLine == pos.line) = true) (ha : PE X ea (tE P T X.K ma)) :
    PE X (.Call (.Attribute ea "pop" apos) [] [] pos) (tE P T X.K (bmM .pop0 ma fun _ S => .ok [] S)) := by
  refine ⟨fun pins s σ H Q I q => ?_⟩
  obtain ⟨ρ, env, S, er, sr, q⟩ := q
  refine (pe_bm0 PySem.F.plainAttrs_list PySem.F.slot_list_pop PySem.F.type_list_pop mt_pop ha (supBase hn _) hl).run pins s σ H Q I ⟨ρ, env, S, er, sr, (Post.bind q).impE fun w1 S1 e1 ρ1 H1 v1 x1 s1 r1 q1 => ?_⟩
  by_cases c : bmK S1 .pop0 w1 = true
  · rw [if_pos c] at q1
    refine ⟨lst_ty r1 s1 c, ?_⟩
    simp only [R.bind] at q1
    match w1, q1 with
    | .ref l, q1 =>
      simp only [bmW] at q1
      cases c : S1[l]? with
      | none => rw [c] at q1; exact False.elim q1
      | some o =>
        rw [c] at q1
        cases o <;> first | (exact False.elim q1; done) | skip
        rename_i xs
        dsimp only at q1
        cases cy : xs[xs.length - 1]? with
        | none => rw [cy] at q1; exact False.elim q1
        | some y =>
          rw [cy] at q1
          dsimp only at q1
          simp only [VR] at r1
          obtain ⟨a, g1, rfl⟩ := r1
          obtain ⟨us, h1, h2, h3⟩ := s1.ob l a _ g1 c
          obtain ⟨u, hu, ru⟩ := h3.get cy
          obtain ⟨y1, y2⟩ := put_lst s1 g1 (xs := xs.dropLast) (vs := us.dropLast) (by rw [List.length_dropLast]; omega) h3.dropLast
          exact ⟨a, us, u, rfl, rfl, h1, by rw [← h3.len]; exact hu, q1 ρ1 _ _ y1 y2 (ru.mono y1)⟩
  · rw [if_neg c] at q1
    exact False.elim q1
/-- d.get(k, z) -/
theorem s_get2 (O : XOk P T k gb N dfm sc X) (hn : noSup ea = true) (hl : (apos.endLine == pos.line) = true) (hs : [eb, ec].all nonStar = true) (ha : PE X ea (tE P T X.K ma)) (hb : PE X eb (tE P T X.K mb)) (hc : PE X ec (tE P T X.K mc)) :
    PE X (.Call (.Attribute ea "get" apos) [eb, ec] [] pos) (tE P T X.K (bmM .get2 ma fun env S => (mb env S).bind fun w S1 => ((mc env S1).bind fun w' S2 => (R.ok [] S2).bind fun ws S3 => .ok (w' :: ws) S3).bind fun ws S2 => .ok (w :: ws) S2)) := by
  refine ⟨fun pins s σ H Q I q => ?_⟩
  obtain ⟨ρ, env, S, er, sr, q⟩ := q
  have hu : X.A.units + 1 < cLine := hu_of O.room
  have M : M2 X ea "get" apos eb ec pos := ⟨supBase hn _, few_ok hs (by simp), hl, by rw [star_map hs]; rfl⟩
  refine (pe_dget2 hu ha hb hc M).run pins s σ H Q I ⟨ρ, env, S, er, sr, (Post.bind q).impE fun w1 S1 e1 ρ1 H1 v1 x1 s1 r1 q1 => ?_⟩
  by_cases c : bmK S1 .get2 w1 = true
  · rw [if_pos c] at q1
    have hd : ∃ p kvs, v1 = V.ref p ∧ H1 p = some (.dK kvs) := by
      cases cd : asDict S1 w1 with
      | none => simp only [bmK] at c; rw [cd] at c; cases c
      | some kw => obtain ⟨p, kvs, h1, h2, _⟩ := r1.dict s1 (ks := kw.1) (ws := kw.2) cd; exact ⟨p, kvs, h1, h2⟩
    obtain ⟨p, kvs, rfl, hp⟩ := hd
    refine ⟨p, rfl, .inl ⟨kvs, .inl hp⟩, ρ1, env, S1, er.mono x1, s1, ?_⟩
    dsimp only at q1
    cases c1 : mb env S1 with
    | exc _ _ _ => rw [c1] at q1; exact False.elim q1
    | bad => rw [c1] at q1; exact False.elim q1
    | ok w2 S2 =>
      rw [c1] at q1
      simp only [R.bind] at q1
      intro ρ2 H2 v2 x2 s2 r2
      refine ⟨ρ2, env, S2, (er.mono x1).mono x2, s2, ?_⟩
      cases c2 : mc env S2 with
      | exc _ _ _ => rw [c2] at q1; exact False.elim q1
      | bad => rw [c2] at q1; exact False.elim q1
      | ok w3 S3 =>
        rw [c2] at q1
        dsimp only at q1
        intro ρ3 H3 v3 x3 s3 r3
        have q3 := Post.re (x2.trans x3) q1
        simp only [bmW] at q3
        cases cd : asDict S3 w1 with
        | none => rw [cd] at q3; exact False.elim q3
        | some kw =>
          obtain ⟨ks, ws⟩ := kw
          cases ck : keyOf w2 with
          | none => rw [cd, ck] at q3; exact False.elim q3
          | some k0 =>
            rw [cd, ck] at q3
            dsimp only at q3
            obtain ⟨p', kvs', e', g1, g2, g3, g4⟩ := ((r1.mono x2).mono x3).dict s3 cd
            cases e'
            refine ⟨valV kvs' k0, by rw [key_ok (r2.mono x3) ck]; exact DGet.k g1, ?_⟩
            cases cl : dLook ks ws k0 with
            | none =>
              rw [look_none g3 g4 cl]
              rw [cl] at q3
              exact q3 ρ3 H3 v3 Ext.refl s3 r3
            | some w' =>
              obtain ⟨u, h1, h2⟩ := look_some g3 g4 cl
              rw [h1]
              rw [cl] at q3
              exact q3 ρ3 H3 u Ext.refl s3 h2
  · rw [if_neg c] at q1
    exact False.elim q1
/-! ### isinstance -/
theorem nonStar_name {x : Str} {p : Pos} : nonStar (.Name x p) = true := rfl
theorem s_isC (O : XOk P T k gb N dfm sc X) {c t : Nat} {q0 q1 : Pos} (hn : P.cname c = some t) (hg : glbC sc (P.tag t) = true) (hg2 : glbC sc "isinstance" = true) (hp : plainN (P.tag t) = true) (hs : nonStar ea = true) (ha : PE X ea (tE P T X.K ma)) :
    PE X (.Call (.Name "isinstance" q0) [ea, .Name (P.tag t) q1] [] pos) (tE P T X.K fun env S => (ma env S).bind fun x S1 => match asIns S1 x with
      | some (c', _, _) => R.of ((P.sub c' c).map .bl) S1
      | none => .bad) := by
  refine ⟨fun pins s σ H Q I q => ?_⟩
  obtain ⟨ρ, env, S, er, sr, q⟩ := q
  have hs2 : [ea, .Name (P.tag t) q1].all nonStar = true := by simp [hs, nonStar_name]
  have hcl : PE X (.Name (P.tag t) q1) (tC (.ref (T.C c))) := pe_glob (gl_of hg O.sc) (O.F.cls c t hn) rfl (plain_of hp).1
  refine (pe_callB call_isi (gl_of hg2 O.sc) (O.F.blt _ (by decide +kernel)) (by decide +kernel) (pa_cons ha (pa_cons hcl pa_nil) (star_cons hs2)) (by decide) (by decide) (star_cons hs2) rfl).run pins s σ H Q I
    ⟨ρ, env, S, er, sr, (Post.bind q).imp fun w1 S1 ρ1 H1 v1 x1 s1 r1 q1 => ?_⟩
  cases ci : asIns S1 w1 with
  | none => rw [ci] at q1; exact False.elim q1
  | some tr =>
    obtain ⟨c', ns, ws⟩ := tr
    rw [ci] at q1
    dsimp only at q1
    obtain ⟨w, hw, q2⟩ := q1.of
    cases cb : P.sub c' c with
    | none => rw [cb] at hw; cases hw
    | some b =>
      rw [cb] at hw
      cases hw
      obtain ⟨p, dx, fs, rfl, g1, g2, g3, g4, g5⟩ := r1.inst s1 ci
      obtain ⟨t1, t2, t3, t4⟩ := O.F.tyc c' c b cb
      exact ⟨_, _, _, _, b, rfl, .own _, .base (.ins g1 g3 t1 t2 t3 t4), O.F.sub c' c b cb, Ok1.bl q2 s1⟩
theorem s_isT (O : XOk P T k gb N dfm sc X) {t : Nat} {x : Str} {q0 q1 : Pos} (hx : (match t with | 0 => decide (x = "tuple") | 1 => decide (x = "list") | 2 => decide (x = "bool") | _ => false) = true) (hg : glbC sc x = true) (hg2 : glbC sc "isinstance" = true) (hp : plainN x = true) (hs : nonStar ea = true) (ha : PE X ea (tE P T X.K ma)) (hb : X.mg "bool" = none) :
    PE X (.Call (.Name "isinstance" q0) [ea, .Name x q1] [] pos) (tE P T X.K fun env S => (ma env S).bind fun x S1 => if isTW S1 x t = true then .ok (.bl true) S1 else .bad) := by
  refine ⟨fun pins s σ H Q I q => ?_⟩
  obtain ⟨ρ, env, S, er, sr, q⟩ := q
  have hs2 : [ea, .Name x q1].all nonStar = true := by simp [hs, nonStar_name]
  obtain ⟨ty, h1, h2⟩ : ∃ ty : String, PE X (.Name x q1) (tC (.ty ty)) ∧ (∀ {ρ H S w v}, SR P T X.K ρ H S → VR P T X.K ρ H w v → isTW S w t = true → TyX X.K H v (.type ty)) ∧ PySem.W.kitOne X.K (.type ty) (.type ty) = some true := by
    match t, hx with
    | 0, hx =>
      simp only [decide_eq_true_eq] at hx
      subst hx
      refine ⟨"tuple", pe_bltn (gl_of hg O.sc) (O.F.blt _ (by decide +kernel)) (by decide +kernel) rfl, fun {ρ H S w v} s r h => ?_, O.F.kty.1⟩
      cases w <;> first | (simp [isTW] at h; done) | skip
      simp only [VR] at r
      obtain ⟨p, vs, rfl, h1, _, _⟩ := r
      rcases h1 with ⟨h1, _⟩ | ⟨o, its, n, h1, h2, _⟩
      · exact .base (.tup h1)
      · exact .kTuple h1 h2
    | 1, hx =>
      simp only [decide_eq_true_eq] at hx
      subst hx
      refine ⟨"list", pe_bltn (gl_of hg O.sc) (O.F.blt _ (by decide +kernel)) (by decide +kernel) rfl, fun {ρ H S w v} s r h => ?_, O.F.kty.2.1⟩
      cases c : asLst S w with
      | none => unfold isTW at h; simp only at h; rw [c] at h; cases h
      | some xs =>
        obtain ⟨p, vs, rfl, g, _, _⟩ := asLst_H r s c
        exact .base (.lst g)
    | 2, hx =>
      simp only [decide_eq_true_eq] at hx
      subst hx
      refine ⟨"bool", pe_bltn (gl_of hg O.sc) hb (by decide +kernel) rfl, fun {ρ H S w v} s r h => ?_, O.F.kty.2.2⟩
      cases w <;> first | (simp [isTW] at h; done) | skip
      rw [r.bl_inv]
      exact .base (.bl _)
  refine (pe_callB call_isi (gl_of hg2 O.sc) (O.F.blt _ (by decide +kernel)) (by decide +kernel) (pa_cons ha (pa_cons h1 pa_nil) (star_cons hs2)) (by decide) (by decide) (star_cons hs2) rfl).run pins s σ H Q I
    ⟨ρ, env, S, er, sr, (Post.bind q).imp fun w1 S1 ρ1 H1 v1 x1 s1 r1 q1 => ?_⟩
  by_cases c : isTW S1 w1 t = true
  · rw [if_pos c] at q1
    exact ⟨_, _, _, _, true, rfl, .ty _, h2.1 s1 r1 c, h2.2, Ok1.bl q1 s1⟩
  · rw [if_neg c] at q1
    exact False.elim q1
/-! ### dicts -/
theorem s_dcopy (O : XOk P T k gb N dfm sc X) {q0 : Pos} (hg : glbC sc "dict" = true) (hs : nonStar ea = true) (ha : PE X ea (tE P T X.K ma)) :
    PE X (.Call (.Name "dict" q0) [ea] [] pos) (tE P T X.K fun env S => (ma env S).bind fun x S1 => match asDict S1 x with
      | some (ks, ws) => .ok (.ref S1.length) (S1 ++ [.dK ks ws])
      | none => .bad) := by
  refine ⟨fun pins s σ H Q I q => ?_⟩
  obtain ⟨ρ, env, S, er, sr, q⟩ := q
  have hs2 : [ea].all nonStar = true := by simp [hs]
  refine (pe_callTy call_dictD (gl_of hg O.sc) (O.F.blt _ (by decide +kernel)) (by decide +kernel) (pa_cons ha pa_nil (star_cons hs2)) (by decide) (by decide) (star_cons hs2) rfl).run pins s σ H Q I
    ⟨ρ, env, S, er, sr, (Post.bind q).imp fun w1 S1 ρ1 H1 v1 x1 s1 r1 q1 => ?_⟩
  cases c : asDict S1 w1 with
  | none => rw [c] at q1; exact False.elim q1
  | some kw =>
    obtain ⟨ks, ws⟩ := kw
    rw [c] at q1
    dsimp only at q1
    obtain ⟨p, kvs, rfl, g1, g2, g3, g4⟩ := r1.dict s1 c
    refine ⟨p, kvs, rfl, .inl g1, fun d hd => ?_⟩
    have x2 : Ext ρ1 H1 (ρ1 ++ [d]) (upd H1 d (.dK kvs)) := Ext.push (keep_upd hd) hd
    refine q1 (ρ1 ++ [d]) _ _ x2 (s1.push (keep_upd hd) hd ⟨kvs, upd_same, g2, g3, g4.mono x2⟩) ?_
    simp only [VR]
    exact ⟨d, by rw [← s1.len, List.getElem?_append_right (Nat.le_refl _)]; simp, rfl⟩
theorem putK_new {kvs : List (Key × V)} {k : Key} {v : V} (h : k ∉ kvs.map (·.1)) : putK kvs k v = kvs ++ [(k, v)] := by
  unfold putK
  rw [if_neg]
  rw [List.any_eq_true]
  rintro ⟨kv, h1, h2⟩
  simp only [decide_eq_true_eq] at h2
  exact h (h2 ▸ List.mem_map_of_mem (f := fun kv : Key × V => kv.1) h1)
theorem mergeK_nodup : ∀ (more kvs : List (Key × V)), ((kvs ++ more).map (·.1)).Nodup → mergeK kvs more = kvs ++ more
  | [], kvs, _ => by simp [mergeK]
  | p :: more, kvs, h => by
    have h1 : p.1 ∉ kvs.map (·.1) := by
      rw [List.map_append, List.map_cons, List.nodup_append] at h
      exact fun z => h.2.2 _ z _ List.mem_cons_self rfl
    show mergeK (putK kvs p.1 p.2) more = _
    rw [putK_new h1, mergeK_nodup more (kvs ++ [(p.1, p.2)]) (by simpa using h)]
    simp
/-- the pairs of a display, one by one -/
theorem LE.pairs {ks : List Nat} : ∀ {keys : List (Option Expr)}, chkK P ks keys = true → LE P T X es ms → ks.length = es.length →
    ∃ trs, PPs X pos keys es trs ∧ keys.length = es.length ∧ keys.all (·.isSome) = true ∧ ∀ (σ : L2.St) (H : Hp) (Q : List (V × V) → Hp → Prop) (ρ : List Addr) (env : Env) (S : Sto), ER P T X.K ρ H env σ → SR P T X.K ρ H S →
      PostL P T X.K ρ H (ms env S) (fun _ _ _ H' vs => Q ((ks.map fun t => V.str (P.tag t)).zip vs) H') → tPairs trs σ H Q := by
  intro keys hk h
  induction h generalizing ks keys with
  | nil =>
    intro hl
    have : ks = [] := List.length_eq_zero_iff.mp hl
    subst this
    cases keys with
    | nil => exact ⟨[], pps_nil, rfl, rfl, fun σ H Q ρ env S er sr q => q ρ H [] Ext.refl sr VRs.nil⟩
    | cons _ _ => simp [chkK] at hk
  | @cons e es m ms h1 h2 h3 ih =>
    intro hl
    cases ks with
    | nil => simp at hl
    | cons t ks =>
      cases keys with
      | nil => simp [chkK] at hk
      | cons key keys =>
        unfold chkK at hk
        split at hk
        · rename_i s0 j0 p0 keys' heq
          simp only [List.cons.injEq] at heq
          obtain ⟨rfl, rfl⟩ := heq
          simp only [Bool.and_eq_true, decide_eq_true_eq] at hk
          obtain ⟨rfl, hk⟩ := hk
          obtain ⟨trs, i1, i2, i3, i4⟩ := ih hk (by simpa using hl)
          refine ⟨_, pps_cons pe_str h1 i1, by simp [i2], by simpa using i3, fun σ H Q ρ env S er sr q => ?_⟩
          show tE P T X.K m σ H _
          refine ⟨ρ, env, S, er, sr, (Post.bindL q).imp fun w1 S1 ρ1 H1 v1 x1 s1 r1 q1 => ?_⟩
          refine i4 σ H1 _ ρ1 env S1 (er.mono x1) s1 ((q1.consBind r1).imp fun ws S2 ρ2 H2 vs x2 s2 r2 q2 => ?_)
          simpa using q2
        · cases hk
theorem zip_map_kv : ∀ {ks : List Nat} {vs : List V}, ks.length = vs.length → (ks.map fun t => V.str (P.tag t)).zip vs = ((ks.map fun t => (Sum.inr (P.tag t) : Key)).zip vs).map fun kv => (kV kv.1, kv.2)
  | [], _, _ => by simp
  | t :: ks, [], h => by simp at h
  | t :: ks, v :: vs, h => by
    simp only [List.map_cons, List.zip_cons_cons]
    rw [zip_map_kv (by simpa using h)]
    rfl
theorem map_fst_zip' {α β : Type} : ∀ {l : List α} {l' : List β}, l.length = l'.length → (l.zip l').map (·.1) = l
  | [], _, _ => by simp
  | a :: l, [], h => by simp at h
  | a :: l, b :: l', h => by simp [map_fst_zip' (l := l) (l' := l') (by simpa using h)]
theorem map_snd_zip' {α β : Type} : ∀ {l : List α} {l' : List β}, l.length = l'.length → (l.zip l').map (·.2) = l'
  | [], [], _ => rfl
  | [], b :: l', h => by simp at h
  | a :: l, [], h => by simp at h
  | a :: l, b :: l', h => by simp [map_snd_zip' (l := l) (l' := l') (by simpa using h)]
abbrev dispM (P : Prog) (ks : List Nat) (ms : Env → Sto → R (List W)) (ex : Sto → W → Sto → R W) : MW := fun env S => (ms env (S ++ [.dK [] []])).bind fun ws S1 => match S1[S.length]? with
      | some (.dK [] []) => if ks.length = ws.length ∧ ks.length ≤ 15 ∧ (ks.map P.tag).Nodup then
          ex S (.ref S.length) (S1.set S.length (.dK (ks.map fun t => .inr (P.tag t)) ws)) else .bad
      | _ => .bad
theorem s_dict (O : XOk P T k gb N dfm sc X) {ks : List Nat} {keys : List (Option Expr)} (hk : chkK P ks keys = true) (h : LE P T X es ms) (hl : ks.length = es.length) (h0 : ks ≠ []) (h15 : ks.length ≤ 15) :
    PE X (.Dict keys es pos) (tE P T X.K (dispM P ks ms exitR)) := by
  refine ⟨fun pins s σ H Q I q => ?_⟩
  obtain ⟨ρ, env, S, er, sr, q⟩ := q
  obtain ⟨trs, i1, i2, i3, i4⟩ := LE.pairs (pos := pos) hk h hl
  have hk0 : keys ≠ [] := fun z => h0 (List.length_eq_zero_iff.mp (by rw [hl, ← i2, z]; rfl))
  refine (pe_disp i1 i3 i2 hk0 (by omega)).run pins s σ H Q I fun p hp => ?_
  have x1 : Ext ρ H (ρ ++ [p]) (upd H p (.dK [])) := Ext.push (keep_upd hp) hp
  have s1 : SR P T X.K (ρ ++ [p]) (upd H p (.dK [])) (S ++ [.dK [] []]) := sr.push (keep_upd hp) hp ⟨[], upd_same, by simp, rfl, by simpa using VRs.nil⟩
  have rp : (ρ ++ [p])[S.length]? = some p := by rw [← sr.len, List.getElem?_append_right (Nat.le_refl _)]; simp
  refine i4 σ _ _ (ρ ++ [p]) env (S ++ [.dK [] []]) (er.mono x1) s1 ?_
  cases c : ms env (S ++ [.dK [] []]) with
  | exc _ _ _ => unfold dispM at q; rw [c] at q; exact False.elim q
  | bad => unfold dispM at q; rw [c] at q; exact False.elim q
  | ok ws S2 =>
    unfold dispM at q
    rw [c] at q
    simp only [R.bind] at q
    intro ρ2 H2 vs x2 s2 r2
    have rp2 := x2.get rp
    split at q
    · rename_i cd
      by_cases hc : ks.length = ws.length ∧ ks.length ≤ 15 ∧ (ks.map P.tag).Nodup
      · rw [if_pos hc] at q
        obtain ⟨kvs', g1, g2, g3, g4⟩ := s2.ob _ _ _ rp2 cd
        have : kvs' = [] := by simpa using g3
        subst this
        have ev : ks.length = vs.length := by rw [hc.1]; exact r2.len
        have ek : (ks.map fun t => (Sum.inr (P.tag t) : Key)).length = vs.length := by simpa using ev
        refine ⟨g1, (ks.map fun t => (Sum.inr (P.tag t) : Key)).zip vs, zip_map_kv ev, by rw [List.length_zip]; omega, ?_⟩
        have hm : mergeK [] ((ks.map fun t => (Sum.inr (P.tag t) : Key)).zip vs) = (ks.map fun t => (Sum.inr (P.tag t) : Key)).zip vs := by
          rw [mergeK_nodup _ [] ?_]
          · simp
          · rw [List.nil_append, map_fst_zip' ek]
            have : (ks.map fun t => (Sum.inr (P.tag t) : Key)) = (ks.map P.tag).map Sum.inr := by rw [List.map_map]; rfl
            rw [this]
            exact List.Pairwise.map _ (fun a b hab z => hab (Sum.inr.inj z)) hc.2.2
        rw [hm]
        have x3 : Ext ρ2 H2 ρ2 (upd H2 p (.dK ((ks.map fun t => (Sum.inr (P.tag t) : Key)).zip vs))) := Ext.put rp2
        have s3 : SR P T X.K ρ2 (upd H2 p (.dK ((ks.map fun t => (Sum.inr (P.tag t) : Key)).zip vs))) (S2.set S.length (.dK (ks.map fun t => .inr (P.tag t)) ws)) :=
          s2.put rp2 ⟨_, upd_same, by rw [List.length_zip]; have := sizeLine_eq; omega, map_fst_zip' ek, by rw [map_snd_zip' ek]; exact r2.mono x3⟩
        have rr : VR P T X.K ρ2 (upd H2 p (.dK ((ks.map fun t => (Sum.inr (P.tag t) : Key)).zip vs))) (.ref S.length) (.ref p) := by simp only [VR]; exact ⟨p, rp2, rfl⟩
        cases ce : exitR S (.ref S.length) (S2.set S.length (.dK (ks.map fun t => .inr (P.tag t)) ws)) with
        | exc _ _ _ => rw [ce] at q; exact False.elim q
        | bad => rw [ce] at q; exact False.elim q
        | ok w' S3 =>
          rw [ce] at q
          obtain ⟨y1, y2, y3⟩ := exit_ok sr ((x1.trans x2).trans x3) s3 rr ce
          exact q ρ _ _ y1 y2 y3
      · rw [if_neg hc] at q; exact False.elim q
    · exact False.elim q
end
end Eng

set_option Elab.async false
set_option linter.all false
set_option maxHeartbeats 1000000
/-! E12X: further operations: {}, t[::-1]. -/
namespace L2
open PySem PySem.Spec PyProof.Rows HT
section
variable {prog : Program} {w : World} {A : Around} {E : Value → Shared → Prop} {s : Shared}
theorem slicePart_m1 {v : Value} {Q : Option Int → Shared → Prop} (p : IsPart v (some (-1))) (h : Q (some (-1)) s) : wpAny (model prog w) A (Builtin.Slice.slicePartIndex v) Q E s := HT.slicePart_ p h
theorem places_rev (n : Nat) : Builtin.Slice.slicePlaces ((n : Int) - 1) (-1) (-1) = n := by
  unfold Builtin.Slice.slicePlaces
  have h1 : ¬ ((-1 : Int) > 0) := by omega
  have h2 : -(-1 : Int) = 1 := rfl
  simp only [h1, if_false, h2, Int.ediv_one]
  split <;> omega
theorem adjust_rev (n : Nat) : Builtin.Slice.sliceAdjust none none (-1) (n : Int) = ((n : Int) - 1, -1) := by
  unfold Builtin.Slice.sliceAdjust
  simp
theorem fm_map {α β : Type} {f : α → Option β} {g : α → β} : ∀ {l : List α}, (∀ x ∈ l, f x = some (g x)) → l.filterMap f = l.map g
  | [], _ => rfl
  | a :: l, h => by rw [List.filterMap_cons, h a List.mem_cons_self, List.map_cons, fm_map fun x hx => h x (List.mem_cons_of_mem _ hx)]
theorem pick_rev (xs : Array Value) : ((List.range xs.size).filterMap fun (m : Nat) => xs[(((xs.size : Int) - 1) + (m : Int) * (-1)).toNat]?).toArray = xs.toList.reverse.toArray := by
  congr 1
  refine List.ext_getElem? fun i => ?_
  by_cases hi : i < xs.size
  · have e : ((List.range xs.size).filterMap fun (m : Nat) => xs[(((xs.size : Int) - 1) + (m : Int) * (-1)).toNat]?) = (List.range xs.size).map fun m => (xs[xs.size - 1 - m]?).getD .none := by
      refine fm_map fun m hm => ?_
      have hm := List.mem_range.mp hm
      have : (((xs.size : Int) - 1) + (m : Int) * (-1)).toNat = xs.size - 1 - m := by omega
      rw [this]
      have h2 : xs.size - 1 - m < xs.size := by omega
      simp [h2]
    rw [e, List.getElem?_map, List.getElem?_range hi, List.getElem?_reverse (by simpa using hi)]
    have h2 : xs.size - 1 - i < xs.size := by omega
    simp [h2]
  · rw [List.getElem?_eq_none (by
      refine Nat.le_trans (List.length_filterMap_le _ _) ?_
      simp; omega), List.getElem?_eq_none (by simp; omega)]
theorem sliceApplied_rev {sl : Addr} {vs : Value} {n : Nat} {Q : Int × Int × Nat → Shared → Prop} (hs : s.heap.IsSliceOf sl .none .none vs) (ps : IsPart vs (some (-1)))
    (h : Q ((n : Int) - 1, -1, n) s) : wpAny (model prog w) A (Builtin.Slice.sliceApplied (.ref sl) (pure (n : Int))) Q E s := by
  obtain ⟨os, hos, hcs, hds⟩ := id hs
  unfold Builtin.Slice.sliceApplied Builtin.Slice.sliceFields
  refine wpAny_bind (wpAny_bind (wpAny_field hos hds (x := .none) rfl (wpAny_bind (wpAny_field hos hds (x := .none) rfl (wpAny_bind (wpAny_field hos hds (x := vs) rfl (wpAny_pure ?_)))))))
  refine wpAny_bind (HT.slicePart_ ps ?_)
  show wpAny _ _ (if ((-1 : Int) == 0) = true then _ else _) _ _ s
  rw [if_neg (by decide)]
  refine wpAny_bind (slicePart_none (wpAny_bind (slicePart_none (wpAny_bind (wpAny_pure ?_)))))
  show wpAny _ _ (match Builtin.Slice.sliceAdjust none none (-1) (n : Int) with | (lo, hi) => pure (lo, (-1 : Int), Builtin.Slice.slicePlaces lo hi (-1))) _ _ s
  rw [adjust_rev n]
  show wpAny _ _ (pure ((n : Int) - 1, (-1 : Int), Builtin.Slice.slicePlaces ((n : Int) - 1) (-1) (-1))) _ _ s
  rw [places_rev]
  exact wpAny_pure h
theorem getItem_tuple_rev {t sl : Addr} {items : Array Value} {vs : Value} {Q : Value → Shared → Prop} (ht : IsTup s.heap t items) (hs : s.heap.IsSliceOf sl .none .none vs) (ps : IsPart vs (some (-1)))
    (h : Q (.ref s.heap.objs.size) { s with heap := s.heap.push { cls := .type "tuple", data := .seq items.toList.reverse.toArray } })
    (hsz : items.size ≤ sizeLine) : wpAny (model prog w) A (getItem (.ref t) (.ref sl)) Q E s := by
  have htake : sizeOk (.seq items.toList.reverse.toArray) := by
    show items.toList.reverse.toArray.size ≤ sizeLine
    simpa using hsz
  obtain ⟨os, hos, hcs, hds⟩ := id hs
  have hTs : s.TypeIs (.ref sl) "slice" := ⟨os, hos, hcs⟩
  unfold getItem
  try with_reducible refine wpAny_holding ?_
  first | refine wpAny_bind (wpAny_pure ?_) | skip
  refine wpAny_bind (wpAny_sequenceKey ht.typeIs (by decide) ?_)
  refine wpAny_bind (wpAny_callSpecial?_slot (name := Str.ofString "__getitem__") ht.typeIs PyProof.Rows.slot_tuple_getitem
    (wpAny_call_entry PyProof.Rows.slot_tuple_getitem ht.typeIs entry_tuple_getitem ?_ (args_tuple_getitem _ _)))
  show wpAny _ _ (Builtin.Tuple.tupleItemsOf (.ref t) >>= _) _ _ s
  refine wpAny_bind (tupleItemsOf_ ht ?_)
  refine wpAny_bind (wpAny_typeOf hTs ?_)
  rw [if_pos (by decide)]
  refine wpAny_bind (sliceApplied_rev hs ps ?_)
  have hno : ¬ ((((items.size : Int) - 1) == 0 && (-1 : Int) == 1 && items.size == items.size) = true) := by
    intro q
    rw [Bool.and_eq_true, Bool.and_eq_true] at q
    exact absurd q.1.2 (by decide)
  show wpAny _ _ (if (((items.size : Int) - 1) == 0 && (-1 : Int) == 1 && items.size == items.size) = true then _ else _) _ _ s
  rw [if_neg hno, pick_rev]
  first
    | exact wpAny_bind (m := Builtin.Tuple.tupleExact _) (wpAny_newObj_type (wpAny_pure ⟨_, rfl, wpAny_pure h⟩) htake)
    | exact wpAny_bind (m := Builtin.Tuple.tupleExact _) (wpAny_newObj_type (wpAny_bind (wpAny_pure (wpAny_pure ⟨_, rfl, wpAny_pure h⟩))) htake)
    | exact wpAny_bind (wpAny_bind (m := Builtin.Tuple.tupleExact _) (wpAny_newObj_type (wpAny_pure (wpAny_pure ⟨_, rfl, wpAny_pure h⟩)) htake))
    | exact wpAny_bind (wpAny_bind (m := Builtin.Tuple.tupleExact _) (wpAny_newObj_type (wpAny_pure ⟨_, rfl, wpAny_pure h⟩) htake))
end
section
variable {X : Cx}
def tRevT (K : PySem.W.Frag) (te : TE) : TE := fun σ H Q => te σ H fun x H1 => ∃ a xs, x = .ref a ∧ SqT K H1 a xs ∧ ∀ p, H1 p = none → Q (.ref p) (upd H1 p (.tup xs.reverse))
theorem pe_revT {e : Expr} {te : TE} {k : Nat} {p1 p2 p3 pos : Pos} (he : PE X e te) : PE X (.Subscript e (.Slice none none (some (.UnaryOp .USub (.Constant (.int 1) k p1) p2)) p3) pos) (tRevT X.K te) := by
  refine ⟨fun pins s σ H Q I h => ?_⟩
  refine Subscript_ (thn (he.run pins s σ H _ I h) fun v s1 ⟨x, H1, I1, r1, q1⟩ => ?_)
  obtain ⟨a, xs, ex, hx, q⟩ := q1
  subst ex
  cases r1
  have hst : PO X (some (.UnaryOp .USub (.Constant (.int 1) k p1) p2)) (tPart (tUn (rU fun i => .int (-i)) (tC (.int 1)))) := po_some (pe_un un_neg pe_int)
  refine wpAny_Slice (thn (po_none.run pins s1 σ H1 (fun o H2 => o = none ∧ H2 = H1) I1 ⟨rfl, rfl⟩) fun vl s2 ⟨l, H2, I2, pl, el, e2⟩ => ?_)
  subst el e2
  refine thn (po_none.run pins s2 σ H2 (fun o H3 => o = none ∧ H3 = H2) I2 ⟨rfl, rfl⟩) fun vu s3 ⟨u, H3, I3, pu, eu, e3⟩ => ?_
  subst eu e3
  refine thn (hst.run pins s3 σ H3 (fun o H4 => o = some (-1) ∧ H4 = H3) I3 ⟨1, rfl, -1, rfl, rfl, rfl⟩) fun vs s4 ⟨o, H4, I4, ps, eo, e4⟩ => ?_
  subst eo e4
  cases pl
  cases pu
  have I5 : Inv X pins σ H4 { s4 with heap := s4.heap.push { cls := .type "slice", data := .fields #[.none, .none, vs] } } := I4.kept (t' := s4.toks) fun b ob q => Heap.get?_push_of_some _ q
  obtain ⟨its, r, ht, hz⟩ := I5.tuple hx
  show wpAny (model X.prog X.w) X.A (subscriptTail e (.Slice none none (some (.UnaryOp .USub (.Constant (.int 1) k p1) p2)) p3) (.ref a) (.ref s4.heap.objs.size)) (EP X pins σ Q) X.xe { s4 with heap := s4.heap.push { cls := .type "slice", data := .fields #[.none, .none, vs] } }
  refine tail_any (ops := [.ref a, .ref s4.heap.objs.size]) ht.typeIs PyProof.Rows.slot_tuple_getitem.lookup ?_ (by with_unfolding_all rfl)
  refine getItem_tuple_rev ht (Heap.IsSliceOf.new _ .none .none vs) ps ?_ (by rw [List.size_toArray]; have := r.length; omega)
  refine ⟨.ref _, _, I5.laid (t' := s4.toks) (o := .tup xs.reverse) (fun b ob q => Heap.get?_push_of_some _ q) (Nat.le_refl _) ?_, rfl, q _ (I5.hok.fresh (Nat.le_refl _))⟩
  exact ⟨by rw [List.length_reverse]; exact hz, _, r.reverse, IsTup.new _ _⟩
end
end L2
namespace Eng
open PySem L2
section
variable {K : PySem.W.Frag} {P : Prog} {T : Adr} {ρ : List Addr} {H : Hp} {S : Sto} {X : Cx} {ea : Expr} {pos p1 p2 p3 : Pos} {kk : Tok} {ma : MW}
theorem s_revT (ha : PE X ea (tE P T X.K ma)) : PE X (.Subscript ea (.Slice none none (some (.UnaryOp .USub (.Constant (.int 1) kk p1) p2)) p3) pos) (tE P T X.K fun env S => (ma env S).bind fun w S1 => xW S1 .revT [w]) := by
  refine ⟨fun pins s σ H Q I q => ?_⟩
  obtain ⟨ρ, env, S, er, sr, q⟩ := q
  refine (pe_revT ha).run pins s σ H Q I ⟨ρ, env, S, er, sr, (Post.bind q).imp fun w1 S1 ρ1 H1 v1 x1 s1 r1 q1 => ?_⟩
  cases w1 <;> first | (exact False.elim q1; done) | skip
  rename_i ws
  obtain ⟨p, vs, rfl, hsq, hlen, hv⟩ := r1.tup_inv
  exact ⟨p, vs, rfl, hsq, fun l' hl' => Ok1.tup q1 s1 (VRs.rev hv) (by rw [List.length_reverse]; exact hlen) hl'⟩
theorem s_dnew : PE X (.Dict [] [] pos) (tE P T X.K fun _ S => .ok (.ref S.length) (S ++ [.dK [] []])) := by
  refine ⟨fun pins s σ H Q I q => ?_⟩
  obtain ⟨ρ, env, S, er, sr, q⟩ := q
  refine pe_dnewK.run pins s σ H Q I fun p hp => ?_
  have x2 : Ext ρ H (ρ ++ [p]) (upd H p (.dK [])) := Ext.push (keep_upd hp) hp
  refine q (ρ ++ [p]) _ _ x2 (sr.push (keep_upd hp) hp ⟨[], upd_same, Nat.zero_le _, rfl, VRs.nil⟩) ?_
  simp only [VR]
  exact ⟨p, by rw [← sr.len, List.getElem?_append_right (Nat.le_refl _)]; simp, rfl⟩
end
end Eng

set_option Elab.async false
set_option linter.all false
set_option maxHeartbeats 1000000
/-! E12R: repr(a) == repr(b) of data, where no display is under way. -/
namespace Eng
open PySem L2 PyProof.Rows
def rRepr (K : PySem.W.Frag) : List V → Hp → VK → Prop := fun xs H Q => ∃ a d, xs = [.ref a] ∧ Dp K H (.ref a) d ∧ okD d = true ∧ Q (.str d.shown) H
theorem call_reprD {X : Cx} (hg : X.A.guards = some []) (hu : X.A.units + 200 < cLine) : CallR X (.builtin "repr") (rRepr X.K) := by
  intro pins s σ H xs us Q I r h
  obtain ⟨a, d, rfl, hd, ok, q⟩ := h
  obtain ⟨u, rfl, ru⟩ := vals1 r
  obtain ⟨as, hr⟩ := Dp.reads I d _ _ hd ru
  obtain rfl : u = Value.ref a := ru
  simp only [okD, Bool.and_eq_true, Bool.not_eq_true', decide_eq_true_eq] at ok
  obtain ⟨⟨⟨o1, o2⟩, o3⟩, o4⟩ := ok
  exact repr_of_reads' hr o1 (fun e => by rw [o2] at e; cases e) hg (by omega) (fun _ _ e => e) (fun h' u tk hk => ⟨.str _, H, I.kept hk, ⟨_, rfl⟩, q⟩) o4
section
variable {P : Prog} {T : Adr} {ρ : List Addr} {H : Hp} {S : Sto} {X : Cx} {k : Nat} {N : List Str} {gb dfm : Bool} {sc : Scope} {ea eb : Expr} {p0 p1 p2 p3 pos : Pos} {ma mb : MW}
def repM (gb ne : Bool) (ma mb : MW) : MW := fun env S => if gb = true then (ma env S).bind fun x S1 => (R.of (showD S1 x) S1).bind fun d S2 => (mb env S2).bind fun y S3 => R.of ((showD S3 y).map fun e => .bl (if ne = true then !(d.shown == e.shown) else d.shown == e.shown)) S3 else .bad
theorem show_ok {K : PySem.W.Frag} {w : W} {v : V} {d : PyData} (s : SR P T K ρ H S) (r : VR P T K ρ H w v) (e : showD S w = some d) : ∃ a, v = .ref a ∧ Dp K H v d ∧ okD d = true := by
  unfold showD at e
  split at e
  · rename_i w' er
    split at e
    · rename_i c
      obtain ⟨c1, c2, c3⟩ := c
      cases e
      have hd := readW_ok s r er c2
      cases w' <;> simp only [isSq, Bool.false_eq_true] at c1
      · simp only [toD] at hd c3 ⊢
        cases hd with
        | tup h1 h2 => exact ⟨_, rfl, .tup h1 h2, c3⟩
      · simp only [toD] at hd c3 ⊢
        cases hd with
        | lst h1 h2 => exact ⟨_, rfl, .lst h1 h2, c3⟩
    · cases e
  · cases e
theorem pe_reprC (O : XOk P T k gb N dfm sc X) (hgb : gb = true) (hg : glbC sc "repr" = true) (hs : nonStar ea = true) {t : TE} (ha : PE X ea t) :
    PE X (.Call (.Name "repr" p0) [ea] [] p1) (tCB (rRepr X.K) (tCons t tNil)) := by
  have hu : X.A.units + 200 < cLine := by have := O.room.un; omega
  exact pe_callB (call_reprD (O.gds hgb) hu) (gl_of hg O.sc) (O.F.blt _ (by decide +kernel)) (by decide +kernel) (pa_cons ha pa_nil (star_cons (by simpa using hs))) (by decide) (by decide) (star_cons (by simpa using hs)) (star_plain (by simp))
theorem s_rep (O : XOk P T k gb N dfm sc X) {ne : Bool} {o : CmpOp} (hg : glbC sc "repr" = true) (hsa : nonStar ea = true) (hsb : nonStar eb = true) (ho : (match o with | .Eq => !ne | .NotEq => ne | _ => false) = true)
    (ha : PE X ea (tE P T X.K ma)) (hb : PE X eb (tE P T X.K mb)) :
    PE X (.Compare (.Call (.Name "repr" p0) [ea] [] p1) [o] [.Call (.Name "repr" p2) [eb] [] p3] pos) (tE P T X.K (repM gb ne ma mb)) ∧
    PT X (.Compare (.Call (.Name "repr" p0) [ea] [] p1) [o] [.Call (.Name "repr" p2) [eb] [] p3] pos) (tT P T X.K (repM gb ne ma mb)) := by
  cases hgb : gb with
  | false =>
    refine ⟨⟨fun pins s σ H Q I q => ?_⟩, ⟨fun pins s σ H Q I q => ?_⟩⟩
    · obtain ⟨ρ, env, S, er, sr, q⟩ := q
      exact False.elim q
    · obtain ⟨ρ, env, S, er, sr, q⟩ := q
      exact False.elim q
  | true =>
    have pa := pe_reprC (p0 := p0) (p1 := p1) O hgb hg hsa ha
    have pb := pe_reprC (p0 := p2) (p1 := p3) O hgb hg hsb hb
    -- the rule
    have core : ∀ {r : R2}, (∀ (x y : Str) H (Q : VK), Q (.bl (if ne = true then !(x == y) else x == y)) H → r (.str x) (.str y) H Q) → ∀ {σ : L2.St} {H : Hp} {Q : VK} {ρ : List Addr} {env : Env} {S : Sto}, ER P T X.K ρ H env σ → SR P T X.K ρ H S →
        Post P T X.K ρ H (repM true ne ma mb env S) (fun _ _ _ H' v => Q v H') →
        tOp r (tCB (rRepr X.K) (tCons (tE P T X.K ma) tNil)) (tCB (rRepr X.K) (tCons (tE P T X.K mb) tNil)) σ H Q := by
      intro r hr σ H Q ρ env S er sr q
      unfold repM at q
      rw [if_pos rfl] at q
      refine ⟨ρ, env, S, er, sr, q.bind.impE fun w1 S1 e1 ρ1 H1 v1 x1 s1 r1 q1 => ?_⟩
      cases c1 : showD S1 w1 with
      | none => rw [c1] at q1; exact False.elim q1
      | some d =>
        rw [c1] at q1
        obtain ⟨a, rfl, hd, ok⟩ := show_ok s1 r1 c1
        have q2 : Post P T X.K ρ1 H1 ((mb env S1).bind fun y S3 => R.of ((showD S3 y).map fun e => .bl (if ne = true then !(d.shown == e.shown) else d.shown == e.shown)) S3) (fun _ _ _ H' v => Q v H') := q1
        refine ⟨a, d, rfl, hd, ok, ρ1, env, S1, er.mono x1, s1, q2.bind.impE fun w2 S2 e2 ρ2 H2 v2 x2 s2 r2 q3 => ?_⟩
        cases c2 : showD S2 w2 with
        | none => rw [c2] at q3; exact False.elim q3
        | some e =>
          rw [c2] at q3
          obtain ⟨b, rfl, hd2, ok2⟩ := show_ok s2 r2 c2
          refine ⟨b, e, rfl, hd2, ok2, hr _ _ _ _ ?_⟩
          exact q3 ρ2 H2 _ Ext.refl s2 (by simp [VR])
    have fin : ∀ {r : R2}, OpR X (compareOp o) r → (∀ (x y : Str) H (Q : VK), Q (.bl (if ne = true then !(x == y) else x == y)) H → r (.str x) (.str y) H Q) → behindInMarks o (.Call (.Name "repr" p2) [eb] [] p3) = false →
        PE X (.Compare (.Call (.Name "repr" p0) [ea] [] p1) [o] [.Call (.Name "repr" p2) [eb] [] p3] pos) (tE P T X.K (repM true ne ma mb)) ∧
        PT X (.Compare (.Call (.Name "repr" p0) [ea] [] p1) [o] [.Call (.Name "repr" p2) [eb] [] p3] pos) (tT P T X.K (repM true ne ma mb)) := by
      intro r hop hr hm
      refine ⟨⟨fun pins s σ H Q I q => ?_⟩, ⟨fun pins s σ H Q I q => ?_⟩⟩
      · obtain ⟨ρ, env, S, er, sr, q⟩ := q
        exact (pe_cmpR hop pa pb hm).run pins s σ H Q I (core hr er sr q)
      · obtain ⟨ρ, env, S, er, sr, q⟩ := q
        refine (pt_cmpR hop pa pb hm).run pins s σ H Q I (core hr er sr (q.of.impE fun w S1 e1 ρ1 H1 v x1 s1 r1 q1 => ?_))
        obtain ⟨b, rfl, q2⟩ := q1
        exact ⟨b, r1.bl_inv, q2⟩
    cases o <;> simp only [Bool.false_eq_true, Bool.not_eq_true'] at ho
    · subst ho
      exact fin op_eq (fun x y H Q q => ⟨rfl, by rw [dec_str]; simpa using q⟩) rfl
    · subst ho
      exact fin op_ne (fun x y H Q q => ⟨rfl, by rw [dec_str]; simpa using q⟩) rfl
end
end Eng

set_option Elab.async false
set_option linter.all false
set_option maxHeartbeats 2000000
set_option maxRecDepth 100000
/-! E13: enumerate over a tuple. -/
namespace Eng
open PySem L2 PyProof.Rows PySem.Spec
open Sem (wp)
open AutoSeq1 (wpAny_loadPart')

theorem meets_enumerate_newT (l : Addr) (items : Array Value) :
    Meets (Builtin.«enumerate.__new__» ⟨[.type "enumerate", .ref l], []⟩) (fun _ R s => s.heap.IsTuple l items ∧
      R (.ok (.ret (.ref (s.heap.push { cls := .type "tuple_iterator", data := .fields #[.ref l, .int 0 0] }).objs.size)))
        { s with heap := (s.heap.push { cls := .type "tuple_iterator", data := .fields #[.ref l, .int 0 0] }).push { cls := .type "enumerate", data := .fields #[.none, .bool false, .ref s.heap.objs.size, rawInt 0, .none, .none] } }) :=
  .of_wp fun prog w A R s h => by
    obtain ⟨hp, g, d, tk, os⟩ := s; obtain ⟨hL, h⟩ := h
    have hsub := sub_enumerate
    have q1 : ∀ {A' : Around} {E : Value → Shared → Prop} {Q : Value → Shared → Prop}, Q (.ref hp.objs.size) ⟨hp.push { cls := .type "tuple_iterator", data := .fields #[.ref l, .int 0 0] }, g, d, tk, os⟩ → wpAny (model prog w) A' (pyIter (.ref l)) Q E ⟨hp, g, d, tk, os⟩ :=
      fun q => wpAny_pyIter_tuple (s := ⟨hp, g, d, tk, os⟩) hL q
    wp_walk using q1
    refine wpAny_stack_any fun st => wpAny_pure ?_
    split
    · rename_i c _ _ _ _ _
      cases (c == Value.type "enumerate")
      · wp_walk using q1
        exact ⟨_, rfl, h⟩
      · wp_walk using q1
        exact ⟨_, rfl, h⟩
    · wp_walk using q1
      exact ⟨_, rfl, h⟩
section
variable {prog : Program} {w : World} {A : Around} {E : Value → Shared → Prop} {s : Shared}
theorem call_enumerate_tuple {l : Addr} {items : Array Value} {Q : Value → Shared → Prop} (hL : s.heap.IsTuple l items)
    (h : ∀ h', IsEnum h' (s.heap.objs.size + 1) s.heap.objs.size 0 .none → h'.IsTupleIter s.heap.objs.size l 0 → h'.objs.size = s.heap.objs.size + 2 →
      (∀ b o, s.heap.get? b = some o → h'.get? b = some o) → Q (.ref (s.heap.objs.size + 1)) { s with heap := h' }) :
    wpAny (model prog w) A (call (.type "enumerate") [.ref l]) Q E s := by
  refine callType_new F.called_enumerate (by decide) (F.typeCall_enumerate_1 _) (F.newCall_enumerate_1 _) (fun obj => F.args_object_init_2 obj _) F.entry_enumerate_new
    (meets_enumerate_newT l items) ⟨hL, ?_⟩
  have hz : (s.heap.push { cls := .type "tuple_iterator", data := .fields #[.ref l, .int 0 0] }).objs.size = s.heap.objs.size + 1 := Heap.size_push ..
  show _ ∧ _
  rw [hz]
  have he : IsEnum ((s.heap.push { cls := .type "tuple_iterator", data := .fields #[.ref l, .int 0 0] }).push
      { cls := .type "enumerate", data := .fields #[.none, .bool false, .ref s.heap.objs.size, rawInt 0, .none, .none] }) (s.heap.objs.size + 1) s.heap.objs.size 0 .none := by
    have := Heap.get?_push_size (s.heap.push { cls := .type "tuple_iterator", data := .fields #[.ref l, .int 0 0] })
      (o := { cls := .type "enumerate", data := .fields #[.none, .bool false, .ref s.heap.objs.size, rawInt 0, .none, .none] }) rfl
    rw [hz] at this; exact this
  refine ⟨⟨_, he, rfl⟩, h _ he ⟨_, Heap.get?_push_of_some _ (Heap.get?_push_size _ rfl), rfl, rfl⟩ (by rw [Heap.size_push, hz]) fun b o x => Heap.get?_push_of_some _ (Heap.get?_push_of_some _ x)⟩
end
/-- the tuple at a, each item in a new pair -/
def IteT (K : PySem.W.Frag) (a : Addr) : It :=
  ⟨fun i H => ∃ (xs : List V) (x : V), SqT K H a xs ∧ xs[i]? = some x, fun i H v H' => ∃ T x, v = .ref T ∧ H T = none ∧ H' = upd H T (.tup [.int (i : Nat), x]) ∧ ∀ xs, SqT K H a xs → xs[i]? = some x, fun i H => ∃ xs : List V, SqT K H a xs ∧ xs.length ≤ i⟩
theorem turn_enumT {P : Program} {w : World} {K : PySem.W.Frag} {elts : List Expr} {kk : Nat} {tpos : Pos} (a e it : Addr) :
    Turn P w K (.Tuple elts kk tpos) (IteT K a) [e, it] e (fun i h => (∃ old, IsEnum h e it ((i : Nat) : Int) old) ∧ h.IsTupleIter it a i ∧ e ≠ it ∧ a ≠ it ∧ e ≠ a) where
  mem := by simp
  obj := fun i h st b hb => by
    obtain ⟨⟨old, he⟩, ⟨o, ho, hc, hd⟩, _⟩ := st
    have e' : b = e ∨ b = it := by simpa using hb
    rcases e' with z | z
    · rw [z]; exact ⟨_, he, fun v q => nomatch q⟩
    · rw [z]; exact ⟨o, ho, fun v q => by rw [hd] at q; cases q⟩
  keep := fun i h h' st k => let ⟨⟨old, he⟩, hi, hne⟩ := st; ⟨⟨old, k e (by simp) _ he⟩, hi.at fun o q => k it (by simp) o q, hne⟩
  item := by
    intro X hP hw hK hc i pins s σ H E I hf st hg
    subst hP hw hK
    obtain ⟨⟨old, he⟩, hit, hne, hai, hea⟩ := st
    obtain ⟨xs, x, hq, hx⟩ := hg
    obtain ⟨its, rv, p, hz⟩ := I.tuple hq
    obtain ⟨u, hu, ru⟩ := rv.get hx
    have hel : e < s.heap.objs.size := Heap.lt_size he
    have hil : it < s.heap.objs.size := by obtain ⟨_, q, _⟩ := hit; exact Heap.lt_size q
    have D : Draws X.prog X.w X.A.in1 it [it, a] its.toArray.size (fun i v => its.toArray[i]? = some v) (fun i h => h.IsTupleIter it a i ∧ h.IsTuple a its.toArray) := Draws.tuple (show X.A.in1.handled = none from I.ok.hd hc) it a hai its.toArray
    have hiu : its.toArray[i]? = some u := by simpa using hu
    have hlt : i < its.toArray.size := (Array.getElem?_eq_some_iff.mp hiu).1
    refine wpAny_pyNext_enum_itemD D he ⟨hit, (show s.heap.IsTuple a its.toArray from p)⟩ hlt hne (by simp [hne, hea]) fun u' h' tk hu' ho hit' hT hsz hk => ?_
    have eu : u' = u := by rw [hiu] at hu'; exact (Option.some.inj hu').symm
    subst eu
    refine ⟨_, rfl, wpAny_letOwnedTupleGo_enum (s := { s with heap := h', toks := tk + 1 }) ho fun h'' he' sb => ?_⟩
    have hT2 : h''.get? s.heap.objs.size = some { cls := .type "tuple", data := .seq #[.int i tk, u'] } := (sb.2 _ (Nat.ne_of_gt hel)).trans hT
    have new : ObjOk X.prog X.w (upd H s.heap.objs.size (.tup [.int (i : Nat), x])) h'' s.heap.objs.size (.tup [.int (i : Nat), x]) :=
      ⟨by show 2 ≤ sizeLine; decide, [.int i tk, u'], .cons ⟨_, rfl⟩ (.cons ru .nil), ⟨_, hT2, rfl, _, rfl⟩⟩
    have I1 : Inv X pins σ (upd H s.heap.objs.size (.tup [.int (i : Nat), x])) { s with heap := h'', toks := tk + 1 } :=
      I.turnedNew (ch := [e, it]) (fun b ob hb q => (sb.2 b (fun z => hb (by simp [z]))).trans (hk b ob (fun z => hb (by simp [z])) (fun z => hb (by simp [z])) q)) hf (Nat.le_refl _) new
    refine ⟨.ref s.heap.objs.size, _, I1, rfl, ⟨_, x, rfl, I.hok.fresh (Nat.le_refl _), rfl, fun ys hy => by rw [I.tuple_inj hy hq]; exact hx⟩, ⟨⟨u', ?_⟩, hit'.1.at fun o q => (sb.2 it (Ne.symm hne)).trans q, hne, hai, hea⟩, fun b hb => ?_⟩
    · have e1 : ((i + 1 : Nat) : Int) = (i : Int) + 1 := by omega
      rw [e1]; exact he'
    · have hb' : b < s.heap.objs.size := by
        have e' : b = e ∨ b = it := by simpa using hb
        rcases e' with z | z
        · rw [z]; exact hel
        · rw [z]; exact hil
      rw [upd_ne (Nat.ne_of_lt hb')]
      exact (hf b hb).1
  done := by
    intro X hP hw hK hc i pins s σ H E I hf st hg
    subst hP hw hK
    obtain ⟨⟨old, he⟩, hit, hne, hai, hea⟩ := st
    obtain ⟨xs, hq, hx⟩ := hg
    obtain ⟨its, rv, p, hz⟩ := I.tuple hq
    obtain ⟨f0, f1, f2, f3, f4, f5⟩ := hf it (by simp)
    have hl := rv.length
    have hT : s.TypeIs (.ref e) "enumerate" := ⟨_, he, rfl⟩
    unfold pyNext
    refine wpAny_bind (wpAny_attempt (wpAny_callSpecial?_slot (name := Str.ofString "__next__") hT F.slot_enumerate_next
      (wpAny_call_entry F.slot_enumerate_next hT F.entry_enumerate_next ?_ (F.args_enumerate_next_1 _))))
    show wpAny _ _ (field (.ref e) 2 >>= _) _ _ _
    refine wpAny_bind (wpAny_field he rfl (x := .ref it) rfl ?_)
    refine wpAny_bind (wpAny_nextOf_tuple_end (I.ok.hd hc) hit (show s.heap.IsTuple a its.toArray from p) (by simp; omega) fun h' x he' hx' => ?_)
    obtain ⟨o, ho, hc⟩ := hx'
    refine wpAny_bind (wpAny_isInstance (T := "StopIteration") (b := true) ⟨o, ho, hc⟩ isSubtype_stop ?_)
    exact wpAny_pure ⟨rfl, I.turned (t' := s.toks) (fun b o hb q => he' b o hb q) f0 f1 f3 f4 f5⟩
  self := fun A i s Q E st h => let ⟨⟨_, he⟩, _⟩ := st; wpAny_pyIter_enum he h
/-- enumerate(x), x a list or a tuple -/
def iEnumA (K : PySem.W.Frag) (te : TE) : TI := fun σ H R => te σ H fun v H1 => ∃ a xs, v = .ref a ∧ ((SqL K H1 a xs ∧ R (Ite K a) H1) ∨ (SqT K H1 a xs ∧ R (IteT K a) H1))
theorem pi_enumA {X : Cx} {e : Expr} {te : TE} {p pos tpos : Pos} {elts : List Expr} {kk : Nat} (hg : Gl X "enumerate") (hm : X.mg "enumerate" = none) (he : PE X e te) (hs : starEach [e] X.env = [(false, eval e X.env)]) :
    PI X (.Tuple elts kk tpos) (.Call (.Name "enumerate" p) [e] [] pos) (iEnumA X.K te) := by
  refine ⟨fun pins s σ H R I h => ?_⟩
  refine Call_ (ld_blt I hg hm boot_enumerate (PyProof.Rows.callWith_type1 (args_cons (thn (he.run pins s σ H _ I h) fun u s1 ⟨v, H1, I1, r1, q1⟩ => args_nil ?_) hs) hs rfl))
  obtain ⟨a, xs, ex, q⟩ := q1
  subst ex
  obtain rfl : u = Value.ref a := r1
  have fin : ∀ {h' : Heap} {J : It} {tn : Nat → Heap → Prop}, (∀ b o, s1.heap.get? b = some o → h'.get? b = some o) → Turn X.prog X.w X.K (.Tuple elts kk tpos) J [s1.heap.objs.size + 1, s1.heap.objs.size] (s1.heap.objs.size + 1) tn → tn 0 h' → R J H1 →
      PIE X pins σ (.Tuple elts kk tpos) R (.ref (s1.heap.objs.size + 1)) { s1 with heap := h' } := fun {h' J tn} hk T st q => by
    have I2 : Inv X pins σ H1 { s1 with heap := h' } := I1.kept (t' := s1.toks) hk
    refine ⟨s1.heap.objs.size + 1, [s1.heap.objs.size + 1, s1.heap.objs.size], _, _, H1, rfl, I2, T, st, fun b hb => ?_, q⟩
    have e' : b = s1.heap.objs.size + 1 ∨ b = s1.heap.objs.size := by simpa using hb
    have hle : s1.heap.objs.size ≤ b := by
      rcases e' with z | z
      · rw [z]; exact Nat.le_add_right _ _
      · rw [z]; exact Nat.le_refl _
    exact I1.fpOk hle (I1.hok.fresh hle)
  rcases q with ⟨hq, q⟩ | ⟨hq, q⟩
  · obtain ⟨its, rv, p', hz⟩ := I1.list hq
    exact call_enumerate_list p'.isList fun h' he hit hsz hk => wpAny_pyIter_enum he (fin hk (turn_enum a _ _) ⟨⟨.none, he⟩, hit, Nat.succ_ne_self _⟩ q)
  · obtain ⟨its, rv, p', hz⟩ := I1.tuple hq
    have ha : a < s1.heap.objs.size := by
      obtain ⟨o, ho, _⟩ := id p'
      exact Heap.lt_size ho
    exact call_enumerate_tuple (show s1.heap.IsTuple a its.toArray from p') fun h' he hit hsz hk => wpAny_pyIter_enum he (fin hk (turn_enumT a _ _) ⟨⟨.none, he⟩, hit, Nat.succ_ne_self _, Nat.ne_of_lt ha, Nat.ne_of_gt (Nat.lt_succ_of_lt ha)⟩ q)
end Eng

set_option Elab.async false
set_option linter.all false
set_option maxHeartbeats 1000000
/-! E14: what is walked; targets. -/
namespace Eng
open PySem L2
section
variable {K : PySem.W.Frag} {P : Prog} {T : Adr} {ρ ρ1 : List Addr} {H H1 : Hp} {S S1 : Sto} {X : Cx} {k : Nat} {N : List Str} {gb dfm : Bool} {sc : Scope} {e ea eb ec tg : Expr} {es : List Expr} {pos p2 p3 apos q0 tpos : Pos} {elts : List Expr} {kk : Nat} {m ma mb mc : MW}
/-! ### walkers -/
structure Wk (P : Prog) (T : Adr) (K : PySem.W.Frag) (ρ1 : List Addr) (H1 : Hp) (J : It) (xs : List W) (g : List (Nat × List W)) : Prop where
  goes : ∀ {ρ H S i}, Ext ρ1 H1 ρ H → SR P T K ρ H S → gOk S g → i < xs.length → J.go i H
  stops : ∀ {ρ H S}, Ext ρ1 H1 ρ H → SR P T K ρ H S → gOk S g → J.stop xs.length H
  yields : ∀ {ρ H S i x H'}, Ext ρ1 H1 ρ H → SR P T K ρ H S → gOk S g → i < xs.length → J.yld i H x H' → ∃ w, xs[i]? = some w ∧ Ext ρ H ρ H' ∧ SR P T K ρ H' S ∧ VR P T K ρ H' w x
theorem asList_keep {w : W} {xs : List W} (e : asList S w = some xs) (g : gOk S1 (seqG S w)) : asList S1 w = some xs := by
  cases w with
  | ref l =>
    simp only [asList] at e ⊢
    cases q : S[l]? with
    | none => rw [q] at e; cases e
    | some o =>
      rw [q] at e
      cases o with
      | lst ys =>
        cases e
        have := g (l, xs) (by simp [seqG, q])
        dsimp only at this
        rw [this]
      | _ => cases e
  | _ => simpa [asList] using e
theorem asSeq_cases {w : W} {xs : List W} (e : asSeq S w = some xs) : w = .tup xs ∨ asList S w = some xs := by
  cases w with
  | tup ys => simp only [asSeq, Option.some.injEq] at e; subst e; exact .inl rfl
  | _ => exact .inr e
theorem enumW_len : ∀ {xs : List W} {k : Nat}, (enumW k xs).length = xs.length
  | [], _ => rfl
  | _ :: xs, k => by simp [enumW, enumW_len]
theorem enumW_get : ∀ {xs : List W} {k i : Nat} {w : W}, xs[i]? = some w → (enumW k xs)[i]? = some (.tup [.int ((k + i : Nat) : Int), w])
  | [], _, _, _, h => by simp at h
  | x :: xs, k, 0, w, h => by simp at h; subst h; simp [enumW]
  | x :: xs, k, i + 1, w, h => by
    have := enumW_get (k := k + 1) (i := i) (w := w) (xs := xs) (by simpa using h)
    simp only [enumW, List.getElem?_cons_succ, this]
    rw [show k + 1 + i = k + (i + 1) by omega]
theorem zipW_len : ∀ {xs ys : List W}, (zipW xs ys).length = min xs.length ys.length
  | [], _ => by simp [zipW]
  | _ :: _, [] => by simp [zipW]
  | _ :: xs, _ :: ys => by simp [zipW, zipW_len]
theorem zipW_get : ∀ {xs ys : List W} {i : Nat} {x y : W}, xs[i]? = some x → ys[i]? = some y → (zipW xs ys)[i]? = some (.tup [x, y])
  | [], _, _, _, _, h, _ => by simp at h
  | _ :: _, [], _, _, _, _, h => by simp at h
  | x :: xs, y :: ys, 0, _, _, h, h' => by simp at h h'; subst h; subst h'; simp [zipW]
  | x :: xs, y :: ys, i + 1, _, _, h, h' => by simpa [zipW] using zipW_get (xs := xs) (ys := ys) (i := i) (by simpa using h) (by simpa using h')
theorem upTo_len : ∀ {n : Nat} {lo : Int}, (upTo lo n).length = n
  | 0, _ => rfl
  | n + 1, lo => by simp [upTo, upTo_len]
theorem upTo_get : ∀ {n i : Nat} {lo : Int}, i < n → (upTo lo n)[i]? = some (.int (lo + i))
  | 0, _, _, h => by omega
  | n + 1, 0, lo, h => by simp [upTo]
  | n + 1, i + 1, lo, h => by
    have := upTo_get (n := n) (i := i) (lo := lo + 1) (by omega)
    simp only [upTo, List.getElem?_cons_succ, this]
    rw [show lo + 1 + (i : Int) = lo + ((i + 1 : Nat) : Int) by omega]
theorem list_at {w : W} {p : Addr} {ws : List W} (r : VR P T K ρ1 H1 w (.ref p)) (e : asList S1 w = some ws) (x : Ext ρ1 H1 ρ H) (s : SR P T K ρ H S) (g : gOk S (seqG S1 w)) :
    ∃ vs, SqL K H p vs ∧ VRs P T K ρ H ws vs := by
  obtain ⟨p', vs, ep, h1, h2, h3⟩ := (r.mono x).list s (asList_keep e g)
  cases ep
  exact ⟨vs, h1, h3⟩
theorem tup_at {p : Addr} {ws : List W} (r : VR P T K ρ1 H1 (.tup ws) (.ref p)) (x : Ext ρ1 H1 ρ H) : ∃ vs, SqT K H p vs ∧ VRs P T K ρ H ws vs := by
  obtain ⟨p', vs, ep, h1, h2, h3⟩ := (r.mono x).tup_inv
  cases ep
  exact ⟨vs, h1, h3⟩
theorem lt_get {α : Type} {xs : List α} {i : Nat} (h : i < xs.length) : ∃ x, xs[i]? = some x := ⟨xs[i], by simp [h]⟩
theorem wk_list {w : W} {p : Addr} {ws : List W} (r : VR P T K ρ1 H1 w (.ref p)) (e : asList S1 w = some ws) : Wk P T K ρ1 H1 (Itl K p) ws (seqG S1 w) where
  goes := fun x s g hi => by
    obtain ⟨vs, h1, h2⟩ := list_at r e x s g
    obtain ⟨u, hu⟩ := lt_get hi
    obtain ⟨v, q, _⟩ := h2.get hu
    exact ⟨vs, v, h1, q⟩
  stops := fun x s g => by
    obtain ⟨vs, h1, h2⟩ := list_at r e x s g
    exact ⟨vs, h1, by rw [h2.len]; exact Nat.le_refl _⟩
  yields := fun x s g hi y => by
    obtain ⟨vs, h1, h2⟩ := list_at r e x s g
    obtain ⟨u, hu⟩ := lt_get hi
    obtain ⟨v, q, rv⟩ := h2.get hu
    obtain ⟨e', y⟩ := y
    subst e'
    have := y vs h1
    rw [q] at this; cases this
    exact ⟨u, hu, Ext.refl, s, rv⟩
theorem wk_tup {p : Addr} {ws : List W} (r : VR P T K ρ1 H1 (.tup ws) (.ref p)) : Wk P T K ρ1 H1 (Itt K p) ws [] where
  goes := fun x s g hi => by
    obtain ⟨vs, h1, h2⟩ := tup_at r x
    obtain ⟨u, hu⟩ := lt_get hi
    obtain ⟨v, q, _⟩ := h2.get hu
    exact ⟨vs, v, h1, q⟩
  stops := fun x s g => by
    obtain ⟨vs, h1, h2⟩ := tup_at r x
    exact ⟨vs, h1, by rw [h2.len]; exact Nat.le_refl _⟩
  yields := fun x s g hi y => by
    obtain ⟨vs, h1, h2⟩ := tup_at r x
    obtain ⟨u, hu⟩ := lt_get hi
    obtain ⟨v, q, rv⟩ := h2.get hu
    obtain ⟨e', y⟩ := y
    subst e'
    have := y vs h1
    rw [q] at this; cases this
    exact ⟨u, hu, Ext.refl, s, rv⟩
theorem wk_rng {lo : Int} {n : Nat} : Wk P T K ρ1 H1 (Itr lo n) (upTo lo n) [] where
  goes := fun x s g hi => by rw [upTo_len] at hi; exact hi
  stops := fun x s g => by rw [upTo_len]; exact Nat.le_refl _
  yields := fun x s g hi y => by
    rw [upTo_len] at hi
    obtain ⟨e', y⟩ := y
    subst e' y
    exact ⟨_, upTo_get hi, Ext.refl, s, by simp [VR]⟩
theorem rev_get {α : Type} {xs : List α} {i : Nat} (h : i < xs.length) : xs.reverse[i]? = xs[xs.length - 1 - i]? := List.getElem?_reverse h
theorem wk_rev {w : W} {p : Addr} {ws : List W} (r : VR P T K ρ1 H1 w (.ref p)) (e : asList S1 w = some ws) : Wk P T K ρ1 H1 (Itv K p ws.length) ws.reverse (seqG S1 w) where
  goes := fun x s g hi => by
    rw [List.length_reverse] at hi
    obtain ⟨vs, h1, h2⟩ := list_at r e x s g
    obtain ⟨u, hu⟩ := lt_get (xs := ws) (i := ws.length - 1 - _) (by omega)
    obtain ⟨v, q, _⟩ := h2.get hu
    exact ⟨hi, vs, v, h1, q⟩
  stops := fun x s g => by rw [List.length_reverse]; exact Nat.le_refl _
  yields := fun {ρ H S i x' H'} x s g hi y => by
    have hi' := hi
    rw [List.length_reverse] at hi
    obtain ⟨vs, h1, h2⟩ := list_at r e x s g
    obtain ⟨u, hu⟩ := lt_get (xs := ws) (i := ws.length - 1 - i) (by omega)
    obtain ⟨v, q, rv⟩ := h2.get hu
    obtain ⟨e', y⟩ := y
    subst e'
    have := y vs h1
    rw [q] at this; cases this
    exact ⟨u, (rev_get hi).trans hu, Ext.refl, s, rv⟩
theorem wk_revT {p : Addr} {ws : List W} (r : VR P T K ρ1 H1 (.tup ws) (.ref p)) : Wk P T K ρ1 H1 (RT.ItvT K p ws.length) ws.reverse [] where
  goes := fun x s g hi => by
    rw [List.length_reverse] at hi
    obtain ⟨vs, h1, h2⟩ := tup_at r x
    obtain ⟨u, hu⟩ := lt_get (xs := ws) (i := ws.length - 1 - _) (by omega)
    obtain ⟨v, q, _⟩ := h2.get hu
    exact ⟨hi, vs, v, h1, q⟩
  stops := fun x s g => by rw [List.length_reverse]; exact Nat.le_refl _
  yields := fun {ρ H S i x' H'} x s g hi y => by
    rw [List.length_reverse] at hi
    obtain ⟨vs, h1, h2⟩ := tup_at r x
    obtain ⟨u, hu⟩ := lt_get (xs := ws) (i := ws.length - 1 - i) (by omega)
    obtain ⟨v, q, rv⟩ := h2.get hu
    obtain ⟨e', y⟩ := y
    subst e'
    have := y vs h1
    rw [q] at this; cases this
    exact ⟨u, (rev_get hi).trans hu, Ext.refl, s, rv⟩
/-- a new pair -/
theorem pair_new {p : Addr} {a b : W} {u v : V} (s : SR P T K ρ H S) (h : H p = none) (ha : VR P T K ρ H a u) (hb : VR P T K ρ H b v) :
    Ext ρ H ρ (upd H p (.tup [u, v])) ∧ SR P T K ρ (upd H p (.tup [u, v])) S ∧ VR P T K ρ (upd H p (.tup [u, v])) (.tup [a, b]) (.ref p) := by
  have x : Ext ρ H ρ (upd H p (.tup [u, v])) := Ext.fresh s h
  refine ⟨x, s.new h, ?_⟩
  simp only [VR]
  exact ⟨p, [u, v], rfl, .inl ⟨upd_same, s.fresh h⟩, by show 2 ≤ sizeLine; decide, VRs.cons (ha.mono x) (VRs.cons (hb.mono x) VRs.nil)⟩
theorem wk_enum {w : W} {p : Addr} {ws : List W} (r : VR P T K ρ1 H1 w (.ref p)) (e : asList S1 w = some ws) : Wk P T K ρ1 H1 (Ite K p) (enumW 0 ws) (seqG S1 w) where
  goes := fun x s g hi => by
    rw [enumW_len] at hi
    exact (wk_list r e).goes x s g hi
  stops := fun x s g => by
    rw [enumW_len]
    exact (wk_list r e).stops x s g
  yields := fun {ρ H S i x' H'} x s g hi y => by
    rw [enumW_len] at hi
    obtain ⟨vs, h1, h2⟩ := list_at r e x s g
    obtain ⟨u, hu⟩ := lt_get hi
    obtain ⟨v, q, rv⟩ := h2.get hu
    obtain ⟨t, x2, rfl, h0, rfl, y⟩ := y
    have := y vs h1
    rw [q] at this; cases this
    obtain ⟨a1, a2, a3⟩ := pair_new (a := .int (i : Nat)) (u := .int (i : Nat)) s h0 (by simp [VR]) rv
    have z := enumW_get (k := 0) hu
    rw [Nat.zero_add] at z
    exact ⟨_, z, a1, a2, a3⟩
theorem wk_enumT {p : Addr} {ws : List W} (r : VR P T K ρ1 H1 (.tup ws) (.ref p)) : Wk P T K ρ1 H1 (IteT K p) (enumW 0 ws) [] where
  goes := fun x s g hi => by
    rw [enumW_len] at hi
    exact (wk_tup r).goes x s g hi
  stops := fun x s g => by
    rw [enumW_len]
    exact (wk_tup r).stops x s g
  yields := fun {ρ H S i x' H'} x s g hi y => by
    rw [enumW_len] at hi
    obtain ⟨vs, h1, h2⟩ := tup_at r x
    obtain ⟨u, hu⟩ := lt_get hi
    obtain ⟨v, q, rv⟩ := h2.get hu
    obtain ⟨t, x2, rfl, h0, rfl, y⟩ := y
    have := y vs h1
    rw [q] at this; cases this
    obtain ⟨a1, a2, a3⟩ := pair_new (a := .int (i : Nat)) (u := .int (i : Nat)) s h0 (by simp [VR]) rv
    have z := enumW_get (k := 0) hu
    rw [Nat.zero_add] at z
    exact ⟨_, z, a1, a2, a3⟩
theorem gOk_left {g g' : List (Nat × List W)} (h : gOk S (g ++ g')) : gOk S g := fun p hp => h p (List.mem_append_left _ hp)
theorem gOk_right {g g' : List (Nat × List W)} (h : gOk S (g ++ g')) : gOk S g' := fun p hp => h p (List.mem_append_right _ hp)
theorem wk_zip {w w' : W} {p p' : Addr} {ws ws' : List W} (r : VR P T K ρ1 H1 w (.ref p)) (e : asList S1 w = some ws) (r' : VR P T K ρ1 H1 w' (.ref p')) (e' : asList S1 w' = some ws') : Wk P T K ρ1 H1 (Itz K p p') (zipW ws ws') (seqG S1 w ++ seqG S1 w') where
  goes := fun {ρ H S i} x s g hi => by
    rw [zipW_len] at hi
    obtain ⟨xs, a, h1, h2⟩ := (wk_list r e).goes x s (gOk_left g) (i := i) (by omega)
    obtain ⟨ys, b, h3, h4⟩ := (wk_list r' e').goes x s (gOk_right g) (i := i) (by omega)
    exact ⟨xs, ys, a, b, h1, h3, h2, h4⟩
  stops := fun x s g => by
    rw [zipW_len]
    obtain ⟨vs, h1, h2⟩ := list_at r e x s (gOk_left g)
    obtain ⟨us, h3, h4⟩ := list_at r' e' x s (gOk_right g)
    have e1 := h2.len
    have e2 := h4.len
    exact ⟨vs, us, h1, h3, by omega⟩
  yields := fun {ρ H S i x' H'} x s g hi y => by
    rw [zipW_len] at hi
    obtain ⟨vs, h1, h2⟩ := list_at r e x s (gOk_left g)
    obtain ⟨us, h3, h4⟩ := list_at r' e' x s (gOk_right g)
    obtain ⟨a, ha⟩ := lt_get (xs := ws) (i := i) (by omega)
    obtain ⟨b, hb⟩ := lt_get (xs := ws') (i := i) (by omega)
    obtain ⟨v, q, rv⟩ := h2.get ha
    obtain ⟨u, q', ru⟩ := h4.get hb
    obtain ⟨t, x2, y2, rfl, h0, rfl, y, y'⟩ := y
    have z1 := y vs h1
    rw [q] at z1; cases z1
    have z2 := y' us h3
    rw [q'] at z2; cases z2
    obtain ⟨a1, a2, a3⟩ := pair_new s h0 rv ru
    exact ⟨_, zipW_get ha hb, a1, a2, a3⟩
theorem wk_zipT {p p' : Addr} {ws ws' : List W} (r : VR P T K ρ1 H1 (.tup ws) (.ref p)) (r' : VR P T K ρ1 H1 (.tup ws') (.ref p')) : Wk P T K ρ1 H1 (RZ.ItzT K p p') (zipW ws ws') [] where
  goes := fun {ρ H S i} x s g hi => by
    rw [zipW_len] at hi
    obtain ⟨xs, a, h1, h2⟩ := (wk_tup r).goes x s g (i := i) (by omega)
    obtain ⟨ys, b, h3, h4⟩ := (wk_tup r').goes x s g (i := i) (by omega)
    exact ⟨xs, ys, a, b, h1, h3, h2, h4⟩
  stops := fun x s g => by
    rw [zipW_len]
    obtain ⟨vs, h1, h2⟩ := tup_at r x
    obtain ⟨us, h3, h4⟩ := tup_at r' x
    have e1 := h2.len
    have e2 := h4.len
    exact ⟨vs, us, h1, h3, by omega⟩
  yields := fun {ρ H S i x' H'} x s g hi y => by
    rw [zipW_len] at hi
    obtain ⟨vs, h1, h2⟩ := tup_at r x
    obtain ⟨us, h3, h4⟩ := tup_at r' x
    obtain ⟨a, ha⟩ := lt_get (xs := ws) (i := i) (by omega)
    obtain ⟨b, hb⟩ := lt_get (xs := ws') (i := i) (by omega)
    obtain ⟨v, q, rv⟩ := h2.get ha
    obtain ⟨u, q', ru⟩ := h4.get hb
    obtain ⟨t, x2, y2, rfl, h0, rfl, y, y'⟩ := y
    have z1 := y vs h1
    rw [q] at z1; cases z1
    have z2 := y' us h3
    rw [q'] at z2; cases z2
    obtain ⟨a1, a2, a3⟩ := pair_new s h0 rv ru
    exact ⟨_, zipW_get ha hb, a1, a2, a3⟩
/-! ### sources -/
def PostI (P : Prog) (T : Adr) (K : PySem.W.Frag) (ρ : List Addr) (H : Hp) (r : R Items) (Q : Items → Sto → List Addr → Hp → It → Prop) : Prop :=
  match r with
  | .ok p S' => ∀ ρ' H' J, Ext ρ H ρ' H' → SR P T K ρ' H' S' → Wk P T K ρ' H' J p.1 p.2 → Q p S' ρ' H' J
  | _ => False
def tI (P : Prog) (T : Adr) (K : PySem.W.Frag) (m : Env → Sto → R Items) : TI := fun σ H R => ∃ ρ env S, ER P T K ρ H env σ ∧ SR P T K ρ H S ∧ PostI P T K ρ H (m env S) fun _ _ _ H' J => R J H'
theorem Post.bindI {r : R W} {f : W → Sto → R Items} {Q : Items → Sto → List Addr → Hp → It → Prop} (h : PostI P T K ρ H (r.bind f) Q) : Post P T K ρ H r fun w S1 ρ1 H1 _ => PostI P T K ρ1 H1 (f w S1) Q := by
  cases r with
  | ok w S1 =>
    intro ρ1 H1 v x s _
    simp only [R.bind] at h
    unfold PostI at h ⊢
    split at h
    · exact fun ρ2 H2 v2 x2 s2 q2 => h ρ2 H2 v2 (x.trans x2) s2 q2
    · exact h.elim
  | exc _ _ _ => exact h.elim
  | bad => exact h.elim
theorem PostI.re {ρ' : List Addr} {H' : Hp} {r : R Items} {Q : Items → Sto → List Addr → Hp → It → Prop} (x : Ext ρ H ρ' H') (h : PostI P T K ρ H r Q) : PostI P T K ρ' H' r Q := by
  cases r with
  | ok w S1 => exact fun ρ2 H2 J x2 s2 q2 => h ρ2 H2 J (x.trans x2) s2 q2
  | exc _ _ _ => exact False.elim h
  | bad => exact False.elim h
/-- of a list or a tuple -/
abbrev seqM (ma : MW) (f : List W → List W) : Env → Sto → R Items := fun env S => (ma env S).bind fun x S1 => match asSeq S1 x with | some xs => .ok (f xs, seqG S1 x) S1 | none => .bad
/-- what is walked is a list or a tuple: which, the small run says -/
theorem s_seqI {f : List W → List W} {wl wt : TE → TI} (hl : PI X tg e (wl (tE P T X.K ma))) (ht : PI X tg e (wt (tE P T X.K ma)))
    (rl : ∀ {te te' : TE} {σ H} {R : It → Hp → Prop}, te σ H (fun v H1 => ∃ ρ1 S1 w xs p, v = .ref p ∧ SR P T X.K ρ1 H1 S1 ∧ VR P T X.K ρ1 H1 w (.ref p) ∧ asList S1 w = some xs ∧ ∀ J, Wk P T X.K ρ1 H1 J (f xs) (seqG S1 w) → R J H1) → te = tE P T X.K ma → wl te σ H R)
    (rt : ∀ {te : TE} {σ H} {R : It → Hp → Prop}, te σ H (fun v H1 => ∃ ρ1 xs p, v = .ref p ∧ VR P T X.K ρ1 H1 (.tup xs) (.ref p) ∧ ∀ J, Wk P T X.K ρ1 H1 J (f xs) [] → R J H1) → te = tE P T X.K ma → wt te σ H R) :
    PI X tg e (tI P T X.K (seqM ma f)) := by
  refine ⟨fun pins s σ H RR I q => ?_⟩
  obtain ⟨ρ, env, S, er, sr, q⟩ := q
  have q0 := Post.bindI q
  cases hm : ma env S with
  | exc _ _ _ => rw [hm] at q0; exact False.elim q0
  | bad => rw [hm] at q0; exact False.elim q0
  | ok w S1 =>
    unfold seqM at q
    rw [hm] at q
    simp only [R.bind] at q
    cases ha : asSeq S1 w with
    | none => rw [ha] at q; exact False.elim q
    | some xs =>
      rw [ha] at q
      rcases asSeq_cases ha with e1 | e1
      · subst e1
        refine ht.run pins s σ H RR I (rt ⟨ρ, env, S, er, sr, ?_⟩ rfl)
        rw [hm]
        intro ρ1 H1 v x1 s1 r1
        obtain ⟨p, vs, rfl, _, _, _⟩ := r1.tup_inv
        exact ⟨ρ1, xs, p, rfl, r1, fun J wk => q ρ1 H1 J x1 s1 wk⟩
      · refine hl.run pins s σ H RR I (rl (te' := tE P T X.K ma) ⟨ρ, env, S, er, sr, ?_⟩ rfl)
        rw [hm]
        intro ρ1 H1 v x1 s1 r1
        obtain ⟨p, vs, rfl, _, _, _⟩ := r1.list s1 e1
        exact ⟨ρ1, S1, w, xs, p, rfl, s1, r1, e1, fun J wk => q ρ1 H1 J x1 s1 wk⟩
theorem tE.mono {Q Q' : VK} {σ : L2.St} (h : tE P T K ma σ H Q) (i : ∀ v H1, Q v H1 → Q' v H1) : tE P T K ma σ H Q' := by
  obtain ⟨ρ, env, S, er, sr, q⟩ := h
  exact ⟨ρ, env, S, er, sr, q.imp fun _ _ _ H1 v _ _ _ q => i v H1 q⟩
theorem s_iseq (ha : PE X ea (tE P T X.K ma)) : PI X tg ea (tI P T X.K (seqM ma id)) := by
  refine s_seqI (f := id) (pi_list ha) (pi_tup ha) (fun h e => ?_) (fun h e => ?_)
  · subst e
    refine tE.mono h fun v H1 ⟨ρ1, S1, w, xs, p, e, s1, r1, ea, q⟩ => ?_
    subst e
    obtain ⟨p', vs, e', hs, _, _⟩ := r1.list s1 ea
    cases e'
    exact ⟨p, rfl, ⟨vs, hs⟩, q _ (wk_list r1 ea)⟩
  · subst e
    refine tE.mono h fun v H1 ⟨ρ1, xs, p, e, r1, q⟩ => ?_
    subst e
    obtain ⟨p', vs, e', hs, _, _⟩ := r1.tup_inv
    cases e'
    exact ⟨p, rfl, ⟨vs, hs⟩, q _ (wk_tup r1)⟩
theorem s_irev (O : XOk P T k gb N dfm sc X) (hg : glbC sc "reversed" = true) (hs : nonStar ea = true) (ha : PE X ea (tE P T X.K ma)) : PI X tg (.Call (.Name "reversed" q0) [ea] [] pos) (tI P T X.K (seqM ma List.reverse)) := by
  have st : starEach [ea] X.env = (false, eval ea X.env) :: starEach [] X.env := star_cons (by simp [hs])
  have hp : PI X tg (.Call (.Name "reversed" q0) [ea] [] pos) (RT.iRevA X.K (tE P T X.K ma)) := RT.pi_revA (gl_of hg O.sc) (O.F.blt _ (by decide +kernel)) ha st
  refine s_seqI (wl := RT.iRevA X.K) (wt := RT.iRevA X.K) (f := List.reverse) hp hp (fun h e => ?_) (fun h e => ?_)
  · subst e
    refine tE.mono h fun v H1 ⟨ρ1, S1, w, xs, p, e, s1, r1, ea, q⟩ => ?_
    subst e
    obtain ⟨p', vs, e', hs, _, hv⟩ := r1.list s1 ea
    cases e'
    refine ⟨p, vs, rfl, .inl ⟨hs, q _ ?_⟩⟩
    rw [← hv.len]
    exact wk_rev r1 ea
  · subst e
    refine tE.mono h fun v H1 ⟨ρ1, xs, p, e, r1, q⟩ => ?_
    subst e
    obtain ⟨p', vs, e', hs, _, hv⟩ := r1.tup_inv
    cases e'
    refine ⟨p, vs, rfl, .inr ⟨hs, q _ ?_⟩⟩
    rw [← hv.len]
    exact wk_revT r1
theorem s_ienm (O : XOk P T k gb N dfm sc X) (hg : glbC sc "enumerate" = true) (hs : nonStar ea = true) (ha : PE X ea (tE P T X.K ma)) : PI X (.Tuple elts kk tpos) (.Call (.Name "enumerate" q0) [ea] [] pos) (tI P T X.K (seqM ma (enumW 0))) := by
  have st : starEach [ea] X.env = (false, eval ea X.env) :: starEach [] X.env := star_cons (by simp [hs])
  have hp : PI X (.Tuple elts kk tpos) (.Call (.Name "enumerate" q0) [ea] [] pos) (iEnumA X.K (tE P T X.K ma)) := pi_enumA (gl_of hg O.sc) (O.F.blt _ (by decide +kernel)) ha st
  refine s_seqI (wl := iEnumA X.K) (wt := iEnumA X.K) (f := enumW 0) hp hp (fun h e => ?_) (fun h e => ?_)
  · subst e
    refine tE.mono h fun v H1 ⟨ρ1, S1, w, xs, p, e, s1, r1, ea, q⟩ => ?_
    subst e
    obtain ⟨p', vs, e', hs, _, hv⟩ := r1.list s1 ea
    cases e'
    exact ⟨p, vs, rfl, .inl ⟨hs, q _ (wk_enum r1 ea)⟩⟩
  · subst e
    refine tE.mono h fun v H1 ⟨ρ1, xs, p, e, r1, q⟩ => ?_
    subst e
    obtain ⟨p', vs, e', hs, _, hv⟩ := r1.tup_inv
    cases e'
    exact ⟨p, vs, rfl, .inr ⟨hs, q _ (wk_enumT r1)⟩⟩
theorem s_irng1 (O : XOk P T k gb N dfm sc X) (hg : glbC sc "range" = true) (hs : nonStar ea = true) (ha : PE X ea (tE P T X.K ma)) : PI X tg (.Call (.Name "range" q0) [ea] [] pos) (tI P T X.K fun env S => (ma env S).bind fun x S1 => match x with
      | .int j => if -(2 ^ 62) ≤ j ∧ j < 2 ^ 62 then .ok (upTo 0 j.toNat, []) S1 else .bad
      | _ => .bad) := by
  refine ⟨fun pins s σ H RR I q => ?_⟩
  obtain ⟨ρ, env, S, er, sr, q⟩ := q
  have st : starEach [ea] X.env = (false, eval ea X.env) :: starEach [] X.env := star_cons (by simp [hs])
  refine (pi_range1 (gl_of hg O.sc) (O.F.blt _ (by decide +kernel)) (pa_cons ha pa_nil st) st).run pins s σ H RR I ⟨ρ, env, S, er, sr, (Post.bindI q).imp fun w1 S1 ρ1 H1 v1 x1 s1 r1 q1 => ?_⟩
  cases w1 <;> first | (exact False.elim q1; done) | skip
  rename_i j
  cases r1.int_inv
  dsimp only at q1
  split at q1
  · rename_i hj
    exact ⟨j, rfl, hj.1, hj.2, q1 ρ1 H1 _ Ext.refl s1 wk_rng⟩
  · exact False.elim q1
theorem s_irng2 (O : XOk P T k gb N dfm sc X) (hg : glbC sc "range" = true) (hs : [ea, eb].all nonStar = true) (ha : PE X ea (tE P T X.K ma)) (hb : PE X eb (tE P T X.K mb)) : PI X tg (.Call (.Name "range" q0) [ea, eb] [] pos) (tI P T X.K fun env S => (ma env S).bind fun x S1 => (mb env S1).bind fun y S2 => match x, y with
      | .int i, .int j => if -(2 ^ 62) ≤ i ∧ i < 2 ^ 62 ∧ -(2 ^ 62) ≤ j ∧ j < 2 ^ 62 then .ok (upTo i (j - i).toNat, []) S2 else .bad
      | _, _ => .bad) := by
  refine ⟨fun pins s σ H RR I q => ?_⟩
  obtain ⟨ρ, env, S, er, sr, q⟩ := q
  have hs2 : [eb].all nonStar = true := by simp only [List.all_cons, Bool.and_eq_true] at hs ⊢; exact hs.2
  have st2 : starEach [eb] X.env = (false, eval eb X.env) :: starEach [] X.env := star_cons hs2
  have st : starEach [ea, eb] X.env = (false, eval ea X.env) :: starEach [eb] X.env := star_cons hs
  refine (pi_range2 (gl_of hg O.sc) (O.F.blt _ (by decide +kernel)) (pa_cons ha (pa_cons hb pa_nil st2) st) (st.trans (by rw [st2]; rfl)) st2).run pins s σ H RR I ⟨ρ, env, S, er, sr, (Post.bindI q).imp fun w1 S1 ρ1 H1 v1 x1 s1 r1 q1 => ?_⟩
  refine ⟨ρ1, env, S1, er.mono x1, s1, (Post.bindI q1).imp fun w2 S2 ρ2 H2 v2 x2 s2 r2 q2 => ?_⟩
  cases w1 <;> first | (exact False.elim q2; done) | skip
  cases w2 <;> first | (exact False.elim q2; done) | skip
  rename_i i j
  cases r1.int_inv
  cases r2.int_inv
  dsimp only at q2
  split at q2
  · rename_i hj
    exact ⟨i, j, rfl, hj, q2 ρ2 H2 _ Ext.refl s2 wk_rng⟩
  · exact False.elim q2
theorem s_izip (O : XOk P T k gb N dfm sc X) (hg : glbC sc "zip" = true) (hs : [ea, eb].all nonStar = true) (ha : PE X ea (tE P T X.K ma)) (hb : PE X eb (tE P T X.K mb)) : PI X (.Tuple elts kk tpos) (.Call (.Name "zip" q0) [ea, eb] [] pos) (tI P T X.K fun env S => (ma env S).bind fun x S1 => (mb env S1).bind fun y S2 => match zipS S2 x y with
      | some (xs, ys) => .ok (zipW xs ys, seqG S2 x ++ seqG S2 y) S2
      | _ => .bad) := by
  refine ⟨fun pins s σ H RR I q => ?_⟩
  obtain ⟨ρ, env, S, er, sr, q⟩ := q
  have hs2 : [eb].all nonStar = true := by simp only [List.all_cons, Bool.and_eq_true] at hs ⊢; exact hs.2
  have st2 : starEach [eb] X.env = (false, eval eb X.env) :: starEach [] X.env := star_cons hs2
  have st : starEach [ea, eb] X.env = (false, eval ea X.env) :: starEach [eb] X.env := star_cons hs
  refine (RZ.pi_zipA (gl_of hg O.sc) (O.F.blt _ (by decide +kernel)) (pa_cons ha (pa_cons hb pa_nil st2) st) st (star_plain hs2)).run pins s σ H RR I ⟨ρ, env, S, er, sr, (Post.bindI q).imp fun w1 S1 ρ1 H1 v1 x1 s1 r1 q1 => ?_⟩
  refine ⟨ρ1, env, S1, er.mono x1, s1, (Post.bindI q1).imp fun w2 S2 ρ2 H2 v2 x2 s2 r2 q2 => ?_⟩
  cases c : zipS S2 w1 w2 with
  | none => rw [c] at q2; exact False.elim q2
  | some p =>
    obtain ⟨xs, ys⟩ := p
    rw [c] at q2
    have r1' := r1.mono x2
    unfold zipS at c
    split at c
    · cases c
      obtain ⟨a, va, rfl, sa, _, _⟩ := r1'.tup_inv
      obtain ⟨b, vb, rfl, sb, _, _⟩ := r2.tup_inv
      exact ⟨a, b, va, vb, rfl, .inr ⟨sa, sb, q2 ρ2 H2 _ Ext.refl s2 (wk_zipT r1' r2)⟩⟩
    · cases ca : asList S2 w1 with
      | none => rw [ca] at c; cases c
      | some xs' =>
        cases cb : asList S2 w2 with
        | none => rw [ca, cb] at c; cases c
        | some ys' =>
          rw [ca, cb] at c
          cases c
          obtain ⟨a, va, rfl, sa, _, _⟩ := r1'.list s2 ca
          obtain ⟨b, vb, rfl, sb, _, _⟩ := r2.list s2 cb
          exact ⟨a, b, va, vb, rfl, .inl ⟨sa, sb, q2 ρ2 H2 _ Ext.refl s2 (wk_zip r1' ca r2 cb)⟩⟩
end
end Eng

set_option Elab.async false
set_option linter.all false
set_option maxHeartbeats 1000000
/-! E15: targets; comprehensions. -/
namespace Eng
open PySem L2
section
variable {K : PySem.W.Frag} {P : Prog} {T : Adr} {ρ ρ1 : List Addr} {H H1 : Hp} {S S1 : Sto} {X : Cx} {k : Nat} {N : List Str} {gb dfm : Bool} {sc : Scope} {e ea eb ec tg : Expr} {es : List Expr} {pos p2 p3 apos q0 tpos : Pos} {elts : List Expr} {kk : Nat} {m ma mb mc : MW}
/-! ### slots forgotten -/
theorem wipe_get (σ : L2.St) : ∀ (vs : List Nat) (j : Nat), (wipe σ vs)[j]? = if j ∈ vs ∧ j < σ.length then some none else σ[j]?
  | [], j => by simp [wipe]
  | v :: vs, j => by
    unfold wipe
    rw [List.getElem?_set, wipe_get σ vs j, wipe_length]
    by_cases h : v = j
    · subst h
      by_cases h2 : v < σ.length
      · simp [h2]
      · simp [h2]
    · rw [if_neg h]
      have h' : ¬ j = v := fun z => h z.symm
      simp [h']
theorem wipe_wipe (σ : L2.St) (vs : List Nat) : wipe (wipe σ vs) vs = wipe σ vs := by
  apply List.ext_getElem?
  intro j
  rw [wipe_get, wipe_get, wipe_length]
  by_cases h : j ∈ vs ∧ j < σ.length
  · simp [h]
  · simp [h]
theorem wipe_set {σ : L2.St} {vs : List Nat} {i : Nat} {x : Option V} (h : i ∈ vs) : wipe (σ.set i x) vs = wipe σ vs := by
  apply List.ext_getElem?
  intro j
  rw [wipe_get, wipe_get, List.length_set]
  by_cases h2 : j ∈ vs ∧ j < σ.length
  · simp [h2]
  · rw [if_neg h2, if_neg h2, List.getElem?_set]
    by_cases h3 : i = j
    · subst h3
      have : ¬ i < σ.length := fun z => h2 ⟨h, z⟩
      simp [this]
    · rw [if_neg h3]
theorem ER.set {w : W} {v : V} {i : Nat} {env : Env} {σ : L2.St} (h : ER P T K ρ H env σ) (r : VR P T K ρ H w v) : ER P T K ρ H (env.set i (some w)) (σ.set i (some v)) := by
  refine ⟨by rw [List.length_set, List.length_set]; exact h.1, fun j w' e => ?_⟩
  by_cases hj : i = j
  · subst hj
    have hl : i < env.length := by
      have := (List.getElem?_eq_some_iff.mp e).1
      rwa [List.length_set] at this
    rw [List.getElem?_set_self hl] at e
    cases e
    exact ⟨v, List.getElem?_set_self (by rw [← h.1]; exact hl), r⟩
  · rw [List.getElem?_set_ne hj] at e
    obtain ⟨v', e1, e2⟩ := h.2 j w' e
    exact ⟨v', by rw [List.getElem?_set_ne hj]; exact e1, e2⟩
theorem ER.wipe {env : Env} {σ : L2.St} (h : ER P T K ρ H env σ) : ∀ vs : List Nat, ER P T K ρ H (wipeE env vs) (L2.wipe σ vs)
  | [] => h
  | v :: vs => by
    have ih := ER.wipe h vs
    unfold wipeE L2.wipe
    refine ⟨by rw [List.length_set, List.length_set]; exact ih.1, fun j w' e => ?_⟩
    by_cases hj : v = j
    · subst hj
      have hl : v < (wipeE env vs).length := by
        have := (List.getElem?_eq_some_iff.mp e).1
        rwa [List.length_set] at this
      rw [List.getElem?_set_self hl] at e
      cases e
    · rw [List.getElem?_set_ne hj] at e
      obtain ⟨v', e1, e2⟩ := ih.2 j w' e
      exact ⟨v', by rw [List.getElem?_set_ne hj]; exact e1, e2⟩
/-! ### targets -/
/-- what a target does -/
def TgOk (P : Prog) (T : Adr) (K : PySem.W.Frag) (t : CT) (g : TG) : Prop :=
  ∀ {w : W} {v : V} {ρ : List Addr} {H : Hp} {σ : L2.St} {env env' : Env}, VR P T K ρ H w v → ER P T K ρ H env σ → asgT t w env = some env' →
    ∀ Q : L2.St → Hp → Prop, (∀ σ', ER P T K ρ H env' σ' → (∀ own, inT own t = true → wipe σ' own = wipe σ own) → Q σ' H) → g v σ H Q
def TgsOk (P : Prog) (T : Adr) (K : PySem.W.Frag) (ts : List CT) (g : TGs) : Prop :=
  ∀ {ws : List W} {vs : List V} {ρ : List Addr} {H : Hp} {σ : L2.St} {env env' : Env}, VRs P T K ρ H ws vs → ER P T K ρ H env σ → asgTs ts ws env = some env' →
    ∀ Q : L2.St → Hp → Prop, (∀ σ', ER P T K ρ H env' σ' → (∀ own, inTs own ts = true → wipe σ' own = wipe σ own) → Q σ' H) → g vs σ H Q
theorem loc_of {x : Str} (h : locC dfm sc x = true) (hs : X.env.scope = sc) : L2.Loc X.env.scope x ∧ (X.env.scope.names.lookup x = some .local ∨ dfm = true) := by
  unfold locC at h
  rw [hs]
  unfold L2.Loc
  split at h
  · exact ⟨.inl (by assumption), .inl (by assumption)⟩
  · exact ⟨.inr (by assumption), .inr h⟩
  · cases h
def isTgt : Expr → Bool
  | .Name _ _ => true | .Tuple _ _ _ => true | _ => false
theorem tgt_each {e : Expr} {es : List Expr} {env : PySem.Env} (h : isTgt e = true) : assignEach (e :: es) env = (false, assign e env) :: assignEach es env := by
  cases e <;> first | (cases h; done) | rfl
theorem tgt_len {env : PySem.Env} : ∀ {es : List Expr}, es.all isTgt = true → (assignEach es env).length = es.length ∧ (assignEach es env).findIdx? (·.1) = none
  | [], _ => ⟨rfl, rfl⟩
  | e :: es, h => by
    simp only [List.all_cons, Bool.and_eq_true] at h
    obtain ⟨i1, i2⟩ := tgt_len (env := env) h.2
    rw [tgt_each h.1]
    refine ⟨by simp [i1], ?_⟩
    rw [List.findIdx?_cons]
    simp [i2]
theorem chkTs_len : ∀ {ts : List CT} {es : List Expr}, chkTs N dfm sc ts es = true → ts.length = es.length
  | [], [], _ => rfl
  | [], _ :: _, h => by simp [chkTs] at h
  | _ :: _, [], h => by simp [chkTs] at h
  | t :: ts, e :: es, h => by
    simp only [chkTs, Bool.and_eq_true] at h
    simp [chkTs_len h.2]
theorem chkT_tgt {t : CT} {e : Expr} (h : chkT N dfm sc t e = true) : isTgt e = true := by
  cases t <;> cases e <;> first | rfl | (simp [chkT] at h; done)
theorem asgTs_len : ∀ {ts : List CT} {ws : List W} {env env' : Env}, asgTs ts ws env = some env' → ts.length = ws.length
  | [], [], _, _, _ => rfl
  | [], _ :: _, _, _, h => by simp [asgTs] at h
  | _ :: _, [], _, _, h => by simp [asgTs] at h
  | t :: ts, w :: ws, env, env', h => by
    simp only [asgTs] at h
    cases c : asgT t w env with
    | none => rw [c] at h; cases h
    | some e => rw [c] at h; simp [asgTs_len h]
mutual
/-- the store of a target -/
def tgG (K : PySem.W.Frag) : CT → TG
  | .nm i => gName i
  | .tp ts => gTup K ts.length (tgGs K ts)
def tgGs (K : PySem.W.Frag) : List CT → TGs
  | [] => gNil
  | t :: ts => gCons (tgG K t) (tgGs K ts)
end
mutual
theorem s_tgt (O : XOk P T k gb N dfm sc X) : ∀ {t : CT} {e : Expr}, chkT N dfm sc t e = true → PG X e (tgG X.K t) ∧ TgOk P T X.K t (tgG X.K t)
  | .nm i, e, h => by
    cases e <;> simp only [chkT] at h <;> first | (cases h; done) | skip
    rename_i x px
    simp only [Bool.and_eq_true, decide_eq_true_eq] at h
    obtain ⟨h1, h2⟩ := h
    obtain ⟨l1, l2⟩ := loc_of h2 O.sc
    simp only [tgG]
    refine ⟨pg_name (by rw [O.hN]; exact O.nd) (by rw [O.hN]; exact h1) l1 (l2.elim .inr fun z => .inl (O.fnd z x)), ?_⟩
    intro w v ρ H σ env env' r er ea Q q
    simp only [asgT, Option.some.injEq] at ea
    subst ea
    exact q _ (er.set r) fun own ho => wipe_set (by simpa [inT] using ho)
  | .tp ts, e, h => by
    cases e <;> simp only [chkT] at h <;> first | (cases h; done) | skip
    rename_i es kk px
    obtain ⟨h1, h2, h3⟩ := s_tgts O h
    obtain ⟨l1, l2⟩ := tgt_len (env := X.env) h3
    simp only [tgG]
    rw [chkTs_len h]
    refine ⟨pg_tup O.calm h1 l1 l2, ?_⟩
    intro w v ρ H σ env env' r er ea Q q
    cases w <;> first | (simp [asgT] at ea; done) | skip
    rename_i ws
    simp only [asgT] at ea
    obtain ⟨p, vs, rfl, hs, _, hv⟩ := r.tup_inv
    refine ⟨p, vs, rfl, hs, ?_, h2 hv er ea Q fun σ' er' hw => q σ' er' fun own ho => hw own (by simpa [inT] using ho)⟩
    rw [← hv.len, ← asgTs_len ea, chkTs_len h]
theorem s_tgts (O : XOk P T k gb N dfm sc X) : ∀ {ts : List CT} {es : List Expr}, chkTs N dfm sc ts es = true → PGs X es (tgGs X.K ts) ∧ TgsOk P T X.K ts (tgGs X.K ts) ∧ es.all isTgt = true
  | [], es, h => by
    cases es with
    | nil =>
      simp only [tgGs]
      refine ⟨pgs_nil, ?_, rfl⟩
      intro ws vs ρ H σ env env' r er ea Q q
      cases ws with
      | nil =>
        simp only [asgTs, Option.some.injEq] at ea
        subst ea
        exact ⟨VRs.nil_iff.mp r, q σ er fun _ _ => rfl⟩
      | cons _ _ => simp [asgTs] at ea
    | cons _ _ => simp [chkTs] at h
  | t :: ts, es, h => by
    cases es with
    | nil => simp [chkTs] at h
    | cons e es =>
      simp only [chkTs, Bool.and_eq_true] at h
      obtain ⟨h1, h2⟩ := s_tgt O h.1
      obtain ⟨h3, h4, h5⟩ := s_tgts O h.2
      have ht := chkT_tgt h.1
      simp only [tgGs]
      refine ⟨pgs_cons h1 h3 (by rw [tgt_each ht]; rfl), ?_, by simp [ht, h5]⟩
      intro ws vs ρ H σ env env' r er ea Q q
      cases ws with
      | nil => simp [asgTs] at ea
      | cons w ws =>
        simp only [asgTs] at ea
        cases c : asgT t w env with
        | none => rw [c] at ea; cases ea
        | some env1 =>
          rw [c] at ea
          simp only [Option.bind_some] at ea
          simp only [VRs] at r
          obtain ⟨v, vr, rfl, r1, r2⟩ := r
          refine ⟨v, vr, rfl, h2 r1 er c _ fun σ1 er1 hw1 => h4 r2 er1 ea Q fun σ2 er2 hw2 => q σ2 er2 fun own ho => ?_⟩
          simp only [inTs, Bool.and_eq_true] at ho
          rw [hw2 own ho.2, hw1 own ho.1]
end
/-! ### comprehensions -/
theorem R.bind_assoc {α β γ : Type} (r : R α) (f : α → Sto → R β) (g : β → Sto → R γ) : (r.bind f).bind g = r.bind fun a S => (f a S).bind g := by
  cases r <;> rfl
/-- a clause's tests -/
def tB (P : Prog) (T : Adr) (K : PySem.W.Frag) (mt : Env → Sto → R Bool) : TT := fun σ H Q => ∃ ρ env S, ER P T K ρ H env σ ∧ SR P T K ρ H S ∧ PostA P T K ρ H (mt env S) fun b _ _ H' => Q b H'
theorem s_tests0 : PTs X [] (tB P T X.K fun _ S => .ok true S) := by
  refine ⟨fun pins s σ H Q I q => ?_⟩
  obtain ⟨ρ, env, S, er, sr, q⟩ := q
  exact pts_nil.run pins s σ H Q I (q ρ H Ext.refl sr)
theorem s_tests1 (h : PT X ea (tT P T X.K ma)) : PTs X [ea] (tB P T X.K fun env S => (ma env S).bind fun x S1 => match x with | .bl b => .ok b S1 | _ => .bad) := by
  refine ⟨fun pins s σ H Q I q => ?_⟩
  obtain ⟨ρ, env, S, er, sr, q⟩ := q
  refine (pts_one h).run pins s σ H Q I ⟨ρ, env, S, er, sr, ?_⟩
  have q2 := Post.bindA q
  cases c : ma env S with
  | exc _ _ _ => rw [c] at q2; exact False.elim q2
  | bad => rw [c] at q2; exact False.elim q2
  | ok w S1 =>
    dsimp only at q
    rw [c] at q
    simp only [R.bind] at q
    cases w <;> first | (exact False.elim q; done) | skip
    exact q
abbrev compF (own : List Nat) (t : CT) (mt : Env → Sto → R Bool) (me : MW) (env : Env) : W → Sto → R (Option W) := fun x S2 => match asgT t x (wipeE env own) with
  | none => .bad
  | some env' => (mt env' S2).bind fun b S3 => if b = true then (me env' S3).bind fun w S4 => .ok (some w) S4 else .ok none S3
noncomputable abbrev compM (pu : Bool) (own : List Nat) (t : CT) (mi : Env → Sto → R Items) (mt : Env → Sto → R Bool) (me : MW) : MW := fun env S => (mi env S).bind fun p S1 =>
  (compL p.2 S1.length (compF own t mt me env) p.1 (S1 ++ [.lst []])).bind fun _ S5 => if pu = true then exitR S1 (.ref S1.length) S5 else .ok (.ref S1.length) S5
theorem drop_at {α : Type} {xs : List α} {i : Nat} {x : α} (h : xs[i]? = some x) : xs.drop i = x :: xs.drop (i + 1) := by
  obtain ⟨hi, e⟩ := List.getElem?_eq_some_iff.mp h
  rw [List.drop_eq_getElem_cons hi, e]
theorem R.bind_ok {α β : Type} {r : R α} {f : α → Sto → R β} {b : β} {S' : Sto} (h : r.bind f = .ok b S') : ∃ a S1, r = .ok a S1 ∧ f a S1 = .ok b S' := by
  cases r with
  | ok a S1 => exact ⟨a, S1, rfl, h⟩
  | exc _ _ _ => cases h
  | bad => cases h
theorem compL_nil {g : List (Nat × List W)} {n : Nat} {f : W → Sto → R (Option W)} {u : Unit} {S5 : Sto} (q : compL g n f [] S = .ok u S5) : gOk S g ∧ S5 = S := by
  unfold compL at q
  split at q
  · rename_i h; cases q; exact ⟨h, rfl⟩
  · cases q
theorem compL_cons {g : List (Nat × List W)} {n : Nat} {f : W → Sto → R (Option W)} {x : W} {xs : List W} {u : Unit} {S5 : Sto} (q : compL g n f (x :: xs) S = .ok u S5) : gOk S g ∧
    ∃ o S1, f x S = .ok o S1 ∧ ((o = none ∧ compL g n f xs S1 = .ok u S5) ∨ ∃ w acc, o = some w ∧ S1[n]? = some (.lst acc) ∧ acc.length < sizeLine ∧ compL g n f xs (S1.set n (.lst (acc ++ [w]))) = .ok u S5) := by
  unfold compL at q
  split at q
  · rename_i h
    refine ⟨h, ?_⟩
    obtain ⟨o, S1, e1, e2⟩ := R.bind_ok q
    refine ⟨o, S1, e1, ?_⟩
    cases o with
    | none => exact .inl ⟨rfl, e2⟩
    | some w =>
      dsimp only at e2
      split at e2
      · rename_i acc ha
        split at e2
        · rename_i hl
          exact .inr ⟨w, acc, rfl, ha, hl, e2⟩
        · cases e2
      · cases e2
  · cases q
theorem compF_ok {own : List Nat} {t : CT} {mt : Env → Sto → R Bool} {me : MW} {env : Env} {x : W} {o : Option W} {S' : Sto} (h : compF own t mt me env x S = .ok o S') :
    ∃ env' b S3, asgT t x (wipeE env own) = some env' ∧ mt env' S = .ok b S3 ∧ ((b = false ∧ o = none ∧ S' = S3) ∨ ∃ w, b = true ∧ o = some w ∧ me env' S3 = .ok w S') := by
  unfold compF at h
  split at h
  · cases h
  · rename_i env' ca
    obtain ⟨b, S3, e1, e2⟩ := R.bind_ok h
    refine ⟨env', b, S3, ca, e1, ?_⟩
    cases b with
    | false => cases e2; exact .inl ⟨rfl, rfl, rfl⟩
    | true =>
      simp only [if_true] at e2
      obtain ⟨w, S4, e3, e4⟩ := R.bind_ok e2
      cases e4
      exact .inr ⟨w, rfl, rfl, e3⟩
theorem comp_rd {pu : Bool} {own : List Nat} {t : CT} {mi : Env → Sto → R Items} {mt : Env → Sto → R Bool} {me : MW} {g : TG} (hg : TgOk P T K t g) (hin : inT own t = true) {σ : L2.St} {Q : VK}
    (h : tE P T K (compM pu own t mi mt me) σ H Q) : tLc (tI P T K mi) g (tB P T K mt) (tE P T K me) own σ H Q := by
  obtain ⟨ρ, env, S, er, sr, q⟩ := h
  refine ⟨ρ, env, S, er, sr, ?_⟩
  unfold compM at q
  cases cm : mi env S with
  | exc _ _ _ => rw [cm] at q; exact False.elim q
  | bad => rw [cm] at q; exact False.elim q
  | ok p S1 =>
    rw [cm] at q
    simp only [R.bind] at q
    cases cl : compL p.2 S1.length (compF own t mt me env) p.1 (S1 ++ [.lst []]) with
    | exc _ _ _ => rw [cl] at q; exact False.elim q
    | bad => rw [cl] at q; exact False.elim q
    | ok u S5 =>
    rw [cl] at q
    dsimp only at q
    intro ρ1 H1 J x1 s1 wk D hD
    have er1 := er.mono x1
    have xN : Ext ρ1 H1 (ρ1 ++ [D]) (upd H1 D (.lst [])) := Ext.push (keep_upd hD) hD
    have sN : SR P T K (ρ1 ++ [D]) (upd H1 D (.lst [])) (S1 ++ [.lst []]) := s1.push (keep_upd hD) hD ⟨[], upd_same, Nat.zero_le _, VRs.nil⟩
    have hDn : (ρ1 ++ [D])[S1.length]? = some D := by rw [← s1.len, List.getElem?_append_right (Nat.le_refl _)]; simp
    refine ⟨fun i m H => m = p.1.length - i ∧ i ≤ p.1.length ∧ ∃ ρ2 S2, Ext ρ1 H1 ρ2 H ∧ ρ2[S1.length]? = some D ∧ SR P T K ρ2 H S2 ∧
      compL p.2 S1.length (compF own t mt me env) (p.1.drop i) S2 = .ok u S5,
      ⟨p.1.length, rfl, Nat.zero_le _, ρ1 ++ [D], S1 ++ [.lst []], xN, hDn, sN, by rw [List.drop_zero]; exact cl⟩, ?_⟩
    rintro i m H2 ⟨rfl, hi, ρ2, S2, x2, hd2, s2, q2⟩
    by_cases hlt : i < p.1.length
    · obtain ⟨w0, hw0⟩ := lt_get hlt
      rw [drop_at hw0] at q2
      obtain ⟨gk, o, S3, ef, q3⟩ := compL_cons q2
      obtain ⟨env', b, S4, ca, em, q4⟩ := compF_ok ef
      refine .inr ⟨wk.goes x2 s2 gk hlt, fun H => ∃ ρ2 S2, Ext ρ1 H1 ρ2 H ∧ ρ2[S1.length]? = some D ∧ SR P T K ρ2 H S2 ∧
        compL p.2 S1.length (compF own t mt me env) (p.1.drop (i + 1)) S2 = .ok u S5,
        fun H' z => ⟨p.1.length - (i + 1), by omega, rfl, by omega, z⟩, fun x H3 y => ?_⟩
      obtain ⟨w, hw, x3, s3, rx⟩ := wk.yields x2 s2 gk hlt y
      rw [hw0] at hw; cases hw
      refine hg rx (((er1.mono x2).mono x3).wipe own) ca _ fun σ2 er2 hw2 => ⟨(hw2 own hin).trans (wipe_wipe σ own), ρ2, env', S2, er2, s3, ?_⟩
      rw [em]
      intro ρ4 H4 x4 s4
      have hd4 := x4.get hd2
      rcases q4 with ⟨rfl, rfl, rfl⟩ | ⟨w5, rfl, rfl, e5⟩
      · simp only [Bool.false_eq_true, if_false]
        rcases q3 with ⟨_, q3⟩ | ⟨_, _, z, _⟩
        · exact ⟨ρ4, S3, (x2.trans x3).trans x4, hd4, s4, q3⟩
        · cases z
      · simp only [if_true]
        rcases q3 with ⟨z, _⟩ | ⟨w6, acc, z, ha, hl, q3⟩
        · cases z
        · cases z
          refine ⟨ρ4, env', S4, er2.mono x4, s4, ?_⟩
          rw [e5]
          intro ρ5 H5 v5 x5 s5 r5
          have hd5 := x5.get hd4
          obtain ⟨vs, g1, g2, g3⟩ := s5.ob _ _ _ hd5 ha
          have hl' : vs.length < sizeLine := by rw [← g3.len]; exact hl
          obtain ⟨x6, s6⟩ := put_lst s5 hd5 (by rw [List.length_append]; exact hl') (g3.app (VRs.cons r5 VRs.nil))
          exact ⟨vs, g1, hl', ρ5, _, (((x2.trans x3).trans x4).trans x5).trans x6, hd5, s6, q3⟩
    · have ei : i = p.1.length := by omega
      subst ei
      rw [List.drop_length] at q2
      obtain ⟨gk, rfl⟩ := compL_nil q2
      refine .inl ⟨wk.stops x2 s2 gk, ?_⟩
      have rD : VR P T K ρ2 H2 (.ref S1.length) (.ref D) := by
        simp only [VR]
        exact ⟨D, hd2, rfl⟩
      cases pu with
      | false => exact q ρ2 H2 (.ref D) (x1.trans x2) s2 rD
      | true =>
        simp only [if_true] at q
        cases ce : exitR S1 (.ref S1.length) S5 with
        | exc _ _ _ => rw [ce] at q; exact False.elim q
        | bad => rw [ce] at q; exact False.elim q
        | ok w' S' =>
          rw [ce] at q
          obtain ⟨z1, z2, z3⟩ := exit_ok s1 x2 s2 rD ce
          exact q ρ1 H2 (.ref D) (x1.trans z1) z2 z3
end
end Eng

set_option Elab.async false
set_option linter.all false
set_option maxHeartbeats 4000000
set_option maxRecDepth 10000
/-! E16: the expressions are right. -/
namespace Eng
open PySem L2
def kindOk : Expr → Bool
  | .Starred _ _ => false | .Set _ _ _ => false | .Slice _ _ _ _ => false | _ => true
def plainE : Expr → Bool
  | .Starred _ _ => false | .Set _ _ _ => false | .Slice _ _ _ _ => false
  | .UnaryOp .Not _ _ => false | .BoolOp _ _ _ => false | .IfExp _ _ _ _ => false | .Compare _ _ _ _ => false | _ => true
theorem kind_star {e : Expr} (h : kindOk e = true) : nonStar e = true := by cases e <;> first | rfl | cases h
theorem kind_sub {e : Expr} (h : kindOk e = true) : ∀ o i, subscripted e false o i = operate [o, i] (getItem o i) := by intro o i; cases e <;> first | rfl | cases h
theorem kind_set {e : Expr} (h : kindOk e = true) (env : PySem.Env) : ∀ x, foldedSetIterable e env x = pure x := by intro o; cases e <;> first | rfl | cases h
theorem plain_kind {e : Expr} (h : plainE e = true) : kindOk e = true := by cases e <;> first | rfl | cases h
theorem plain_test {e : Expr} (h : plainE e = true) (env : PySem.Env) : ∀ whole, isTrue e env whole = (do let v ← whole; standAt e.pos; holding [v] (truthy v)) := by
  intro whole
  cases e <;> first | (cases h; done) | rfl | skip
  rename_i op a p
  cases op <;> first | (cases h; done) | rfl
section
variable {K : PySem.W.Frag} {P : Prog} {T : Adr} {ρ ρ1 : List Addr} {H H1 : Hp} {S S1 : Sto} {X : Cx} {k : Nat} {N : List Str} {gb dfm : Bool} {sc : Scope} {e ea eb ec tg : Expr} {es : List Expr} {pos p2 p3 apos q0 tpos : Pos} {elts : List Expr} {kk : Nat} {m ma mb mc : MW}
theorem _root_.L2.PE.cast {m m' : MW} (h : PE X e (tE P T K m)) (he : ∀ env S, m' env S = m env S) : PE X e (tE P T K m') := by
  have : m' = m := by funext env S; exact he env S
  rw [this]; exact h
theorem _root_.L2.PE.castF {m m' : Env → Sto → R (List W)} (h : PE X e (tF P T K m)) (he : ∀ env S, m' env S = m env S) : PE X e (tF P T K m') := by
  have : m' = m := by funext env S; exact he env S
  rw [this]; exact h
theorem _root_.L2.PT.cast {m m' : MW} (h : PT X e (tT P T K m)) (he : ∀ env S, m' env S = m env S) : PT X e (tT P T K m') := by
  have : m' = m := by funext env S; exact he env S
  rw [this]; exact h
theorem _root_.L2.PW.cast {m m' : MW} (h : PW X e (tT P T K m)) (he : ∀ env S, m' env S = m env S) : PW X e (tT P T K m') := by
  have : m' = m := by funext env S; exact he env S
  rw [this]; exact h
theorem _root_.L2.PI.cast {m m' : Env → Sto → R Items} (h : PI X tg e (tI P T K m)) (he : ∀ env S, m' env S = m env S) : PI X tg e (tI P T K m') := by
  have : m' = m := by funext env S; exact he env S
  rw [this]; exact h
theorem _root_.L2.PTs.cast {m m' : Env → Sto → R Bool} (h : PTs X es (tB P T K m)) (he : ∀ env S, m' env S = m env S) : PTs X es (tB P T K m') := by
  have : m' = m := by funext env S; exact he env S
  rw [this]; exact h
theorem LE.cast {m m' : Env → Sto → R (List W)} (h : LE P T X es m) (he : ∀ env S, m' env S = m env S) : LE P T X es m' := by
  have : m' = m := by funext env S; exact he env S
  rw [this]; exact h
/-- what is shown of an expression -/
def Snd (P : Prog) (T : Adr) (X : Cx) (e : Expr) (m : MW) : Prop := PE X e (tE P T X.K m) ∧ PT X e (tT P T X.K m) ∧ kindOk e = true
theorem Snd.of {m' : MW} (h : PE X e (tE P T X.K m)) (hp : plainE e = true) (he : ∀ env S, m' env S = m env S) : Snd P T X e m' :=
  ⟨h.cast he, (Eng.PE.test h (plain_test hp X.env)).cast he, plain_kind hp⟩
theorem s_iteT (hc : PT X ec (tT P T X.K mc)) (ha : PT X ea (tT P T X.K ma)) (hb : PT X eb (tT P T X.K mb)) : PT X (.IfExp ec ea eb pos) (tT P T X.K (iteM mc ma mb)) := by
  refine ⟨fun pins s σ H Q I q => ?_⟩
  obtain ⟨ρ, env, S, er, sr, q⟩ := q
  show wpAny _ _ (do if ← isTrue ec X.env (eval ec X.env) then isTrue ea X.env (eval ea X.env) else isTrue eb X.env (eval eb X.env)) _ _ s
  have h : tT P T X.K mc σ H fun b H1 => if b = true then tT P T X.K ma σ H1 Q else tT P T X.K mb σ H1 Q := by
    refine ⟨ρ, env, S, er, sr, tT.bind q (fun w S1 h => ?_) fun b S1 ρ1 H1 x1 s1 q1 => ?_⟩
    · cases w <;> first | rfl | exact absurd rfl (h _)
    · cases b with
      | true => rw [if_pos rfl]; exact ⟨ρ1, env, S1, er.mono x1, s1, q1⟩
      | false => rw [if_neg (by decide)]; exact ⟨ρ1, env, S1, er.mono x1, s1, q1⟩
  refine wpAny_bind (thn (hc.run pins s σ H _ I h) fun b s1 ⟨H1, I1, q1⟩ => ?_)
  cases b with
  | true => rw [if_pos rfl]; rw [if_pos rfl] at q1; exact ha.run pins s1 σ H1 Q I1 q1
  | false => rw [if_neg (by decide)]; rw [if_neg (by decide)] at q1; exact hb.run pins s1 σ H1 Q I1 q1
theorem XOk.blk (O : XOk P T k gb N dfm sc X) (s : Shared) (H : Hp) (scope : Scope) (C : Addr) (cl : List (Str × Addr)) (fp : List Addr) : XOk P T k gb N false (relS scope sc) (X.blk s H scope (compEnvC scope cl C X.env) fp) where
  F := O.F
  nd := O.nd
  hN := O.hN
  sc := by show relS scope X.env.scope = _; rw [O.sc]
  calm := O.calm
  room := O.room
  gds := O.gds
  xe := rfl
  fnd := fun h => nomatch h
  call := O.call
  ini := O.ini
theorem own_snd {N : List Str} {own : List Nat} : (own.map fun i => (N.getD i Str.empty, i)).map (·.2) = own := by
  rw [List.map_map]
  exact List.map_id'' (fun _ => rfl) own
theorem le_len {cs : CEs} : ∀ {es : List Expr}, chkEs P N sc cs es = true → lenEs cs = es.length := by
  intro es
  induction es generalizing cs with
  | nil => intro h; cases cs <;> simp [chkEs, lenEs] at h ⊢
  | cons e es ih => intro h; cases cs <;> simp [chkEs, lenEs] at h ⊢; exact ih h.2
end
theorem s_op {P : Prog} {T : Adr} {X : Cx} {o : Xop} {e : Expr} {vs : List Expr} {ms : Env → Sto → R (List W)} (hv : xShape o e = some vs) (hl : LE P T X vs ms) : PE X e (tE P T X.K fun env S => (ms env S).bind fun ws S1 => xW S1 o ws) ∧ plainE e = true := by
  cases o with
  | dnew =>
    unfold xShape at hv
    dsimp only at hv
    split at hv <;> first | (cases hv; done) | skip
    cases hv
    cases hl
    exact ⟨s_dnew.cast fun _ _ => rfl, rfl⟩
  | revT =>
    unfold xShape at hv
    dsimp only at hv
    split at hv <;> first | (cases hv; done) | skip
    cases hv
    cases hl with
    | cons h1 h2 h3 =>
      cases h3
      refine ⟨(s_revT h1).cast fun env S => ?_, rfl⟩
      rename_i m
      dsimp only
      cases m env S <;> rfl
theorem s_O {P : Prog} {T : Adr} {N : List Str} (ce : CE) {k : Nat} {gb : Bool} {sc : Scope} {X : Cx} {e : Option Expr} (hE : ∀ {x : Expr}, chkE P N sc ce x = true → PE X x (tE P T X.K (evE P (clG P k gb) ce))) (h : chkO P N sc ce e = true) :
    PO X e (tO P T X.K fun env S => if isOmit ce = true then R.ok none S else (evE P (clG P k gb) ce env S).bind toI) := by
  unfold chkO at h
  cases e with
  | none =>
    dsimp only at h
    simp only [h, if_true]
    exact s_onone
  | some x =>
    dsimp only at h
    have : isOmit ce = false := by
      cases ce <;> first | rfl | (unfold chkE at h; cases h)
    simp only [this, Bool.false_eq_true, if_false]
    exact s_osome (hE h)
mutual
theorem snd_E {P : Prog} {T : Adr} {N : List Str} : ∀ (ce : CE) {k : Nat} {gb dfm : Bool} {sc : Scope} {X : Cx} {e : Expr}, XOk P T k gb N dfm sc X → chkE P N sc ce e = true → Snd P T X e (evE P (clG P k gb) ce)
  | .var i, k, gb, dfm, sc, X, e, O, h => by
    unfold chkE at h
    split at h <;> first | (cases h; done) | skip
    simp only [Bool.and_eq_true, decide_eq_true_eq] at h
    exact .of (s_var O h.1.1 h.1.2 h.2) rfl fun _ _ => by rw [evE]
  | .non, k, gb, dfm, sc, X, e, O, h => by
    unfold chkE isNone at h
    split at h <;> first | (cases h; done) | skip
    exact .of (s_c (w := .non) pe_non fun _ _ => by simp [VR]) rfl fun _ _ => by rw [evE]
  | .bl b, k, gb, dfm, sc, X, e, O, h => by
    unfold chkE at h
    split at h <;> first | (cases h; done) | skip
    rw [beq_iff_eq] at h
    subst h
    exact .of (s_c (w := .bl b) pe_bl fun _ _ => by simp [VR]) rfl fun _ _ => by rw [evE]
  | .int i, k, gb, dfm, sc, X, e, O, h => by
    unfold chkE at h
    split at h <;> first | (cases h; done) | skip
    simp only [decide_eq_true_eq] at h
    subst h
    exact .of (s_c (w := .int i) pe_int fun _ _ => by simp [VR]) rfl fun _ _ => by rw [evE]
  | .str t, k, gb, dfm, sc, X, e, O, h => by
    unfold chkE at h
    split at h <;> first | (cases h; done) | skip
    simp only [decide_eq_true_eq] at h
    exact .of (s_c (w := .str (P.tag t)) pe_str fun _ _ => by simp [VR, h]) rfl fun _ _ => by rw [evE]
  | .gc t, k, gb, dfm, sc, X, e, O, h => by
    unfold chkE at h
    split at h <;> first | (cases h; done) | skip
    simp only [Bool.and_eq_true, decide_eq_true_eq] at h
    obtain ⟨⟨h1, h2⟩, h3⟩ := h
    subst h1
    exact .of (s_gc O h2 h3) rfl fun _ _ => by rw [evE]
  | .bin op a b, k, gb, dfm, sc, X, e, O, h => by
    unfold chkE at h
    split at h <;> first | (cases h; done) | skip
    simp only [Bool.and_eq_true] at h
    exact .of (s_bin h.1.1 (snd_E a O h.1.2).1 (snd_E b O h.2).1) rfl fun _ _ => by rw [evE]
  | .neg a, k, gb, dfm, sc, X, e, O, h => by
    unfold chkE at h
    split at h <;> first | (cases h; done) | skip
    exact .of (s_neg (snd_E a O h).1) rfl fun _ _ => by rw [evE] <;> rfl
  | .cmp op a b, k, gb, dfm, sc, X, e, O, h => by
    unfold chkE at h
    split at h <;> first | (cases h; done) | skip
    simp only [Bool.and_eq_true, Bool.not_eq_true'] at h
    obtain ⟨⟨⟨⟨h1, h2⟩, h3⟩, h4⟩, h5⟩ := h
    exact ⟨(s_cmpE O h1 h2 (snd_E a O h4).1 (snd_E b O h5).1).cast fun _ _ => by rw [evE], (s_cmpT O h1 h2 (snd_E a O h4).1 (snd_E b O h5).1).cast fun _ _ => by rw [evE], rfl⟩
  | .chain op op' a b c, k, gb, dfm, sc, X, e, O, h => by
    unfold chkE at h
    split at h <;> first | (cases h; done) | skip
    simp only [Bool.and_eq_true] at h
    obtain ⟨⟨⟨⟨⟨⟨h1, h2⟩, h3⟩, h4⟩, h5⟩, h6⟩, h7⟩ := h
    exact ⟨(s_chainE h1 h2 (by cases op <;> first | rfl | exact h3) (by cases op' <;> first | rfl | exact h4) (snd_E a O h5).1 (snd_E b O h6).1 (snd_E c O h7).1).cast fun _ _ => by rw [evE], (s_chainT h1 h2 (by cases op <;> first | rfl | exact h3) (by cases op' <;> first | rfl | exact h4) (snd_E a O h5).1 (snd_E b O h6).1 (snd_E c O h7).1).cast fun _ _ => by rw [evE], rfl⟩
  | .and_ es, k, gb, dfm, sc, X, e, O, h => by
    unfold chkE at h
    split at h <;> first | (cases h; done) | skip
    simp only [Bool.and_eq_true, decide_eq_true_eq] at h
    obtain ⟨h1, h2⟩ := snd_and es O h.1 (by omega)
    exact ⟨(h1 _).cast fun _ _ => by rw [evE], (h2 _).pt.cast fun _ _ => by rw [evE], rfl⟩
  | .or_ es, k, gb, dfm, sc, X, e, O, h => by
    unfold chkE at h
    split at h <;> first | (cases h; done) | skip
    simp only [Bool.and_eq_true, decide_eq_true_eq] at h
    obtain ⟨h1, h2⟩ := snd_or es O h.1 (by omega)
    exact ⟨(h1 _).cast fun _ _ => by rw [evE], (h2 _).pt.cast fun _ _ => by rw [evE], rfl⟩
  | .not_ a, k, gb, dfm, sc, X, e, O, h => by
    unfold chkE at h
    split at h <;> first | (cases h; done) | skip
    exact ⟨(s_not (snd_E a O h).1).cast fun _ _ => by rw [evE] <;> rfl, (s_notT (snd_E a O h).2.1).cast fun _ _ => by rw [evE] <;> rfl, rfl⟩
  | .ite c a b, k, gb, dfm, sc, X, e, O, h => by
    unfold chkE at h
    split at h <;> first | (cases h; done) | skip
    simp only [Bool.and_eq_true] at h
    obtain ⟨⟨h1, h2⟩, h3⟩ := h
    exact ⟨(s_ite (snd_E c O h1).2.1 (snd_E a O h2).1 (snd_E b O h3).1).cast fun _ _ => by rw [evE] <;> rfl, (s_iteT (snd_E c O h1).2.1 (snd_E a O h2).2.1 (snd_E b O h3).2.1).cast fun _ _ => by rw [evE] <;> rfl, rfl⟩
  | .tup es, k, gb, dfm, sc, X, e, O, h => by
    unfold chkE at h
    split at h <;> first | (cases h; done) | skip
    exact .of (s_tup (snd_Es es O h).pa) rfl fun _ _ => by rw [evE]
  | .lst l, k, gb, dfm, sc, X, e, O, h => by
    unfold chkE at h
    obtain ⟨h1, h2⟩ := snd_L l O h
    exact .of (s_lst h1) h2 fun _ _ => by rw [evE]
  | .alloc l, k, gb, dfm, sc, X, e, O, h => by
    unfold chkE at h
    obtain ⟨h1, h2⟩ := snd_L l O h
    exact .of (s_alloc h1) h2 fun _ _ => by rw [evE]
  | .idx a i, k, gb, dfm, sc, X, e, O, h => by
    unfold chkE at h
    split at h <;> first | (cases h; done) | skip
    simp only [Bool.and_eq_true] at h
    have hi := snd_E i O h.2
    exact .of (s_idx O (kind_sub hi.2.2) (snd_E a O h.1).1 hi.1) rfl fun _ _ => by rw [evE]
  | .sl a lo hi, k, gb, dfm, sc, X, e, O, h => by
    unfold chkE at h
    split at h <;> first | (cases h; done) | skip
    simp only [Bool.and_eq_true] at h
    exact .of (s_slt (snd_E a O h.1.1).1 (s_O lo (fun h => (snd_E lo O h).1) h.1.2) (s_O hi (fun h => (snd_E hi O h).1) h.2)) rfl fun _ _ => by rw [evE] <;> rfl
  | .omit, k, gb, dfm, sc, X, e, O, h => by simp [chkE] at h
  | .fld a f, k, gb, dfm, sc, X, e, O, h => by
    unfold chkE at h
    split at h <;> first | (cases h; done) | skip
    simp only [Bool.and_eq_true, decide_eq_true_eq] at h
    obtain ⟨⟨h1, h2⟩, h3⟩ := h
    subst h2
    exact .of (s_fld O h1 (snd_E a O h3).1) rfl fun _ _ => by rw [evE]
  | .call f es, k, gb, dfm, sc, X, e, O, h => by
    unfold chkE at h
    split at h <;> first | (cases h; done) | skip
    simp only [Bool.and_eq_true] at h
    obtain ⟨⟨⟨h1, h2⟩, h3⟩, h4⟩ := h
    split at h1 <;> first | (cases h1; done) | skip
    rename_i t ht
    simp only [decide_eq_true_eq] at h1
    subst h1
    rename_i vs _ _
    have hl := snd_Es es O h4
    cases vs with
    | nil =>
      have : es = .nil := by cases es <;> simp [chkEs] at h4 ⊢
      subst this
      exact .of (s_call0 O ht h2 h3) rfl fun _ _ => by rw [evE, evEs]; rfl
    | cons v vs => exact .of (s_call O ht h2 h3 hl.plain hl.pa) rfl fun _ _ => by rw [evE] <;> rfl
  | .make pu c es, k, gb, dfm, sc, X, e, O, h => by
    unfold chkE at h
    split at h <;> first | (cases h; done) | skip
    simp only [Bool.and_eq_true] at h
    obtain ⟨⟨⟨h1, h2⟩, h3⟩, h4⟩ := h
    split at h1 <;> first | (cases h1; done) | skip
    rename_i t ht
    simp only [decide_eq_true_eq] at h1
    subst h1
    rename_i vs _ _
    have hl := snd_Es es O h4
    cases vs with
    | nil =>
      have : es = .nil := by cases es <;> simp [chkEs] at h4 ⊢
      subst this
      exact .of (s_make0 (pu := pu) O ht h2 h3) rfl fun _ _ => by rw [evE, evEs]; rfl
    | cons v vs => exact .of (s_make (pu := pu) O ht h2 h3 hl.plain hl.pa) rfl fun _ _ => by rw [evE]
  | .meth a m es, k, gb, dfm, sc, X, e, O, h => by
    unfold chkE at h
    split at h <;> first | (cases h; done) | skip
    simp only [Bool.and_eq_true, decide_eq_true_eq] at h
    obtain ⟨⟨⟨⟨⟨h1, h2⟩, h3⟩, h4⟩, h5⟩, h6⟩ := h
    subst h2
    have hl := snd_Es es O h6
    exact .of (s_meth O h1 (by simp [h3]) hl.plain h4 (snd_E a O h5).1 hl.pa (fun z => by
      subst z
      have : es = .nil := by cases es <;> simp [chkEs] at h6 ⊢
      subst this
      funext _ _
      rw [evEs])) rfl fun _ _ => by rw [evE] <;> rfl
  | .blt b es, k, gb, dfm, sc, X, e, O, h => by
    unfold chkE at h
    split at h <;> first | (cases h; done) | skip
    simp only [Bool.and_eq_true, decide_eq_true_eq] at h
    obtain ⟨⟨⟨⟨h1, h2⟩, h3⟩, h4⟩, h5⟩ := h
    subst h1
    have hl := snd_Es es O h5
    have h6 := le_len h5
    rename_i vs _
    cases vs with
    | nil => rw [h6] at h4; cases b <;> cases h4
    | cons v vs => exact .of (s_blt O h2 hl.plain hl.pa) rfl fun _ _ => by rw [evE]
  | .bm m a es, k, gb, dfm, sc, X, e, O, h => by
    unfold chkE at h
    split at h <;> first | (cases h; done) | skip
    simp only [Bool.and_eq_true, decide_eq_true_eq] at h
    obtain ⟨⟨⟨⟨⟨h1, h2⟩, h3⟩, h4⟩, h5⟩, h6⟩ := h
    subst h2
    have hl := snd_Es es O h6
    have h7 := le_len h6
    have ha := (snd_E a O h5).1
    rename_i ea ap vs ps
    have one : bmA m = 1 → Snd P T X (.Call (.Attribute ea (bmN m) ap) vs [] ps) (evE P (clG P k gb) (.bm m a es)) := fun hb => by
      cases vs with
      | nil => rw [h7, hb] at h4; cases h4
      | cons v vs => exact .of (s_bm1 O hb h1 (by simp [h3]) hl.plain (by rw [← h7, h4, hb]; decide) ha hl.pa) rfl fun _ _ => by rw [evE]
    cases m with
    | append => exact one rfl
    | extend => exact one rfl
    | popAt => exact one rfl
    | index => exact one rfl
    | pop0 =>
      cases vs with
      | cons v vs => rw [h7] at h4; cases h4
      | nil =>
        have : es = .nil := by cases es <;> simp [chkEs] at h6 ⊢
        subst this
        exact .of (s_pop0 O h1 (by simp [h3]) ha) rfl fun _ _ => by rw [evE]; simp only [evEs]
    | get2 =>
      cases es with
      | nil => cases h4
      | cons e1 es =>
        cases es with
        | nil => cases h4
        | cons e2 es =>
          cases es with
          | cons e3 es => simp only [lenEs, bmA] at h4; omega
          | nil =>
            cases vs with
            | nil => simp [chkEs] at h6
            | cons v1 vs =>
              cases vs with
              | nil => simp [chkEs] at h6
              | cons v2 vs =>
                cases vs with
                | cons v3 vs => simp [chkEs] at h6
                | nil =>
                  simp only [chkEs, Bool.and_eq_true] at h6
                  have g1 := snd_E e1 O h6.1
                  have g2 := snd_E e2 O h6.2.1
                  exact .of (s_get2 O h1 (by simp [h3]) (by simp [kind_star g1.2.2, kind_star g2.2.2]) ha g1.1 g2.1) rfl fun _ _ => by rw [evE]; simp only [evEs]
  | .op o es, k, gb, dfm, sc, X, e, O, h => by
    unfold chkE at h
    cases hv : xShape o e with
    | none => rw [hv] at h; cases h
    | some vs =>
      rw [hv] at h
      dsimp only at h
      have hl := snd_Es es O h
      obtain ⟨h1, h2⟩ := s_op hv hl
      exact .of h1 h2 fun _ _ => by rw [evE]
  | .rep ne a b, k, gb, dfm, sc, X, e, O, h => by
    unfold chkE at h
    split at h <;> first | (cases h; done) | skip
    simp only [Bool.and_eq_true, decide_eq_true_eq] at h
    obtain ⟨⟨⟨⟨⟨h1, h2⟩, h3⟩, h4⟩, h5⟩, h6⟩ := h
    subst h1
    subst h2
    have ha := snd_E a O h5
    have hb := snd_E b O h6
    exact ⟨(s_rep O h4 (kind_star ha.2.2) (kind_star hb.2.2) h3 ha.1 hb.1).1.cast fun _ _ => by rw [evE] <;> rfl, (s_rep O h4 (kind_star ha.2.2) (kind_star hb.2.2) h3 ha.1 hb.1).2.cast fun _ _ => by rw [evE] <;> rfl, rfl⟩
  | .isC a c, k, gb, dfm, sc, X, e, O, h => by
    unfold chkE at h
    split at h <;> first | (cases h; done) | skip
    simp only [Bool.and_eq_true] at h
    obtain ⟨⟨⟨⟨⟨h1, h2⟩, h3⟩, h4⟩, h5⟩, h6⟩ := h
    simp only [decide_eq_true_eq] at h1
    subst h1
    split at h2 <;> first | (cases h2; done) | skip
    rename_i t ht
    simp only [decide_eq_true_eq] at h2
    subst h2
    have ha := snd_E a O h6
    exact .of (s_isC O ht h3 h4 h5 (kind_star ha.2.2) ha.1) rfl fun _ _ => by rw [evE] <;> rfl
  | .isT a t, k, gb, dfm, sc, X, e, O, h => by
    unfold chkE at h
    split at h <;> first | (cases h; done) | skip
    simp only [Bool.and_eq_true] at h
    obtain ⟨⟨⟨⟨⟨h1, h2⟩, h3⟩, h4⟩, h5⟩, h6⟩ := h
    simp only [decide_eq_true_eq] at h1
    subst h1
    have ha := snd_E a O h6
    exact .of (s_isT O h2 h3 h4 h5 (kind_star ha.2.2) ha.1 (O.F.blt _ (by decide +kernel))) rfl fun _ _ => by rw [evE]
  | .dict ks es, k, gb, dfm, sc, X, e, O, h => by
    unfold chkE at h
    split at h <;> first | (cases h; done) | skip
    simp only [Bool.and_eq_true, decide_eq_true_eq] at h
    obtain ⟨⟨⟨⟨h1, h2⟩, h3⟩, h4⟩, h5⟩ := h
    exact .of (s_dict O h1 (snd_Es es O h5) (by rw [← le_len h5, h2]) h3 h4) rfl fun _ _ => by rw [evE] <;> rfl
  | .dcopy a, k, gb, dfm, sc, X, e, O, h => by
    unfold chkE at h
    split at h <;> first | (cases h; done) | skip
    simp only [Bool.and_eq_true, decide_eq_true_eq] at h
    obtain ⟨⟨h1, h2⟩, h3⟩ := h
    subst h1
    have ha := snd_E a O h3
    exact .of (s_dcopy O h2 (kind_star ha.2.2) ha.1) rfl fun _ _ => by rw [evE] <;> rfl
  | .comp pu own t it tst ce, k, gb, dfm, sc, X, e, O, h => by
    unfold chkE at h
    split at h <;> first | (cases h; done) | skip
    simp only [Bool.and_eq_true, decide_eq_true_eq] at h
    obtain ⟨⟨⟨⟨⟨⟨h1, h2⟩, h3⟩, h4⟩, h5⟩, h6⟩, h7⟩ := h
    rename_i elt tg iter ifs scope pos
    obtain ⟨hi, hs⟩ := snd_I it O h2
    have hp := pe_lc (X := X) (pos := pos) (g := tgG X.K t) (te := tE P T X.K (evE P (clG P k gb) ce)) (tt := tB P T X.K (evAll P (clG P k gb) tst)) O.calm (by rw [O.hN]; exact O.nd) hi (by rw [O.hN, O.sc]; exact blkOk_by h1)
      (fun s H C cl fp => (s_tgt (O.blk s H scope C cl fp) h3).1) (fun s H C cl fp => snd_ts tst (O.blk s H scope C cl fp) h4 h5) (fun s H C cl fp => (snd_E ce (O.blk s H scope C cl fp) h6).1) hs
    rw [own_snd] at hp
    have hq : PE X (.ListComp elt [⟨tg, iter, ifs, 0⟩] scope pos) (tE P T X.K (compM pu own t (evI P (clG P k gb) it) (evAll P (clG P k gb) tst) (evE P (clG P k gb) ce))) :=
      ⟨fun pins s σ H Q I q => hp.run pins s σ H Q I (comp_rd (s_tgt (O.blk s H scope 0 [] []) h3).2 h7 q)⟩
    exact .of hq rfl fun _ _ => by rw [evE] <;> rfl
theorem snd_ts {P : Prog} {T : Adr} {N : List Str} : ∀ (cs : CEs) {k : Nat} {gb dfm : Bool} {sc : Scope} {X : Cx} {es : List Expr}, XOk P T k gb N dfm sc X → chkEs P N sc cs es = true → lenEs cs ≤ 1 → PTs X es (tB P T X.K (evAll P (clG P k gb) cs))
  | .nil, k, gb, dfm, sc, X, es, O, h, hl => by
    cases es with
    | nil => exact s_tests0.cast fun _ _ => by rw [evAll]
    | cons _ _ => simp [chkEs] at h
  | .cons c .nil, k, gb, dfm, sc, X, es, O, h, hl => by
    cases es with
    | nil => simp [chkEs] at h
    | cons e es =>
      cases es with
      | cons _ _ => simp [chkEs] at h
      | nil =>
        simp only [chkEs, Bool.and_eq_true] at h
        exact (s_tests1 (snd_E c O h.1).2.1).cast fun _ _ => by rw [evAll] <;> rfl
  | .cons c (.cons c' cs), k, gb, dfm, sc, X, es, O, h, hl => by simp only [lenEs] at hl; omega
theorem snd_and {P : Prog} {T : Adr} {N : List Str} : ∀ (cs : CEs) {k : Nat} {gb dfm : Bool} {sc : Scope} {X : Cx} {es : List Expr}, XOk P T k gb N dfm sc X → chkEs P N sc cs es = true → 1 ≤ lenEs cs →
    (∀ pos, PE X (.BoolOp .And es pos) (tE P T X.K (evAnd P (clG P k gb) cs))) ∧ ∀ pos, PW X (.BoolOp .And es pos) (tT P T X.K (evAnd P (clG P k gb) cs))
  | .nil, k, gb, dfm, sc, X, es, O, h, hl => by simp [lenEs] at hl
  | .cons c cs, k, gb, dfm, sc, X, es, O, h, hl => by
    cases es with
    | nil => simp [chkEs] at h
    | cons e es =>
      simp only [chkEs, Bool.and_eq_true] at h
      have g := snd_E c O h.1
      cases cs with
      | nil =>
        cases es with
        | cons _ _ => simp [chkEs] at h
        | nil => exact ⟨fun pos => (pe_one g.1).cast fun _ _ => by rw [evAnd], fun pos => (pw_and1 g.2.1).cast fun _ _ => by rw [evAnd]⟩
      | cons c' cs =>
        obtain ⟨i1, i2⟩ := snd_and (.cons c' cs) O h.2 (by simp [lenEs])
        cases es with
        | nil => simp [chkEs] at h
        | cons e' es => exact ⟨fun pos => (s_and g.1 (i1 pos)).cast fun _ _ => by rw [evAnd] <;> rfl, fun pos => (s_andT g.2.1 (i2 pos)).cast fun _ _ => by rw [evAnd] <;> rfl⟩
theorem snd_or {P : Prog} {T : Adr} {N : List Str} : ∀ (cs : CEs) {k : Nat} {gb dfm : Bool} {sc : Scope} {X : Cx} {es : List Expr}, XOk P T k gb N dfm sc X → chkEs P N sc cs es = true → 1 ≤ lenEs cs →
    (∀ pos, PE X (.BoolOp .Or es pos) (tE P T X.K (evOr P (clG P k gb) cs))) ∧ ∀ pos, PW X (.BoolOp .Or es pos) (tT P T X.K (evOr P (clG P k gb) cs))
  | .nil, k, gb, dfm, sc, X, es, O, h, hl => by simp [lenEs] at hl
  | .cons c cs, k, gb, dfm, sc, X, es, O, h, hl => by
    cases es with
    | nil => simp [chkEs] at h
    | cons e es =>
      simp only [chkEs, Bool.and_eq_true] at h
      have g := snd_E c O h.1
      cases cs with
      | nil =>
        cases es with
        | cons _ _ => simp [chkEs] at h
        | nil => exact ⟨fun pos => (pe_one g.1).cast fun _ _ => by rw [evOr], fun pos => (pw_or1 g.2.1).cast fun _ _ => by rw [evOr]⟩
      | cons c' cs =>
        obtain ⟨i1, i2⟩ := snd_or (.cons c' cs) O h.2 (by simp [lenEs])
        cases es with
        | nil => simp [chkEs] at h
        | cons e' es => exact ⟨fun pos => (s_or g.1 (i1 pos)).cast fun _ _ => by rw [evOr] <;> rfl, fun pos => (s_orT g.2.1 (i2 pos)).cast fun _ _ => by rw [evOr] <;> rfl⟩
theorem snd_Es {P : Prog} {T : Adr} {N : List Str} : ∀ (cs : CEs) {k : Nat} {gb dfm : Bool} {sc : Scope} {X : Cx} {es : List Expr}, XOk P T k gb N dfm sc X → chkEs P N sc cs es = true → LE P T X es (evEs P (clG P k gb) cs)
  | .nil, k, gb, dfm, sc, X, es, O, h => by
    cases es with
    | nil => exact LE.nil.cast fun _ _ => by rw [evEs]
    | cons _ _ => simp [chkEs] at h
  | .cons c cs, k, gb, dfm, sc, X, es, O, h => by
    cases es with
    | nil => simp [chkEs] at h
    | cons e es =>
      simp only [chkEs, Bool.and_eq_true] at h
      have g := snd_E c O h.1
      exact (LE.cons g.1 (kind_star g.2.2) (snd_Es cs O h.2)).cast fun _ _ => by rw [evEs]
theorem snd_L {P : Prog} {T : Adr} {N : List Str} : ∀ (cl : CL) {k : Nat} {gb dfm : Bool} {sc : Scope} {X : Cx} {e : Expr}, XOk P T k gb N dfm sc X → chkL P N sc cl e = true → PE X e (tF P T X.K (evL P (clG P k gb) cl)) ∧ plainE e = true
  | .disp es, k, gb, dfm, sc, X, e, O, h => by
    unfold chkL at h
    split at h <;> first | (cases h; done) | skip
    exact ⟨(s_disp (snd_Es es O h).pa).castF fun _ _ => by rw [evL], rfl⟩
  | .copy a, k, gb, dfm, sc, X, e, O, h => by
    unfold chkL at h
    split at h <;> first | (cases h; done) | skip
    simp only [Bool.and_eq_true, decide_eq_true_eq] at h
    obtain ⟨⟨h1, h2⟩, h3⟩ := h
    subst h1
    have ha := snd_E a O h3
    exact ⟨(s_copy O h2 (star_cons (by simp [kind_star ha.2.2])) ha.1).castF fun _ _ => by rw [evL], rfl⟩
  | .sl a lo hi, k, gb, dfm, sc, X, e, O, h => by
    unfold chkL at h
    split at h <;> first | (cases h; done) | skip
    simp only [Bool.and_eq_true] at h
    exact ⟨(s_sll (snd_E a O h.1.1).1 (s_O lo (fun h => (snd_E lo O h).1) h.1.2) (s_O hi (fun h => (snd_E hi O h).1) h.2)).castF fun _ _ => by rw [evL] <;> rfl, rfl⟩
  | .cat a b, k, gb, dfm, sc, X, e, O, h => by
    unfold chkL at h
    split at h <;> first | (cases h; done) | skip
    simp only [Bool.and_eq_true] at h
    exact ⟨(s_cat (snd_E a O h.1).1 (snd_E b O h.2).1).castF fun _ _ => by rw [evL] <;> rfl, rfl⟩
theorem snd_I {P : Prog} {T : Adr} {N : List Str} : ∀ (ci : CI) {k : Nat} {gb dfm : Bool} {sc : Scope} {X : Cx} {tg e : Expr}, XOk P T k gb N dfm sc X → chkI P N sc ci tg e = true → PI X tg e (tI P T X.K (evI P (clG P k gb) ci)) ∧ ∀ x, foldedSetIterable e X.env x = pure x
  | .seq a, k, gb, dfm, sc, X, tg, e, O, h => by
    unfold chkI at h
    have ha := snd_E a O h
    exact ⟨(s_iseq ha.1).cast fun _ _ => by rw [evI] <;> rfl, kind_set ha.2.2 _⟩
  | .rng1 a, k, gb, dfm, sc, X, tg, e, O, h => by
    unfold chkI at h
    split at h <;> first | (cases h; done) | skip
    simp only [Bool.and_eq_true, decide_eq_true_eq] at h
    obtain ⟨⟨h1, h2⟩, h3⟩ := h
    subst h1
    have ha := snd_E a O h3
    exact ⟨(s_irng1 O h2 (kind_star ha.2.2) ha.1).cast fun _ _ => by rw [evI] <;> rfl, fun _ => rfl⟩
  | .rng2 a b, k, gb, dfm, sc, X, tg, e, O, h => by
    unfold chkI at h
    split at h <;> first | (cases h; done) | skip
    simp only [Bool.and_eq_true, decide_eq_true_eq] at h
    obtain ⟨⟨⟨h1, h2⟩, h3⟩, h4⟩ := h
    subst h1
    have ha := snd_E a O h3
    have hb := snd_E b O h4
    exact ⟨(s_irng2 O h2 (by simp [kind_star ha.2.2, kind_star hb.2.2]) ha.1 hb.1).cast fun _ _ => by rw [evI] <;> rfl, fun _ => rfl⟩
  | .enm a, k, gb, dfm, sc, X, tg, e, O, h => by
    unfold chkI at h
    split at h <;> first | (cases h; done) | skip
    simp only [Bool.and_eq_true, decide_eq_true_eq] at h
    obtain ⟨⟨h1, h2⟩, h3⟩ := h
    subst h1
    have ha := snd_E a O h3
    exact ⟨(s_ienm O h2 (kind_star ha.2.2) ha.1).cast fun _ _ => by rw [evI] <;> rfl, fun _ => rfl⟩
  | .rev a, k, gb, dfm, sc, X, tg, e, O, h => by
    unfold chkI at h
    split at h <;> first | (cases h; done) | skip
    simp only [Bool.and_eq_true, decide_eq_true_eq] at h
    obtain ⟨⟨h1, h2⟩, h3⟩ := h
    subst h1
    have ha := snd_E a O h3
    exact ⟨(s_irev O h2 (kind_star ha.2.2) ha.1).cast fun _ _ => by rw [evI] <;> rfl, fun _ => rfl⟩
  | .zip a b, k, gb, dfm, sc, X, tg, e, O, h => by
    unfold chkI at h
    split at h <;> first | (cases h; done) | skip
    simp only [Bool.and_eq_true, decide_eq_true_eq] at h
    obtain ⟨⟨⟨h1, h2⟩, h3⟩, h4⟩ := h
    subst h1
    have ha := snd_E a O h3
    have hb := snd_E b O h4
    exact ⟨(s_izip O h2 (by simp [kind_star ha.2.2, kind_star hb.2.2]) ha.1 hb.1).cast fun _ _ => by rw [evI] <;> rfl, fun _ => rfl⟩
end
end Eng

set_option Elab.async false
set_option linter.all false
set_option maxHeartbeats 4000000
set_option maxRecDepth 10000
/-! E17: the statements are right. -/
namespace Eng
open PySem L2
def notComp : Expr → Bool
  | .ListComp _ _ _ _ => false | .SetComp _ _ _ _ => false | .DictComp _ _ _ _ _ => false | _ => true
def notTup : Expr → Bool
  | .Tuple _ _ _ => false | _ => true
theorem sw_no {e : Expr} (h : notComp e = true) (t : Option Expr) (l : Nat) (env : PySem.Env) : swapsWith e t l env = pure false := by cases e <;> first | (cases h; done) | rfl
theorem sw_attr {e o : Expr} {f : Str} {p : Pos} (l : Nat) (env : PySem.Env) : swapsWith e (some (.Attribute o f p)) l env = pure false := by cases e <;> rfl
theorem sw_sub {e o i : Expr} {p : Pos} (l : Nat) (env : PySem.Env) : swapsWith e (some (.Subscript o i p)) l env = pure false := by cases e <;> rfl
theorem st_no {e : Expr} (h : notTup e = true) (ts : List Expr) (k : Nat) (p : Pos) (env : PySem.Env) : swappedStores [.Tuple ts k p] e env = pure none := by cases e <;> first | (cases h; done) | rfl
def asgC (sc : Scope) : Expr → Expr → Bool
  | .Name y py, .ListComp _ _ scope pos => (match sc.names.lookup y with | some .local => true | _ => false) && (py.line == pos.line) && !(scope.names.any fun (n, k) => n == y && (k == .local || k == .cell))
  | .Name _ _, e => notComp e
  | .Tuple _ _ _, e => notComp e && notTup e
  | _, _ => false
def augC : BOp → Operator → Bool
  | .add, .Add => true | .sub, .Sub => true | _, _ => false
mutual
def chkS (P : Prog) (N : List Str) (dfm : Bool) (sc : Scope) : CS → Stmt → Bool
  | .expr e, st => match st with | .Expr ee _ => notComp ee && chkE P N sc e ee | _ => false
  | .asg t e, st => match st with | .Assign [tg] ee _ => chkT N dfm sc t tg && asgC sc tg ee && chkE P N sc e ee | _ => false
  | .fld a f e, st => match st with | .Assign [.Attribute ea x _] ee _ => decide (P.tag f = x) && chkE P N sc a ea && chkE P N sc e ee | _ => false
  | .sub a i e, st => match st with | .Assign [.Subscript ea ei _] ee _ => chkE P N sc a ea && chkE P N sc i ei && chkE P N sc e ee | _ => false
  | .aug i op e, st => match st with | .AugAssign (.Name x _) o ee _ => augC op o && decide (N[i]? = some x) && locC dfm sc x && chkE P N sc e ee | _ => false
  | .augf a f op e, st => match st with | .AugAssign (.Attribute ea x _) o ee _ => (match op, o with | .add, .Add => true | _, _ => false) && decide (P.tag f = x) && chkE P N sc a ea && chkE P N sc e ee | _ => false
  | .if_ c t e, st => match st with | .If ec st se _ => chkE P N sc c ec && chkSs P N dfm sc t st && chkSs P N dfm sc e se | _ => false
  | .wh c b, st => match st with | .While ec sb [] _ => chkE P N sc c ec && chkSs P N dfm sc b sb | _ => false
  | .for_ t it b, st => match st with | .For tg iter sb [] _ => chkT N dfm sc t tg && chkI P N sc it tg iter && chkSs P N dfm sc b sb | _ => false
  | .ret e, st => match st with | .Return (some ee) _ => chkE P N sc e ee | _ => false
  | .retN, st => match st with | .Return none _ => true | _ => false
  | .pass, st => match st with | .Pass _ => true | .Expr (.Constant (.str _) _ _) _ => true | _ => false
  | .brk, st => match st with | .Break _ => true | _ => false
  | .cont, st => match st with | .Continue _ => true | _ => false
  | .nev, _ => true
def chkSs (P : Prog) (N : List Str) (dfm : Bool) (sc : Scope) : CSs → List Stmt → Bool
  | .nil, ss => match ss with | [] => true | _ => false
  | .cons c cs, ss => match ss with | s :: ss => chkS P N dfm sc c s && chkSs P N dfm sc cs ss | [] => false
end
section
variable {K : PySem.W.Frag} {P : Prog} {T : Adr} {ρ ρ1 : List Addr} {H H1 : Hp} {S S1 : Sto} {X : Cx} {k : Nat} {N : List Str} {gb dfm : Bool} {sc : Scope} {e ea eb ec tg : Expr} {es : List Expr} {pos p2 p3 apos q0 tpos : Pos} {m ma mb mc : MW} {st : Stmt}
def PostS (P : Prog) (T : Adr) (K : PySem.W.Frag) (ρ : List Addr) (H : Hp) (r : R Fl) (D : Ends) : Prop :=
  match r with
  | .ok (.nx env') S' => ∀ ρ' H' σ', Ext ρ H ρ' H' → SR P T K ρ' H' S' → ER P T K ρ' H' env' σ' → D.nx σ' H'
  | .ok (.ret w) S' => ∀ ρ' H' v, Ext ρ H ρ' H' → SR P T K ρ' H' S' → VR P T K ρ' H' w v → D.rt v H'
  | .ok (.bk env') S' => ∀ ρ' H' σ', Ext ρ H ρ' H' → SR P T K ρ' H' S' → ER P T K ρ' H' env' σ' → D.bk σ' H'
  | .ok (.ct env') S' => ∀ ρ' H' σ', Ext ρ H ρ' H' → SR P T K ρ' H' S' → ER P T K ρ' H' env' σ' → D.ct σ' H'
  | _ => False
abbrev MS := Env → Sto → R Fl
def tS (P : Prog) (T : Adr) (K : PySem.W.Frag) (m : MS) : TS := fun D σ H => ∃ ρ env S, ER P T K ρ H env σ ∧ SR P T K ρ H S ∧ PostS P T K ρ H (m env S) D
theorem PostS.re {ρ' : List Addr} {H' : Hp} {r : R Fl} {D : Ends} (x : Ext ρ H ρ' H') (h : PostS P T K ρ H r D) : PostS P T K ρ' H' r D := by
  cases r with
  | ok w S1 => cases w <;> exact fun ρ2 H2 J x2 s2 q2 => h ρ2 H2 J (x.trans x2) s2 q2
  | exc _ _ _ => exact False.elim h
  | bad => exact False.elim h
theorem Post.bindS {r : R W} {f : W → Sto → R Fl} {D : Ends} (h : PostS P T K ρ H (r.bind f) D) : Post P T K ρ H r fun w S1 ρ1 H1 _ => PostS P T K ρ1 H1 (f w S1) D := by
  cases r with
  | ok w S1 => exact fun ρ1 H1 v x s _ => PostS.re x h
  | exc _ _ _ => exact False.elim h
  | bad => exact False.elim h
theorem _root_.L2.PS.castS {m m' : MS} (h : PS X st (tS P T K m)) (he : ∀ env S, m' env S = m env S) : PS X st (tS P T K m') := by
  have : m' = m := by funext env S; exact he env S
  rw [this]; exact h
/-! ### small statements -/
theorem s_expr (h : notComp e = true) (he : PE X e (tE P T X.K m)) : PS X (.Expr e pos) (tS P T X.K fun env S => (m env S).bind fun _ S1 => .ok (.nx env) S1) := by
  refine ⟨fun pins s σ H D I q => ?_⟩
  obtain ⟨ρ, env, S, er, sr, q⟩ := q
  refine (ps_expr he (sw_no h _ _ _)).run pins s σ H D I ⟨ρ, env, S, er, sr, (Post.bindS q).imp fun w1 S1 ρ1 H1 v1 x1 s1 r1 q1 => ?_⟩
  exact q1 ρ1 H1 σ Ext.refl s1 (er.mono x1)
theorem s_ret (he : PE X e (tE P T X.K m)) : PS X (.Return (some e) pos) (tS P T X.K fun env S => (m env S).bind fun w S1 => .ok (.ret w) S1) := by
  refine ⟨fun pins s σ H D I q => ?_⟩
  obtain ⟨ρ, env, S, er, sr, q⟩ := q
  refine (ps_ret he).run pins s σ H D I ⟨ρ, env, S, er, sr, (Post.bindS q).imp fun w1 S1 ρ1 H1 v1 x1 s1 r1 q1 => ?_⟩
  exact q1 ρ1 H1 v1 Ext.refl s1 r1
abbrev asgM (t : CT) (m : MW) : MS := fun env S => (m env S).bind fun w S1 => match asgT t w env with | some env' => .ok (.nx env') S1 | none => .bad
theorem asg_rd {t : CT} {g : TG} {D : Ends} {σ : L2.St} (hg : TgOk P T K t g) (q : tS P T K (asgM t m) D σ H) : tE P T K m σ H fun x H1 => g x σ H1 D.nx := by
  obtain ⟨ρ, env, S, er, sr, q⟩ := q
  refine ⟨ρ, env, S, er, sr, (Post.bindS q).imp fun w1 S1 ρ1 H1 v1 x1 s1 r1 q1 => ?_⟩
  cases c : asgT t w1 env with
  | none => rw [c] at q1; exact False.elim q1
  | some env' =>
    rw [c] at q1
    exact hg r1 (er.mono x1) c _ fun σ' er' _ => q1 ρ1 H1 σ' Ext.refl s1 er'
/-- a store of an expression that is no comprehension -/
theorem s_asg (O : XOk P T k gb N dfm sc X) {t : CT} (ht : chkT N dfm sc t tg = true) (hn : notComp e = true) (hs : swappedStores [tg] e X.env = pure none) (he : PE X e (tE P T X.K m)) : PS X (.Assign [tg] e pos) (tS P T X.K (asgM t m)) := by
  obtain ⟨h1, h2⟩ := s_tgt O ht
  refine ⟨fun pins s σ H D I q => ?_⟩
  exact (ps_asg he h1 (sw_no hn _ _ _) hs (by rw [tgt_each (chkT_tgt ht)]; rfl)).run pins s σ H D I (asg_rd h2 q)
theorem s_asgN (O : XOk P T k gb N dfm sc X) {t : CT} {x : Str} {px : Pos} (ht : chkT N dfm sc t (.Name x px) = true) (hn : notComp e = true) (he : PE X e (tE P T X.K m)) : PS X (.Assign [.Name x px] e pos) (tS P T X.K (asgM t m)) :=
  s_asg O ht hn (by cases e <;> rfl) he
/-- a field written -/
theorem setF_ok {mg : Str → Option Value} (F : Facts P T K mg) {w v : W} {x y : V} {f : Nat} {S3 : Sto} (s : SR P T K ρ H S) (r : VR P T K ρ H w x) (rv : VR P T K ρ H v y) (e : setFW P S w f v = some S3) :
    ∃ p c dx fs, x = .ref p ∧ (asIns S w).map (·.1) = some c ∧ H p = some (.ins (T.C c) dx fs) ∧ Cls K (T.C c) ∧ NoAttr K (T.C c) (P.tag f) ∧ fs.length < 1000 ∧
      Ext ρ H ρ (upd H p (.ins (T.C c) dx (putF (P.tag f) y fs))) ∧ SR P T K ρ (upd H p (.ins (T.C c) dx (putF (P.tag f) y fs))) S3 := by
  cases w <;> simp only [setFW] at e <;> first | (cases e; done) | skip
  rename_i l
  simp only [VR] at r
  obtain ⟨a, ha, rfl⟩ := r
  cases q : S[l]? with
  | none => rw [q] at e; cases e
  | some o =>
    rw [q] at e
    cases o with
    | ins c ns ws =>
      dsimp only at e
      split at e
      · rename_i hc
        cases e
        obtain ⟨dx, fs, g1, g2, g3, g4, g5⟩ := s.ob l a _ ha q
        obtain ⟨p1, p2, p3⟩ := putF_ok F.inj rv (f := f) g4 g5
        have hl : fs.length < 1000 := by
          have := congrArg List.length g4
          simp only [List.length_map] at this
          omega
        have x1 : Ext ρ H ρ (upd H a (.ins (T.C c) dx (putF (P.tag f) y fs))) := Ext.put ha
        refine ⟨a, c, dx, fs, rfl, by simp [asIns, q], g1, g3, F.nf c f hc.2, hl, x1, s.put ha ⟨dx, _, upd_same, fun g hg => ?_, g3, p1, p2.mono x1⟩⟩
        rcases p3 g hg with z | z
        · exact g2 g z
        · subst z; exact F.nf c g hc.2
      · cases e
    | _ => cases e
theorem s_fldS (O : XOk P T k gb N dfm sc X) {f : Nat} (ha : PE X ea (tE P T X.K ma)) (he : PE X e (tE P T X.K m)) : PS X (.Assign [.Attribute ea (P.tag f) apos] e pos) (tS P T X.K fun env S => (m env S).bind fun v S1 => (ma env S1).bind fun x S2 => match setFW P S2 x f v with | some S3 => .ok (.nx env) S3 | none => .bad) := by
  refine ⟨fun pins s σ H D I q => ?_⟩
  obtain ⟨ρ, env, S, er, sr, q⟩ := q
  refine (ps_fld ha he (sw_attr _ _)).run pins s σ H D I ⟨ρ, env, S, er, sr, (Post.bindS q).imp fun w1 S1 ρ1 H1 v1 x1 s1 r1 q1 => ?_⟩
  refine ⟨ρ1, env, S1, er.mono x1, s1, (Post.bindS q1).imp fun w2 S2 ρ2 H2 v2 x2 s2 r2 q2 => ?_⟩
  cases c : setFW P S2 w2 f w1 with
  | none => rw [c] at q2; exact False.elim q2
  | some S3 =>
    rw [c] at q2
    obtain ⟨p, C, dx, fs, rfl, _, g1, g2, g3, g4, x3, s3⟩ := setF_ok O.F s2 r2 (r1.mono x2) c
    exact ⟨p, _, dx, fs, rfl, g1, g2, g3, g4, q2 ρ2 _ σ x3 s3 (((er.mono x1).mono x2).mono x3)⟩
def augfM (f : Nat) (op : BOp) (ma m : MW) (P : Prog) : MS := fun env S => (ma env S).bind fun x S1 => match getF S1 x f with
      | some (.int i) => (m env S1).bind fun y S2 => match op, y with
        | .add, .int j => if (asIns S1 x).map (·.1) = (asIns S2 x).map (·.1) then match setFW P S2 x f (.int (i + j)) with | some S3 => .ok (.nx env) S3 | none => .bad else .bad
        | _, _ => .bad
      | _ => .bad
theorem s_augf (O : XOk P T k gb N dfm sc X) {f : Nat} {op : BOp} (hop : op = .add) (ha : PE X ea (tE P T X.K ma)) (he : PE X e (tE P T X.K m)) : PS X (.AugAssign (.Attribute ea (P.tag f) apos) .Add e pos) (tS P T X.K (augfM f op ma m P)) := by
  subst hop
  refine ⟨fun pins s σ H D I q => ?_⟩
  obtain ⟨ρ, env, S, er, sr, q⟩ := q
  unfold augfM at q
  refine (ps_fldaug ha he in_add).run pins s σ H D I ⟨ρ, env, S, er, sr, (Post.bindS q).imp fun w1 S1 ρ1 H1 v1 x1 s1 r1 q1 => ?_⟩
  cases cg : getF S1 w1 f with
  | none => rw [cg] at q1; exact False.elim q1
  | some wi =>
    rw [cg] at q1
    cases wi <;> first | (exact False.elim q1; done) | skip
    rename_i i
    unfold getF at cg
    cases ci : asIns S1 w1 with
    | none => rw [ci] at cg; cases cg
    | some t =>
      obtain ⟨c, ns, ws⟩ := t
      rw [ci] at cg
      dsimp only [Option.bind_some] at cg
      obtain ⟨p, dx, fs, rfl, g1, g2, g3, g4, g5⟩ := r1.inst s1 ci
      obtain ⟨hm, v, hv, rv⟩ := fld_ok O.F.inj g4 g5 cg
      cases rv.int_inv
      refine ⟨p, T.C c, dx, fs, _, rfl, g1, g3, g2 f hm, hv, ρ1, env, S1, er.mono x1, s1, (Post.bindS q1).imp fun w2 S2 ρ2 H2 v2 x2 s2 r2 q2 => ?_⟩
      cases w2 <;> first | (exact False.elim q2; done) | skip
      rename_i j
      cases r2.int_inv
      dsimp only at q2
      rw [ci] at q2
      split at q2
      · rename_i hc
        cases cs : setFW P S2 w1 f (.int (i + j)) with
        | none => rw [cs] at q2; exact False.elim q2
        | some S3 =>
          rw [cs] at q2
          obtain ⟨p', c', dx', fs', e', hc', g1', g2', g3', g4', x3, s3⟩ := setF_ok (y := .int (i + j)) O.F s2 (r1.mono x2) (by simp [VR]) cs
          cases e'
          rw [hc'] at hc
          have : c' = c := by simpa using hc.symm
          subst this
          exact ⟨i, j, rfl, rfl, dx', fs', g1', g4', q2 ρ2 _ σ x3 s3 (((er.mono x1).mono x2).mono x3)⟩
      · exact False.elim q2
def augM (i : Nat) (op : BOp) (m : MW) : MS := fun env S => match env[i]?.join with
      | some x => (m env S).bind fun y S1 => match op, x, y with
        | .add, .int a, .int b => .ok (.nx (env.set i (some (.int (a + b))))) S1
        | .sub, .int a, .int b => .ok (.nx (env.set i (some (.int (a - b))))) S1
        | _, _, _ => .bad
      | none => .bad
theorem s_aug (O : XOk P T k gb N dfm sc X) {i : Nat} {x : Str} {px : Pos} {op : BOp} {o : Operator} (ho : augC op o = true) (h1 : N[i]? = some x) (h2 : locC dfm sc x = true) (he : PE X e (tE P T X.K m)) : PS X (.AugAssign (.Name x px) o e pos) (tS P T X.K (augM i op m)) := by
  obtain ⟨l1, l2⟩ := loc_of h2 O.sc
  have hf : X.fn x = true ∨ X.env.scope.names.lookup x = some .local := l2.elim .inr fun z => .inl (O.fnd z x)
  refine ⟨fun pins s σ H D I q => ?_⟩
  obtain ⟨ρ, env, S, er, sr, q⟩ := q
  unfold augM at q
  cases cx : env[i]?.join with
  | none => rw [cx] at q; exact False.elim q
  | some wx =>
    rw [cx] at q
    have he' : env[i]? = some (some wx) := by
      cases c : env[i]? with
      | none => rw [c] at cx; cases cx
      | some o => rw [c] at cx; exact congrArg some cx
    obtain ⟨v, hv, rv⟩ := er.2 i wx he'
    cases op <;> cases o <;> first | (cases ho; done) | skip
    all_goals
      refine PS.run (ps_aug (by rw [O.hN]; exact O.nd) (by rw [O.hN]; exact h1) l1 he (by first | exact ip_add | exact ip_sub) hf) pins s σ H D I ⟨v, hv, ρ, env, S, er, sr, (Post.bindS q).imp fun w1 S1 ρ1 H1 v1 x1 s1 r1 q1 => ?_⟩
      cases wx <;> first | (exact False.elim q1; done) | skip
      cases w1 <;> first | (exact False.elim q1; done) | skip
      cases rv.int_inv
      cases r1.int_inv
      exact ⟨_, _, rfl, rfl, q1 ρ1 H1 _ Ext.refl s1 ((er.mono x1).set (by simp [VR]))⟩
theorem s_sub (O : XOk P T k gb N dfm sc X) (hs : kindOk eb = true) (ha : PE X ea (tE P T X.K ma)) (hb : PE X eb (tE P T X.K mb)) (he : PE X e (tE P T X.K m)) : PS X (.Assign [.Subscript ea eb apos] e pos) (tS P T X.K fun env S => (m env S).bind fun v S1 => (ma env S1).bind fun x S2 => (mb env S2).bind fun y S3 => match subW S3 x y v with | some S4 => .ok (.nx env) S4 | none => .bad) := by
  refine ⟨fun pins s σ H D I q => ?_⟩
  obtain ⟨ρ, env, S, er, sr, q⟩ := q
  have hu : X.A.units + 1 < cLine := hu_of O.room
  obtain ⟨w1, S1, e1⟩ := (Post.bindS q).val
  have q0 := q
  dsimp only at q0
  rw [e1] at q0
  simp only [R.bind] at q0
  obtain ⟨w2, S2, e2⟩ := (Post.bindS (r := ma env S1) (f := fun x S2 => (mb env S2).bind fun y S3 => match subW S3 x y w1 with | some S4 => .ok (.nx env) S4 | none => .bad) q0).val
  rw [e2] at q0
  simp only [R.bind] at q0
  obtain ⟨w3, S3, e3⟩ := (Post.bindS (r := mb env S2) (f := fun y S3 => match subW S3 w2 y w1 with | some S4 => .ok (.nx env) S4 | none => .bad) q0).val
  rw [e3] at q0
  simp only [R.bind] at q0
  cases cs : subW S3 w2 w3 w1 with
  | none => rw [cs] at q0; exact False.elim q0
  | some S4 =>
    rw [cs] at q0
    dsimp only at q0
    unfold subW at cs
    cases w2 <;> first | (cases cs; done) | skip
    rename_i l
    dsimp only at cs
    cases cl : S3[l]? with
    | none => rw [cl] at cs; cases cs
    | some o =>
      rw [cl] at cs
      cases o with
      | ins _ _ _ => cases cs
      | lst xs =>
        cases w3 <;> first | (cases cs; done) | skip
        rename_i j
        dsimp only at cs
        cases cj : ixN xs.length j with
        | none => rw [cj] at cs; cases cs
        | some n =>
          rw [cj] at cs
          simp only [Option.map_some, Option.some.injEq] at cs
          subst cs
          have hp : PS X (.Assign [.Subscript ea eb apos] e pos) (tAsg (tE P T X.K m) (gSub (tE P T X.K ma) (tE P T X.K mb) rSetL)) :=
            ps_asg he (pg_sub ha hb set_list (by intro v; cases eb <;> first | (cases hs; done) | rfl)) (sw_sub (e := e) (o := ea) (i := eb) (p := apos) pos.line X.env) (by cases e <;> rfl) rfl
          refine hp.run pins s σ H D I ⟨ρ, env, S, er, sr, ?_⟩
          rw [e1]
          intro ρ1 H1 v1 x1 s1 r1
          refine ⟨ρ1, env, S1, er.mono x1, s1, ?_⟩
          rw [e2]
          intro ρ2 H2 v2 x2 s2 r2
          refine ⟨ρ2, env, S2, (er.mono x1).mono x2, s2, ?_⟩
          rw [e3]
          intro ρ3 H3 v3 x3 s3 r3
          have r2' := r2.mono x3
          simp only [VR] at r2'
          obtain ⟨a, h1, rfl⟩ := r2'
          cases r3.int_inv
          obtain ⟨vs, g1, g2, g3⟩ := s3.ob l a _ h1 cl
          obtain ⟨x4, s4⟩ := put_lst s3 h1 (by rw [List.length_set]; exact g2) (g3.set ((r1.mono x2).mono x3) n)
          exact ⟨a, vs, j, n, rfl, rfl, g1, by rw [← g3.len]; exact cj, q0 ρ3 _ σ (((x1.trans x2).trans x3).trans x4) s4 ((((er.mono x1).mono x2).mono x3).mono x4)⟩
      | dK ks ws =>
        dsimp only at cs
        cases ck : keyOf w3 with
        | none => rw [ck] at cs; cases cs
        | some x =>
          rw [ck] at cs
          dsimp only at cs
          split at cs
          · rename_i hl
            cases cs
            refine (ps_dput hu ha hb he (sw_sub _ _)).run pins s σ H D I ⟨ρ, env, S, er, sr, ?_⟩
            rw [e1]
            intro ρ1 H1 v1 x1 s1 r1
            refine ⟨ρ1, env, S1, er.mono x1, s1, ?_⟩
            rw [e2]
            intro ρ2 H2 v2 x2 s2 r2
            refine ⟨ρ2, env, S2, (er.mono x1).mono x2, s2, ?_⟩
            rw [e3]
            intro ρ3 H3 v3 x3 s3 r3
            have r2' := r2.mono x3
            simp only [VR] at r2'
            obtain ⟨a, h1, rfl⟩ := r2'
            obtain ⟨kvs, g1, g2, g3, g4⟩ := s3.ob l a _ h1 cl
            obtain ⟨p1, p2, p3⟩ := put_map g3 g4 ((r1.mono x2).mono x3) (k := x)
            have hl' : kvs.length < sizeLine := by
              have := congrArg List.length g3
              simp only [List.length_map] at this
              omega
            have x4 : Ext ρ3 H3 ρ3 (upd H3 a (.dK (putK kvs x v1))) := Ext.put h1
            have s4 : SR P T X.K ρ3 (upd H3 a (.dK (putK kvs x v1))) (S3.set l (.dK (dPut ks ws x w1).1 (dPut ks ws x w1).2)) := s3.put h1 ⟨_, upd_same, by omega, p1, p2.mono x4⟩
            exact ⟨a, _, rfl, by rw [key_ok r3 ck]; exact DPut.k g1 hl', q0 ρ3 _ σ (((x1.trans x2).trans x3).trans x4) s4 ((((er.mono x1).mono x2).mono x3).mono x4)⟩
          · cases cs
end
end Eng

set_option Elab.async false
set_option linter.all false
set_option maxHeartbeats 4000000
set_option maxRecDepth 10000
/-! E18: loops, blocks; all statements. -/
namespace Eng
open PySem L2
section
variable {K : PySem.W.Frag} {P : Prog} {T : Adr} {ρ ρ1 : List Addr} {H H1 : Hp} {S S1 : Sto} {X : Cx} {k : Nat} {N : List Str} {gb dfm : Bool} {sc : Scope} {e ea eb ec tg iter : Expr} {es : List Expr} {pos p2 p3 apos q0 tpos : Pos} {m ma mb mc : MW} {st : Stmt} {ss ss' : List Stmt} {b b' m1 m2 : MS} {D : Ends} {σ : L2.St} {env : Env}
theorem _root_.L2.PSs.castS {m m' : MS} (h : PSs X ss (tS P T K m)) (he : ∀ env S, m' env S = m env S) : PSs X ss (tS P T K m') := by
  have : m' = m := by funext env S; exact he env S
  rw [this]; exact h
theorem PostS.bindF {r : R Fl} {f : Fl → Sto → R Fl} {D D' : Ends} (q : PostS P T K ρ H (r.bind f) D)
    (hn : ∀ e S1, r = .ok (.nx e) S1 → PostS P T K ρ H (f (.nx e) S1) D → ∀ ρ' H' σ', Ext ρ H ρ' H' → SR P T K ρ' H' S1 → ER P T K ρ' H' e σ' → D'.nx σ' H')
    (hr : ∀ w S1, r = .ok (.ret w) S1 → PostS P T K ρ H (f (.ret w) S1) D → ∀ ρ' H' v, Ext ρ H ρ' H' → SR P T K ρ' H' S1 → VR P T K ρ' H' w v → D'.rt v H')
    (hb : ∀ e S1, r = .ok (.bk e) S1 → PostS P T K ρ H (f (.bk e) S1) D → ∀ ρ' H' σ', Ext ρ H ρ' H' → SR P T K ρ' H' S1 → ER P T K ρ' H' e σ' → D'.bk σ' H')
    (hc : ∀ e S1, r = .ok (.ct e) S1 → PostS P T K ρ H (f (.ct e) S1) D → ∀ ρ' H' σ', Ext ρ H ρ' H' → SR P T K ρ' H' S1 → ER P T K ρ' H' e σ' → D'.ct σ' H') : PostS P T K ρ H r D' := by
  cases r with
  | exc _ _ _ => exact False.elim q
  | bad => exact False.elim q
  | ok fl S1 =>
    cases fl with
    | nx e => exact hn e S1 rfl q
    | ret w => exact hr w S1 rfl q
    | bk e => exact hb e S1 rfl q
    | ct e => exact hc e S1 rfl q
/-! ### blocks -/
theorem s_nop : PSs X [] (tS P T X.K fun env S => .ok (.nx env) S) := by
  refine ⟨fun pins s σ H D I q => ?_⟩
  obtain ⟨ρ, env, S, er, sr, q⟩ := q
  exact pss_nil.run pins s σ H D I (q ρ H σ Ext.refl sr er)
abbrev seqMS (m1 m2 : MS) : MS := fun env S => (m1 env S).bind fun fl S1 => match fl with
    | .nx e => m2 e S1
    | fl => .ok fl S1
theorem s_seq (h1 : PS X st (tS P T X.K m1)) (h2 : PSs X ss (tS P T X.K m2)) : PSs X (st :: ss) (tS P T X.K (seqMS m1 m2)) := by
  refine ⟨fun pins s σ H D I q => ?_⟩
  obtain ⟨ρ, env, S, er, sr, q⟩ := q
  refine (pss_cons h1 h2).run pins s σ H D I ⟨ρ, env, S, er, sr, PostS.bindF (D' := { D with nx := tS P T X.K m2 D }) q (fun e S1 _ q1 ρ' H' σ' x s er' => ?_) (fun w S1 _ q1 => q1) (fun e S1 _ q1 => q1) (fun e S1 _ q1 => q1)⟩
  exact ⟨ρ', e, S1, er', s, q1.re x⟩
abbrev ifM (mc : MW) (b b' : MS) : MS := fun env S => (mc env S).bind fun x S1 => match x with | .bl true => b env S1 | .bl false => b' env S1 | _ => .bad
theorem boolS {r : R W} {f : W → Sto → R Fl} (nb : ∀ w S1, (∀ b, w ≠ .bl b) → f w S1 = .bad) (q : PostS P T K ρ H (r.bind f) D) {Q : Bool → Hp → Prop} (h : ∀ b S1 ρ1 H1, Ext ρ H ρ1 H1 → SR P T K ρ1 H1 S1 → PostS P T K ρ1 H1 (f (.bl b) S1) D → Q b H1) : PostT P T K ρ H r Q := by
  cases r with
  | ok w S1 =>
    simp only [R.bind] at q
    cases w with
    | bl b => exact fun ρ1 H1 x1 s1 => h b S1 ρ1 H1 x1 s1 (q.re x1)
    | _ =>
      rw [nb _ _ (by intro b z; cases z)] at q
      exact False.elim q
  | exc _ _ _ => exact False.elim q
  | bad => exact False.elim q
theorem s_if (hc : PT X ec (tT P T X.K mc)) (h1 : PSs X ss (tS P T X.K b)) (h2 : PSs X ss' (tS P T X.K b')) : PS X (.If ec ss ss' pos) (tS P T X.K (ifM mc b b')) := by
  refine ⟨fun pins s σ H D I q => ?_⟩
  obtain ⟨ρ, env, S, er, sr, q⟩ := q
  refine (ps_if hc h1 h2).run pins s σ H D I ⟨ρ, env, S, er, sr, boolS (fun w S1 h => ?_) q fun b S1 ρ1 H1 x1 s1 q1 => ?_⟩
  · cases w <;> first | rfl | exact absurd rfl (h _)
  · cases b with
    | true => rw [if_pos rfl]; exact ⟨ρ1, env, S1, er.mono x1, s1, q1⟩
    | false => rw [if_neg (by decide)]; exact ⟨ρ1, env, S1, er.mono x1, s1, q1⟩
/-! ### loops -/
theorem s_wh (O : XOk P T k gb N dfm sc X) (hc : PT X ec (tT P T X.K mc)) (h1 : PSs X ss (tS P T X.K b)) : PS X (.While ec ss [] pos) (tS P T X.K (whR mc b)) := by
  refine ⟨fun pins s σ H D I q => ?_⟩
  have hp : PassesOwn (model X.prog X.w) X.A X.env X.xe := by rw [O.xe]; exact PassesOwn.never
  refine (ps_while hp hc h1).run pins s σ H D I ⟨fun n σ H => tS P T X.K (whF mc b n) D σ H, ?_, ?_⟩
  · obtain ⟨ρ, env, S, er, sr, q⟩ := q
    unfold whR at q
    split at q
    · exact ⟨_, ρ, env, S, er, sr, q⟩
    · exact False.elim q
  · rintro n σ1 H1 ⟨ρ, env, S, er, sr, q⟩
    cases n with
    | zero => exact False.elim q
    | succ n =>
      refine ⟨ρ, env, S, er, sr, boolS (fun w S1 h => ?_) (f := fun w S1 => match w with
        | .bl true => (b env S1).bind fun fl S2 => match fl with
          | .nx e => whF mc b n e S2
          | .ct e => whF mc b n e S2
          | .bk e => .ok (.nx e) S2
          | .ret w => .ok (.ret w) S2
        | .bl false => .ok (.nx env) S1
        | _ => .bad) q fun bb S1 ρ1 H1 x1 s1 q1 => ?_⟩
      · cases w <;> first | rfl | exact absurd rfl (h _)
      · cases bb with
        | false => rw [if_neg (by decide)]; exact q1 ρ1 H1 σ1 Ext.refl s1 (er.mono x1)
        | true =>
          rw [if_pos rfl]
          refine ⟨fun σ' H' => tS P T X.K (whF mc b n) D σ' H', fun σ' H' z => ⟨n, Nat.lt_succ_self _, z⟩, ρ1, env, S1, er.mono x1, s1, ?_⟩
          refine PostS.bindF q1 (fun e S2 _ q2 ρ' H' σ' x s er' => ?_) (fun w S2 _ q2 => q2) (fun e S2 _ q2 => q2) (fun e S2 _ q2 ρ' H' σ' x s er' => ?_)
          · exact ⟨ρ', e, S2, er', s, q2.re x⟩
          · exact ⟨ρ', e, S2, er', s, q2.re x⟩
theorem forL_nil {g : List (Nat × List W)} {f : W → Env → Sto → R Fl} (q : PostS P T K ρ H (forL g f [] env S) D) : gOk S g ∧ PostS P T K ρ H (.ok (.nx env) S) D := by
  unfold forL at q
  split at q
  · rename_i h; exact ⟨h, q⟩
  · exact False.elim q
theorem forL_cons {g : List (Nat × List W)} {f : W → Env → Sto → R Fl} {x : W} {xs : List W} (q : PostS P T K ρ H (forL g f (x :: xs) env S) D) : gOk S g ∧
    PostS P T K ρ H ((f x env S).bind fun fl S1 => match fl with
      | .nx e => forL g f xs e S1
      | .ct e => forL g f xs e S1
      | .bk e => .ok (.nx e) S1
      | .ret w => .ok (.ret w) S1) D := by
  unfold forL at q
  split at q
  · rename_i h; exact ⟨h, q⟩
  · exact False.elim q
abbrev forF (t : CT) (b : MS) : W → Env → Sto → R Fl := fun x env' S2 => match asgT t x env' with | none => .bad | some env2 => b env2 S2
noncomputable abbrev forM (t : CT) (mi : Env → Sto → R Items) (b : MS) : MS := fun env S => (mi env S).bind fun p S1 => forL p.2 (forF t b) p.1 env S1
theorem s_for (O : XOk P T k gb N dfm sc X) {t : CT} {mi : Env → Sto → R Items} (ht : chkT N dfm sc t tg = true) (hi : PI X tg iter (tI P T X.K mi)) (hs : ∀ x, foldedSetIterable iter X.env x = pure x) (h1 : PSs X ss (tS P T X.K b)) :
    PS X (.For tg iter ss [] pos) (tS P T X.K (forM t mi b)) := by
  have hp : PassesOwn (model X.prog X.w) X.A X.env X.xe := by rw [O.xe]; exact PassesOwn.never
  obtain ⟨g1, g2⟩ := s_tgt O ht
  refine ⟨fun pins s σ H D I q => ?_⟩
  obtain ⟨ρ, env, S, er, sr, q⟩ := q
  refine (ps_for hp O.calm hi g1 h1 hs).run pins s σ H D I ⟨ρ, env, S, er, sr, ?_⟩
  unfold forM at q
  cases cm : mi env S with
  | exc _ _ _ => rw [cm] at q; exact False.elim q
  | bad => rw [cm] at q; exact False.elim q
  | ok p S1 =>
    rw [cm] at q
    simp only [R.bind] at q
    intro ρ1 H1 J x1 s1 wk
    refine ⟨fun i m σ H => m = p.1.length - i ∧ i ≤ p.1.length ∧ ∃ ρ2 env2 S2, Ext ρ1 H1 ρ2 H ∧ ER P T X.K ρ2 H env2 σ ∧ SR P T X.K ρ2 H S2 ∧ PostS P T X.K ρ2 H (forL p.2 (forF t b) (p.1.drop i) env2 S2) D,
      ⟨p.1.length, rfl, Nat.zero_le _, ρ1, env, S1, Ext.refl, er.mono x1, s1, by rw [List.drop_zero]; exact q.re x1⟩, ?_⟩
    rintro i m σ2 H2 ⟨rfl, hi, ρ2, env2, S2, x2, er2, s2, q2⟩
    by_cases hlt : i < p.1.length
    · obtain ⟨w0, hw0⟩ := lt_get hlt
      rw [drop_at hw0] at q2
      obtain ⟨gk, q3⟩ := forL_cons q2
      refine .inr ⟨wk.goes x2 s2 gk hlt, fun σ H => ∃ ρ2 env2 S2, Ext ρ1 H1 ρ2 H ∧ ER P T X.K ρ2 H env2 σ ∧ SR P T X.K ρ2 H S2 ∧ PostS P T X.K ρ2 H (forL p.2 (forF t b) (p.1.drop (i + 1)) env2 S2) D,
        fun σ' H' z => ⟨p.1.length - (i + 1), by omega, rfl, by omega, z⟩, fun x H3 y => ?_⟩
      obtain ⟨w, hw, x3, s3, rx⟩ := wk.yields x2 s2 gk hlt y
      rw [hw0] at hw; cases hw
      have q4 := q3.re x3
      cases ca : asgT t w0 env2 with
      | none => simp only [forF, ca] at q4; exact False.elim q4
      | some env3 =>
        simp only [forF, ca] at q4
        refine g2 rx (er2.mono x3) ca _ fun σ4 er4 _ => ⟨ρ2, env3, S2, er4, s3, ?_⟩
        refine PostS.bindF q4 (fun e S5 _ q5 ρ' H' σ' x s er' => ?_) (fun w S5 _ q5 => q5) (fun e S5 _ q5 => q5) (fun e S5 _ q5 ρ' H' σ' x s er' => ?_)
        · exact ⟨ρ', e, S5, (x2.trans x3).trans x, er', s, q5.re x⟩
        · exact ⟨ρ', e, S5, (x2.trans x3).trans x, er', s, q5.re x⟩
    · have ei : i = p.1.length := by omega
      subst ei
      rw [List.drop_length] at q2
      obtain ⟨gk, q3⟩ := forL_nil q2
      exact .inl ⟨wk.stops x2 s2 gk, q3 ρ2 H2 σ2 Ext.refl s2 er2⟩
end
/-- name = [..] -/
theorem s_setLc {P : Prog} {T : Adr} {N : List Str} {k : Nat} {gb dfm : Bool} {sc : Scope} {X : Cx} {i : Nat} {x : Str} {px pos spos : Pos} {pu : Bool} {own : List Nat} {t : CT} {it : CI} {tst : CEs} {ce : CE} {elt tg iter : Expr} {ifs : List Expr} {scope : Scope} (O : XOk P T k gb N dfm sc X)
    (hx : N[i]? = some x) (hc : asgC sc (.Name x px) (.ListComp elt [⟨tg, iter, ifs, 0⟩] scope pos) = true) (h : chkE P N sc (.comp pu own t it tst ce) (.ListComp elt [⟨tg, iter, ifs, 0⟩] scope pos) = true) :
    PS X (.Assign [.Name x px] (.ListComp elt [⟨tg, iter, ifs, 0⟩] scope pos) spos) (tS P T X.K (asgM (.nm i) (evE P (clG P k gb) (.comp pu own t it tst ce)))) := by
  simp only [chkE, Bool.and_eq_true, decide_eq_true_eq] at h
  obtain ⟨⟨⟨⟨⟨⟨h1, h2⟩, h3⟩, h4⟩, h5⟩, h6⟩, h7⟩ := h
  obtain ⟨hi, hs⟩ := snd_I it O h2
  simp only [asgC, Bool.and_eq_true, Bool.not_eq_true'] at hc
  obtain ⟨⟨c1, c2⟩, c3⟩ := hc
  have hl : X.env.scope.names.lookup x = some .local := by
    rw [O.sc]
    split at c1 <;> first | assumption | cases c1
  refine ⟨fun pins s σ H D I q => ?_⟩
  have hp := ps_setLc (X := X) (pos := pos) (spos := spos) (py := px) (g := tgG X.K t) (te := tE P T X.K (evE P (clG P k gb) ce)) (tt := tB P T X.K (evAll P (clG P k gb) tst)) O.calm (by rw [O.hN]; exact O.nd) (i := i) (y := x) (by rw [O.hN]; exact hx) hl
    (sw_true (elt := elt) (gs := [⟨tg, iter, ifs, 0⟩]) I.ok.kind hl c2 c3) hi (by rw [O.hN, O.sc]; exact blkOk_by h1)
    (fun s H C cl fp => (s_tgt (O.blk s H scope C cl fp) h3).1) (fun s H C cl fp => snd_ts tst (O.blk s H scope C cl fp) h4 h5) (fun s H C cl fp => (snd_E ce (O.blk s H scope C cl fp) h6).1) hs
  rw [own_snd] at hp
  refine hp.run pins s σ H D I (comp_rd (pu := pu) (s_tgt (O.blk s H scope 0 [] []) h3).2 h7 ?_)
  have q1 := asg_rd (g := gName i) (t := .nm i) (fun r er ea Q q => by
    simp only [asgT, Option.some.injEq] at ea
    subst ea
    exact q _ (er.set r) fun own ho => wipe_set (by simpa [inT] using ho)) q
  obtain ⟨ρ, env, S, er, sr, q2⟩ := q1
  refine ⟨ρ, env, S, er, sr, ?_⟩
  rw [evE] at q2
  exact q2
theorem lc_inv {P : Prog} {N : List Str} {sc : Scope} {e : CE} {elt : Expr} {gs : List Comprehension} {scope : Scope} {pos : Pos} (h : chkE P N sc e (.ListComp elt gs scope pos) = true) :
    ∃ pu own t it tst ce tg iter ifs, e = .comp pu own t it tst ce ∧ gs = [⟨tg, iter, ifs, 0⟩] := by
  cases e with
  | comp pu own t it tst ce =>
    unfold chkE at h
    split at h
    · rename_i heq
      cases heq
      exact ⟨pu, own, t, it, tst, ce, _, _, _, rfl, rfl⟩
    · cases h
  | lst l => cases l <;> (unfold chkE chkL at h; cases h)
  | alloc l => cases l <;> (unfold chkE chkL at h; cases h)
  | non => unfold chkE isNone at h; cases h
  | op o es => unfold chkE at h; cases o <;> (unfold xShape at h; cases h)
  | _ => unfold chkE at h; cases h
mutual
theorem snd_S {P : Prog} {T : Adr} {N : List Str} : ∀ (cs : CS) {k : Nat} {gb dfm : Bool} {sc : Scope} {X : Cx} {st : Stmt}, XOk P T k gb N dfm sc X → chkS P N dfm sc cs st = true → PS X st (tS P T X.K (exS P (clG P k gb) cs))
  | .expr e, k, gb, dfm, sc, X, st, O, h => by
    unfold chkS at h
    split at h <;> first | (cases h; done) | skip
    simp only [Bool.and_eq_true] at h
    exact (s_expr h.1 (snd_E e O h.2).1).castS fun _ _ => by rw [exS]
  | .asg t e, k, gb, dfm, sc, X, st, O, h => by
    unfold chkS at h
    split at h <;> first | (cases h; done) | skip
    rename_i tg ee pos
    simp only [Bool.and_eq_true] at h
    obtain ⟨⟨h1, h2⟩, h3⟩ := h
    have he := (snd_E e O h3).1
    have hcast : ∀ env S, exS P (clG P k gb) (.asg t e) env S = asgM t (evE P (clG P k gb) e) env S := fun _ _ => by rw [exS] <;> rfl
    have h2' := h2
    unfold asgC at h2'
    split at h2'
    · -- a comprehension
      rename_i y py elt gs scope cpos
      cases t with
      | tp ts => simp [chkT] at h1
      | nm i =>
        simp only [chkT, Bool.and_eq_true, decide_eq_true_eq] at h1
        obtain ⟨pu, own, t, it, tst, ce, tg', iter, ifs, rfl, rfl⟩ := lc_inv h3
        exact (s_setLc O h1.1 h2 h3).castS hcast
    · rename_i y py hne
      exact (s_asgN O h1 h2' he).castS hcast
    · rename_i ts kk tp
      simp only [Bool.and_eq_true] at h2'
      exact (s_asg O h1 h2'.1 (st_no h2'.2 _ _ _ _) he).castS hcast
    · cases h2'
  | .fld a f e, k, gb, dfm, sc, X, st, O, h => by
    unfold chkS at h
    split at h <;> first | (cases h; done) | skip
    simp only [Bool.and_eq_true, decide_eq_true_eq] at h
    obtain ⟨⟨h1, h2⟩, h3⟩ := h
    subst h1
    exact (s_fldS O (snd_E a O h2).1 (snd_E e O h3).1).castS fun _ _ => by rw [exS] <;> rfl
  | .sub a i e, k, gb, dfm, sc, X, st, O, h => by
    unfold chkS at h
    split at h <;> first | (cases h; done) | skip
    simp only [Bool.and_eq_true] at h
    obtain ⟨⟨h1, h2⟩, h3⟩ := h
    have hi := snd_E i O h2
    exact (s_sub O hi.2.2 (snd_E a O h1).1 hi.1 (snd_E e O h3).1).castS fun _ _ => by rw [exS] <;> rfl
  | .aug i op e, k, gb, dfm, sc, X, st, O, h => by
    unfold chkS at h
    split at h <;> first | (cases h; done) | skip
    simp only [Bool.and_eq_true, decide_eq_true_eq] at h
    obtain ⟨⟨⟨h1, h2⟩, h3⟩, h4⟩ := h
    exact (s_aug O h1 h2 h3 (snd_E e O h4).1).castS fun _ _ => by rw [exS] <;> rfl
  | .augf a f op e, k, gb, dfm, sc, X, st, O, h => by
    unfold chkS at h
    split at h <;> first | (cases h; done) | skip
    simp only [Bool.and_eq_true, decide_eq_true_eq] at h
    obtain ⟨⟨⟨h1, h2⟩, h3⟩, h4⟩ := h
    subst h2
    split at h1 <;> first | (cases h1; done) | skip
    exact (s_augf O rfl (snd_E a O h3).1 (snd_E e O h4).1).castS fun _ _ => by rw [exS] <;> rfl
  | .if_ c t e, k, gb, dfm, sc, X, st, O, h => by
    unfold chkS at h
    split at h <;> first | (cases h; done) | skip
    simp only [Bool.and_eq_true] at h
    exact (s_if (snd_E c O h.1.1).2.1 (snd_Ss t O h.1.2) (snd_Ss e O h.2)).castS fun _ _ => by rw [exS] <;> rfl
  | .wh c b, k, gb, dfm, sc, X, st, O, h => by
    unfold chkS at h
    split at h <;> first | (cases h; done) | skip
    simp only [Bool.and_eq_true] at h
    exact (s_wh O (snd_E c O h.1).2.1 (snd_Ss b O h.2)).castS fun _ _ => by rw [exS]
  | .for_ t it b, k, gb, dfm, sc, X, st, O, h => by
    unfold chkS at h
    split at h <;> first | (cases h; done) | skip
    simp only [Bool.and_eq_true] at h
    obtain ⟨⟨h1, h2⟩, h3⟩ := h
    obtain ⟨i1, i2⟩ := snd_I it O h2
    exact (s_for O h1 i1 i2 (snd_Ss b O h3)).castS fun _ _ => by rw [exS] <;> rfl
  | .ret e, k, gb, dfm, sc, X, st, O, h => by
    unfold chkS at h
    split at h <;> first | (cases h; done) | skip
    exact (s_ret (snd_E e O h).1).castS fun _ _ => by rw [exS]
  | .retN, k, gb, dfm, sc, X, st, O, h => by
    unfold chkS at h
    split at h <;> first | (cases h; done) | skip
    refine PS.castS ⟨fun pins s σ H D I q => ?_⟩ fun _ _ => by rw [exS]
    obtain ⟨ρ, env, S, er, sr, q⟩ := q
    exact ps_retN.run pins s σ H D I (q ρ H .non Ext.refl sr (by simp [VR]))
  | .pass, k, gb, dfm, sc, X, st, O, h => by
    unfold chkS at h
    split at h <;> first | (cases h; done) | skip
    · refine PS.castS ⟨fun pins s σ H D I q => ?_⟩ fun _ _ => by rw [exS]
      obtain ⟨ρ, env, S, er, sr, q⟩ := q
      exact ps_pass.run pins s σ H D I (q ρ H σ Ext.refl sr er)
    · refine PS.castS ⟨fun pins s σ H D I q => ?_⟩ fun _ _ => by rw [exS]
      obtain ⟨ρ, env, S, er, sr, q⟩ := q
      exact ps_doc.run pins s σ H D I (q ρ H σ Ext.refl sr er)
  | .brk, k, gb, dfm, sc, X, st, O, h => by
    unfold chkS at h
    split at h <;> first | (cases h; done) | skip
    refine PS.castS ⟨fun pins s σ H D I q => ?_⟩ fun _ _ => by rw [exS]
    obtain ⟨ρ, env, S, er, sr, q⟩ := q
    exact ps_break.run pins s σ H D I (q ρ H σ Ext.refl sr er)
  | .cont, k, gb, dfm, sc, X, st, O, h => by
    unfold chkS at h
    split at h <;> first | (cases h; done) | skip
    refine PS.castS ⟨fun pins s σ H D I q => ?_⟩ fun _ _ => by rw [exS]
    obtain ⟨ρ, env, S, er, sr, q⟩ := q
    exact ps_continue.run pins s σ H D I (q ρ H σ Ext.refl sr er)
  | .nev, k, gb, dfm, sc, X, st, O, h => by
    refine PS.castS (m := fun _ _ => .bad) ⟨fun pins s σ H D I q => ?_⟩ fun _ _ => by rw [exS]
    obtain ⟨ρ, env, S, er, sr, q⟩ := q
    exact False.elim q
theorem snd_Ss {P : Prog} {T : Adr} {N : List Str} : ∀ (cs : CSs) {k : Nat} {gb dfm : Bool} {sc : Scope} {X : Cx} {ss : List Stmt}, XOk P T k gb N dfm sc X → chkSs P N dfm sc cs ss = true → PSs X ss (tS P T X.K (exSs P (clG P k gb) cs))
  | .nil, k, gb, dfm, sc, X, ss, O, h => by
    unfold chkSs at h
    split at h <;> first | (cases h; done) | skip
    exact s_nop.castS fun _ _ => by rw [exSs]
  | .cons c cs, k, gb, dfm, sc, X, ss, O, h => by
    unfold chkSs at h
    split at h <;> first | (cases h; done) | skip
    simp only [Bool.and_eq_true] at h
    exact (s_seq (snd_S c O h.1) (snd_Ss cs O h.2)).castS fun _ _ => by rw [exSs] <;> rfl
end
end Eng

set_option Elab.async false
set_option linter.all false
set_option maxHeartbeats 4000000
/-! E19: the functions are right. -/
namespace Eng
open PySem L2
/-- the text of a function, as the top has left it -/
def CodeOk (P : Prog) (T : Adr) (K : PySem.W.Frag) (f : Nat) (d : FDef) : Prop :=
  ∃ (x qual : Str) (params : Arguments) (body : List Stmt) (scope : Scope) (N : List Str) (oc : Value) (od : Option Addr) (dV kV doc pm : Value) (an : Option Addr) (cdv ct : Value) (osl : Array (Option Value)),
    T.fd f = PySem.W.fnOf x qual params body scope dV kV doc pm an cdv ct ∧ K.lookup (T.F f) = some ⟨oc, od, .func (T.fd f), osl⟩ ∧ PySem.W.codeIn K cdv qual = true ∧
    FnScope N (T.ps f) scope ∧ chkSs P N true scope d.body body = true ∧ N.length = d.ns
section
variable {P : Prog} {T : Adr} {K : PySem.W.Frag} {mg : Str → Option Value} {Pg : Program} {w : World} {base : Heap}
theorem spR_len (F : Facts P T K mg) {k f : Nat} : ∀ vs H Q E, spR P T K k f vs H Q E → vs.length = (T.ps f).length := fun _ _ _ _ h => h.1
theorem fn_dead {k f : Nat} (h : ∀ ws S, run P k f ws S = .bad) : FnOk Pg w K mg base CX0 k (T.F f) (T.fd f) (T.ps f) (spR P T K k f) := by
  have no : ∀ vs H Q E, ¬ spR P T K k f vs H Q E := fun vs H Q E ⟨_, ρ, S, ws, _, _, q⟩ => by
    rw [h] at q; exact q
  exact ⟨fun vs H Q E z => absurd z (no _ _ _ _), fun A outer s H args us vs Q E hr he hb hv hs => absurd hs (no _ _ _ _)⟩
theorem er_start {ρ : List Addr} {H : Hp} {ws : List W} {vs : List V} {N : List Str} {np ns : Nat} (r : VRs P T K ρ H ws vs) (h1 : ws.length = np) (h2 : N.length = ns) :
    ER P T K ρ H (ws.map some ++ List.replicate (ns - np) none) (L2.start N vs) := by
  have hl := r.len
  unfold L2.start
  refine ⟨by simp; omega, fun i w e => ?_⟩
  by_cases hi : i < ws.length
  · rw [List.getElem?_append_left (by simpa using hi), List.getElem?_map] at e
    cases c : ws[i]? with
    | none => rw [c] at e; cases e
    | some w' =>
      rw [c] at e
      simp only [Option.map_some, Option.some.injEq] at e
      subst e
      obtain ⟨v, q1, q2⟩ := r.get c
      exact ⟨v, by rw [List.getElem?_append_left (by simp; omega), List.getElem?_map, q1]; rfl, q2⟩
  · rw [List.getElem?_append_right (by simp; omega), List.getElem?_replicate] at e
    split at e <;> cases e
theorem cl_eq (k : Nat) : (⟨run P k, match k with | 0 => fun _ _ _ => .bad | j + 1 => run P j, false⟩ : Cl) = clOf P k := by cases k <;> rfl
theorem run_eq {k f : Nat} {d : FDef} (hd : P.fn f = some d) {ws : List W} {S : Sto} : run P (k + 1) f ws S = if ws.length = d.np then
    (exSs P (clOf P k) d.body (ws.map some ++ List.replicate (d.ns - d.np) none) S).bind fun fl S1 => match fl with
      | .ret w => finF d.pure S w S1
      | .nx _ => finF d.pure S .non S1
      | _ => .bad
    else .bad := by
  conv => lhs; unfold run
  rw [hd]
  cases k <;> rfl
/-- the reading of a body -/
theorem body_rd {K : PySem.W.Frag} {cl : Cl} {d : FDef} {N : List Str} {ρ : List Addr} {H : Hp} {St : Sto} {ws : List W} {vs : List V} {Q : VK} (sr : SR P T K ρ H St) (r : VRs P T K ρ H ws vs) (e5 : N.length = d.ns)
    (q : Post P T K ρ H (if ws.length = d.np then
      (exSs P cl d.body (ws.map some ++ List.replicate (d.ns - d.np) none) St).bind fun fl S1 => match fl with
        | .ret w => finF d.pure St w S1
        | .nx _ => finF d.pure St .non S1
        | _ => .bad
      else .bad) fun _ _ _ H' v => Q v H') :
    tS P T K (exSs P cl d.body) { nx := fun _ H' => Q .non H', rt := Q } (L2.start N vs) H := by
  refine ⟨ρ, ws.map some ++ List.replicate (d.ns - d.np) none, St, ?_⟩
  split at q
  · rename_i hw
    refine ⟨er_start r hw e5, sr, ?_⟩
    cases c : exSs P cl d.body (ws.map some ++ List.replicate (d.ns - d.np) none) St with
    | exc _ _ _ => rw [c] at q; exact False.elim q
    | bad => rw [c] at q; exact False.elim q
    | ok fl S1 =>
      rw [c] at q
      simp only [R.bind] at q
      have fin : ∀ {w1 : W}, Post P T K ρ H (finF d.pure St w1 S1) (fun _ _ _ H' v => Q v H') → ∀ ρ' H' v, Ext ρ H ρ' H' → SR P T K ρ' H' S1 → VR P T K ρ' H' w1 v → Q v H' := fun {w1} q ρ' H' v x s rv => by
        unfold finF at q
        cases hp : d.pure with
        | false => rw [hp] at q; exact q ρ' H' v x s rv
        | true =>
          rw [hp] at q
          simp only [if_true] at q
          cases ce : exitR St w1 S1 with
          | exc _ _ _ => rw [ce] at q; exact False.elim q
          | bad => rw [ce] at q; exact False.elim q
          | ok w' S' =>
            rw [ce] at q
            obtain ⟨z1, z2, z3⟩ := exit_ok sr x s rv ce
            exact q ρ H' v z1 z2 z3
      cases fl with
      | ret w1 => exact fin q
      | nx e => exact fun ρ' H' σ' x s _ => fin q ρ' H' .non x s (by simp [VR])
      | bk _ => exact False.elim q
      | ct _ => exact False.elim q
  · exact False.elim q
theorem fn_step (F : Facts P T K mg) {k f : Nat} {d : FDef} (hd : P.fn f = some d) (c : CodeOk P T K f d)
    (i1 : ∀ f, FnOk Pg w K mg base CX0 k (T.F f) (T.fd f) (T.ps f) (spR P T K k f)) (i2 : ∀ j, k = j + 1 → ∀ f, FnOk Pg w K mg base CX0 j (T.F f) (T.fd f) (T.ps f) (spR P T K j f)) :
    FnOk Pg w K mg base CX0 (k + 1) (T.F f) (T.fd f) (T.ps f) (spR P T K (k + 1) f) := by
  obtain ⟨x, qual, params, body, scope, N, oc, od, dV, kV, doc, pm, an, cdv, ct, osl, e1, e2, e3, S, e4, e5⟩ := c
  rw [e1] at e2 ⊢
  refine fn_of e2 e3 S (spR_len F) fun A outer s H vs Q E hr hsp => ?_
  obtain ⟨hl, ρ, St, ws, sr, r, q⟩ := hsp
  have O : XOk P T k false N true scope (cxOf CX0 Pg w K mg base N qual scope (T.F f) cdv A outer s H E).nox := ⟨F, S.nd, rfl, rfl, rfl, hr, (fun h => nomatch h), rfl, fun _ _ => rfl, i1, i2⟩
  refine ⟨_, (snd_Ss d.body O e4).nox, ?_⟩
  rw [run_eq hd] at q
  exact body_rd sr r e5 q
/-- the law's own function, run from the top -/
noncomputable def runTop (P : Prog) (k f : Nat) (ws : List W) (S : Sto) : R W := match P.fn f with
  | none => .bad
  | some d => if ws.length = d.np then
      (exSs P (clG P k true) d.body (ws.map some ++ List.replicate (d.ns - d.np) none) S).bind fun fl S1 => match fl with
        | .ret w => finF d.pure S w S1
        | .nx _ => finF d.pure S .non S1
        | _ => .bad
      else .bad
theorem fns (F : Facts P T K mg) (c : ∀ f d, P.fn f = some d → CodeOk P T K f d) : ∀ k : Nat, (∀ f, FnOk Pg w K mg base CX0 k (T.F f) (T.fd f) (T.ps f) (spR P T K k f)) ∧ ∀ j, k = j + 1 → ∀ f, FnOk Pg w K mg base CX0 j (T.F f) (T.fd f) (T.ps f) (spR P T K j f)
  | 0 => ⟨fun f => fn_dead fun ws S => rfl, fun j h => by cases h⟩
  | k + 1 => by
    obtain ⟨i1, i2⟩ := fns F c k
    refine ⟨fun f => ?_, fun j h => by cases h; exact i1⟩
    cases hd : P.fn f with
    | none => exact fn_dead fun ws S => by unfold run; rw [hd]
    | some d => exact fn_step F hd (c f d hd) i1 i2
end
end Eng

set_option Elab.async false
set_option linter.all false
set_option maxHeartbeats 4000000
/-! E20: the end of a law. -/
namespace Eng
open PySem L2
theorem kit_self {K : PySem.W.Frag} {x : String} : PySem.W.kitOne K (.type x) (.type x) = some true := by
  unfold PySem.W.kitOne
  rw [if_pos (by simp)]
/-- what is given to a law -/
def spLaw (K : PySem.W.Frag) : Sp := fun vs H Q _ => ∃ (a : Addr) (ns : List Int), vs = [.ref a] ∧ ns.length ≤ 63 ∧ Only H ∧ SqL K H a (ns.map V.int) ∧ ∀ H', Q (.bl true) H'
theorem vrs_ints {P : Prog} {T : Adr} {K : PySem.W.Frag} {ρ : List Addr} {H : Hp} : ∀ ns : List Int, VRs P T K ρ H (ns.map W.int) (ns.map V.int)
  | [] => VRs.nil
  | n :: ns => VRs.cons (by simp [VR]) (vrs_ints ns)
theorem law_sp {P : Prog} {T : Adr} {K : PySem.W.Frag} {k f : Nat} (hps : (T.ps f).length = 1) (hrun : ∀ ns : List Int, ns.length ≤ 63 → ∃ S', run P k f [.fro (ns.map W.int)] [] = .ok (.bl true) S') :
    ∀ vs H Q E, spLaw K vs H Q E → spR P T K k f vs H Q E := by
  rintro vs H Q E ⟨a, ns, rfl, hl, ho, hs, q⟩
  obtain ⟨S', e⟩ := hrun ns hl
  refine ⟨by rw [hps]; rfl, [], [], [.fro (ns.map W.int)], ⟨rfl, List.nodup_nil, fun i a o h => by simp at h⟩, VRs.cons ?_ VRs.nil, ?_⟩
  · simp only [VR]
    have hz : (ns.map V.int).length ≤ sizeLine := by rw [List.length_map]; exact Nat.le_trans hl (by decide)
    refine ⟨a, ns.map V.int, rfl, ?_, hz, vrs_ints ns⟩
    rcases hs with (h | ⟨o, h⟩) | h
    · rcases ho a with z | ⟨o, xs, z⟩
      · rw [h] at z; cases z
      · rw [h] at z; cases z
    · exact .inl ⟨⟨o, h⟩, by simp⟩
    · exact .inr h
  · rw [e]
    intro ρ' H' v x s r
    rw [r.bl_inv]
    exact q H'
theorem end_mk {P : Prog} {Pg : Program} {w : World} {T : Adr} {K : PySem.W.Frag} {mg : Str → Option Value} {fa : Addr} {k f : Nat} {x : Str} (F : Facts P T K mg) (C : ∀ f d, P.fn f = some d → CodeOk P T K f d) (hF : T.F f = fa) (hps : T.ps f = [x])
    (hrun : ∀ ns : List Int, ns.length ≤ 63 → ∃ S', run P k f [.fro (ns.map W.int)] [] = .ok (.bl true) S') (hb : ∀ (s : Shared) (v : Value), BindsTo s (T.fd f) ⟨[v], []⟩ [(x, v)]) :
    ∃ fd : FuncData, (∀ (s : Shared) (v : Value), BindsTo s fd ⟨[v], []⟩ [(x, v)]) ∧ ∀ base : Heap, K.In base → base.Ns mainGlobals mg → FnOk Pg w K mg base CX0 k fa fd [x] (spLaw K) :=
  ⟨T.fd f, hb, fun base _ _ => by
    have := ((fns (Pg := Pg) (w := w) (base := base) F C k).1 f).imp (law_sp (by rw [hps]; rfl) hrun)
    rw [hF, hps] at this
    exact this⟩
theorem law_walk {l : PySem.W.OpenLaw} {q : Program} {loose : List Str} {XP : (Str → Option Value) → Heap → Prop} {YP : World → Heap → Prop} {d : DefRec} {K : Params → PySem.W.Frag} {k : Nat} {x : Str} (hn : l.most = some 63) (hdf : d.params.defaults = []) (hk : k ≤ 200)
    (hY : ∀ (w : World) (h : Heap), YP w h → (K w.params).In h)
    (F : ∀ (w : World) (mg : Str → Option Value) (fa : Addr) (h : Heap), (K w.params).In h → h.Ns mainGlobals mg → mg d.name = some (.ref fa) →
      ∃ fd : FuncData, (∀ (s : Shared) (u : Value), BindsTo s fd ⟨[u], []⟩ [(x, u)]) ∧ ∀ base : Heap, (K w.params).In base → base.Ns mainGlobals mg → FnOk l.prog w (K w.params) mg base CX0 k fa fd [x] (spLaw (K w.params))) :
    PySem.W.WalkO q loose XP YP l.row.toRowW d [] (fun f vs => PySem.call f vs) :=
  L2.walk_of (n := 63) (k := k) (x := x) (CX := fun _ => CX0) (sp := fun w => spLaw (K w.params)) hn (by decide) hdf (Room.mono (k := 200) ⟨rfl, by decide, by decide⟩ hk) hY F (fun _ _ a ns hl ho hS => ⟨a, ns, rfl, hl, ho, hS, fun _ => rfl⟩) fun _ _ _ _ _ z => z
end Eng

set_option Elab.async false
set_option linter.all false
set_option maxHeartbeats 4000000
/-! E20R: the end of a law whose own body asks for repr: no display is under way there. -/
namespace Eng
open PySem L2 PySem.Spec PyProof.Rows
/-- a def's body, from the callers that are given -/
theorem code_at {CX : CXT} {P : Program} {w : World} {K : PySem.W.Frag} {mg : Str → Option Value} {base : Heap} {k : Nat} {f : Addr} {name qual : Str} {ar : Arguments} {bd : List Stmt} {sc : Scope} {dV kV doc pm cdv ct oc : Value} {an od : Option Addr} {osl : Array (Option Value)}
    {N ps : List Str} {A : Around} {outer : List PySem.Env} {s : Shared} {H : Hp} {args : Args} {us : List Value} {vs : List V} {Q : VK} {E : XK}
    (lk : K.lookup f = some ⟨oc, od, .func (PySem.W.fnOf name qual ar bd sc dV kV doc pm an cdv ct), osl⟩) (hc : PySem.W.codeIn K cdv qual = true) (F : FnScope N ps sc) (rm : Room (k + 1) A) (e : Env0 P w K mg base A outer s H)
    (bi : BindsTo s (PySem.W.fnOf name qual ar bd sc dV kV doc pm an cdv ct) args (ps.zip us)) (vu : Vals vs us) (ln : vs.length = ps.length)
    (B : ∃ t, PSs (cxOf CX P w K mg base N qual sc f cdv A outer s H E) bd t ∧ t { nx := fun _ H' => Q .non H', rt := Q } (L2.start N vs) H) :
    codeAny (model P w) A (.call (.ref f) args) (CR CX outer P w H s Q E) s := by
  obtain ⟨t, ht, hq⟩ := B
  have kin : K.In s.heap := e.mod.kin.keeps fun b o z => (e.bs b o z).1
  refine codeAny_call_function rm.depth (kin _ _ lk) rfl F.co F.gen rfl (PySem.W.codeRec_of kin hc) (bi _ _ _ _ (wpAny_newFunctionEnv_cells F.kind (fun y hy => ?_) fun en he s1 x => ?_))
  · exact (F.par y.1 (List.of_mem_zip hy).1).imp id fun q => ⟨q, PySem.W.cellsFrom_some _ _ _ (.inl q)⟩
  · subst he
    refine ⟨(e.mod.nolimit.keeps fun b o z => (e.bs b o z).1).keeps x.toInCall.keep, codeAny_func (wpAny_mono (ht.run [] s1 _ H _ (inv_start F rm.hd e ln vu x) hq) (fun fl s' hs => ?_) fun _ _ z => z)⟩
    cases fl with
    | brk => exact (hs.elim fun _ h => h.elim fun _ h => h.2 : False).elim
    | cont => exact (hs.elim fun _ h => h.elim fun _ h => h.2 : False).elim
    | next =>
      obtain ⟨σ', H', J, q⟩ := hs
      exact ⟨V.non, H', J.os, J.bare, J.base, J.hok, rfl, q⟩
    | ret u =>
      obtain ⟨v, σ', H', J, rv, q⟩ := hs
      exact ⟨v, H', J.os, J.bare, J.base, J.hok, rv, q⟩
end Eng
namespace Eng
open PySem L2 PySem.Spec PyProof.Rows
/-- the script, if it is no object of the module -/
def scrH (K : PySem.W.Frag) (a : Addr) (o : Obj) (xs : List V) : Hp := fun b => if b = a ∧ K.lookup a = none then some (.frz o (.lst xs)) else none
theorem scr_some {K : PySem.W.Frag} {a b : Addr} {o : Obj} {xs : List V} {u : HO} (h : scrH K a o xs b = some u) : b = a ∧ K.lookup a = none ∧ u = .frz o (.lst xs) := by
  unfold scrH at h
  split at h
  · rename_i c; cases h; exact ⟨c.1, c.2, rfl⟩
  · cases h
theorem scr_only {K : PySem.W.Frag} {a : Addr} {o : Obj} {xs : List V} : Only (scrH K a o xs) := fun b => by
  unfold scrH
  split
  · exact .inr ⟨_, _, rfl⟩
  · exact .inl rfl
theorem scr_ne {K : PySem.W.Frag} {a b : Addr} {o : Obj} {xs : List V} (h : b ≠ a ∨ K.lookup a ≠ none) : scrH K a o xs b = none := by
  unfold scrH
  rw [if_neg]
  rintro ⟨h1, h2⟩
  rcases h with h | h
  · exact h h1
  · exact h h2
/-- the state at the call of the law -/
theorem top_env {P : Program} {w : World} {K : PySem.W.Frag} {mg mb : Str → Option Value} {s : Shared} {a : Addr} {vs : List Value} {ns : List Int} (kin : K.In s.heap) (gl : s.heap.Ns mainGlobals mg) (bt : s.heap.Ns builtinsNs mb)
    (bb : ∀ x : Str, x ≠ "__name__" → mb x = bootBuiltins x) (nl : s.heap.NoLimit) (ng : s.gens = #[]) (ga : s.heap.get? a = some { cls := .type "list", data := .seq vs.toArray }) (iv : IntsAre vs ns) (le : ns.length ≤ sizeLine) :
    ∃ (H : Hp) (base : Heap), Only H ∧ SqL K H a (ns.map V.int) ∧ K.In base ∧ base.Ns mainGlobals mg ∧ Env0 P w K mg base callerA [] s H := by
  have vi := vals_ints iv
  have li := iv.length
  have li2 : (ns.map V.int).length ≤ sizeLine := by rw [List.length_map]; exact le
  -- where the script is not, the old heap stands
  have free : ∀ {b : Addr} {o : Obj}, s.heap.get? b = some o → (∀ xs n, o.data ≠ .seq xs n) → scrH K a { cls := .type "list", data := .seq vs.toArray } (ns.map V.int) b = none := fun {b o} e nd => scr_ne (.inl fun z => by
    subst z
    rw [ga] at e
    cases e
    exact nd _ _ rfl)
  have old : ∀ {b : Addr} {o : Obj}, s.heap.get? b = some o → scrH K a { cls := .type "list", data := .seq vs.toArray } (ns.map V.int) b = none → (hidT s.heap (scrH K a { cls := .type "list", data := .seq vs.toArray } (ns.map V.int))).get? b = some o := fun e z => hidT_get e z
  have nsO : ∀ {b : Addr} {m : Str → Option Value}, s.heap.Ns b m → (hidT s.heap (scrH K a { cls := .type "list", data := .seq vs.toArray } (ns.map V.int))).Ns b m := fun {b m} ⟨o, es, ep, e, d, r⟩ =>
    ⟨o, es, ep, old e (free e fun xs n z => by rw [d] at z; cases z), d, r⟩
  have kinO : K.In (hidT s.heap (scrH K a { cls := .type "list", data := .seq vs.toArray } (ns.map V.int))) := fun b o e => old (kin b o e) (by
    by_cases hb : b = a
    · subst hb; exact scr_ne (.inr (by rw [e]; simp))
    · exact scr_ne (.inl hb))
  obtain ⟨mc, n1, n2⟩ := nl
  have md : Mod K mg (hidT s.heap (scrH K a { cls := .type "list", data := .seq vs.toArray } (ns.map V.int))) := ⟨kinO, nsO gl, ⟨mb, nsO bt, bb⟩, mc, nsO n1, n2⟩
  have hok : HOk P w (scrH K a { cls := .type "list", data := .seq vs.toArray } (ns.map V.int)) s.heap := fun b u z => by
    obtain ⟨rfl, _, rfl⟩ := scr_some z
    exact ⟨ga, li2, vs, _, vi, ga⟩
  refine ⟨_, _, scr_only, ?_, kinO, nsO gl, ⟨rfl, md, fun b o z => of_hidT z, Nat.le_of_eq (hidT_size _ _), trivial, fun b z => absurd z (by simp [frs]), hok, .of_eq ng⟩⟩
  cases lk : K.lookup a with
  | none => exact .inl (.inr ⟨_, if_pos ⟨rfl, lk⟩⟩)
  | some o =>
    have e := kin a o lk
    rw [ga] at e
    cases e
    exact .inr ⟨_, vs.toArray, _, lk, rfl, rfl, rfl, by rw [List.size_toArray, li]; exact le, by simpa using vi⟩
/-- what is left behind the call -/
theorem top_end {P : Program} {w : World} {K : PySem.W.Frag} {s s' : Shared} {H : Hp} {r : Result} (ho : Only H) (hk : HOk P w H s.heap) (h : CR CX0 [] P w H s (fun v _ => v = .bl true) (fun _ _ _ => False) r s') :
    r = .ok (.ret (.bool true)) ∧ OldK s.heap s'.heap ∧ s'.os = s.os ∧ AllBare s'.gens := by
  match r, h with
  | .error e, h => exact (show False from h).elim
  | .ok (.ret u), h =>
    obtain ⟨v, H', os, bare, un, hk', ru, rfl⟩ := h
    have hu : u = Value.bool true := ru
    subst hu
    refine ⟨rfl, OldK.of_keep fun b o e => ?_, os, bare⟩
    rcases ho b with z | ⟨ob, xs, z⟩
    · exact un.keep b o e z (by simp [frs]) (by simp)
    · have g1 := (hk b _ z).1
      have g2 := (hk' b _ (un.frzs b ob _ z)).1
      rw [e] at g1
      cases g1
      exact g2
  | .ok .next, h => exact (show False from h).elim
  | .ok .brk, h => exact (show False from h).elim
  | .ok .cont, h => exact (show False from h).elim
/-- the law, run from the top -/
theorem top_run {P : Prog} {T : Adr} {Pg : Program} {w : World} {K : PySem.W.Frag} {mg mb : Str → Option Value} {s : Shared} {a fa : Addr} {vs : List Value} {ns : List Int} {k f : Nat} {x : Str} (F : Facts P T K mg) (C : ∀ f d, P.fn f = some d → CodeOk P T K f d)
    (hF : T.F f = fa) (hps : T.ps f = [x]) (hk : k < 200) (hb : ∀ (s : Shared) (v : Value), BindsTo s (T.fd f) ⟨[v], []⟩ [(x, v)]) (hrun : ∃ S', runTop P k f [.fro (ns.map W.int)] [] = .ok (.bl true) S')
    (kin : K.In s.heap) (gl : s.heap.Ns mainGlobals mg) (bt : s.heap.Ns builtinsNs mb) (bb : ∀ x : Str, x ≠ "__name__" → mb x = bootBuiltins x) (nl : s.heap.NoLimit) (ng : s.gens = #[])
    (ga : s.heap.get? a = some { cls := .type "list", data := .seq vs.toArray }) (iv : IntsAre vs ns) (le : ns.length ≤ sizeLine) :
    codeAny (model Pg w) callerA (.call (.ref fa) ⟨[.ref a], []⟩) (fun r s' => r = .ok (.ret (.bool true)) ∧ OldK s.heap s'.heap ∧ s'.os = s.os ∧ AllBare s'.gens) s := by
  obtain ⟨S', hrun⟩ := hrun
  obtain ⟨H, base, ho, hs, kb, gb, e0⟩ := top_env (P := Pg) (w := w) kin gl bt bb nl ng ga iv le
  refine codeAny_mono ?_ fun r s1 h => top_end (K := K) ho e0.hok h
  unfold runTop at hrun
  cases hd : P.fn f with
  | none => rw [hd] at hrun; cases hrun
  | some d =>
    rw [hd] at hrun
    obtain ⟨x', qual, params, body, scope, N, oc, od, dV, kV, doc, pm, an, cdv, ct, osl, e1, e2, e3, S, e4, e5⟩ := C f d hd
    have hb' := hb s (.ref a)
    rw [e1] at e2 hb'
    have rm : Room (k + 1) callerA := Room.mono (k := 200) ⟨rfl, by decide, by decide⟩ (by omega)
    subst hF
    rw [hps] at S
    obtain ⟨i1, i2⟩ := fns (Pg := Pg) (w := w) (base := base) F C k
    refine code_at (k := k) (vs := [.ref a]) (us := [.ref a]) (E := fun _ _ _ => False) e2 e3 S rm e0 hb' (.cons rfl .nil) rfl ⟨_, (snd_Ss d.body (⟨F, S.nd, rfl, rfl, rfl, rm.deeper _, fun _ => rfl, rfl, fun _ _ => rfl, i1, i2⟩ :
      XOk P T k true N true scope (cxOf CX0 Pg w K mg base N qual scope (T.F f) cdv callerA [] s H fun _ _ _ => False).nox) e4).nox, ?_⟩
    refine body_rd (P := P) (T := T) (K := K) (Q := fun v _ => v = .bl true) (St := []) (ρ := []) (ws := [.fro (ns.map W.int)]) ⟨rfl, List.nodup_nil, fun i a o h => by simp at h⟩ (VRs.cons ?_ VRs.nil) e5 ?_
    · simp only [VR]
      refine ⟨a, ns.map V.int, rfl, ?_, by rw [List.length_map]; exact le, vrs_ints ns⟩
      rcases hs with (h | ⟨o, h⟩) | h
      · rcases ho a with z | ⟨o, xs, z⟩ <;> (rw [h] at z; cases z)
      · exact .inl ⟨⟨o, h⟩, by simp⟩
      · exact .inr h
    · have key : ∀ r : R W, r = .ok (.bl true) S' → Post P T K [] H r fun _ _ _ H' v => v = .bl true := fun r e => by
        rw [e]
        exact fun ρ' H' v x s r => r.bl_inv
      exact key _ hrun
theorem law_walkT {l : PySem.W.OpenLaw} {q : Program} {loose : List Str} {XP : (Str → Option Value) → Heap → Prop} {YP : World → Heap → Prop} {d : DefRec} {K : Params → PySem.W.Frag} {P : Prog} {k f : Nat} {x : Str} (hn : l.most = some 63) (hdf : d.params.defaults = []) (hk : k < 200)
    (hY : ∀ (w : World) (h : Heap), YP w h → (K w.params).In h) (hrun : ∀ ns : List Int, ns.length ≤ 63 → ∃ S', runTop P k f [.fro (ns.map W.int)] [] = .ok (.bl true) S')
    (F : ∀ (w : World) (mg : Str → Option Value) (fa : Addr) (h : Heap), (K w.params).In h → h.Ns mainGlobals mg → mg d.name = some (.ref fa) →
      ∃ T : Adr, Facts P T (K w.params) mg ∧ (∀ f d, P.fn f = some d → CodeOk P T (K w.params) f d) ∧ T.F f = fa ∧ T.ps f = [x] ∧ ∀ (s : Shared) (v : Value), BindsTo s (T.fd f) ⟨[v], []⟩ [(x, v)]) :
    PySem.W.WalkO q loose XP YP l.row.toRowW d [] (fun f vs => PySem.call f vs) := by
  refine Att.attach_call hn hdf fun w s₀ s₁ mg mb fa o pm cd doc a vs ns G Y ho hd hcd hmg hobj hints hlen hg => ?_
  obtain ⟨T, f1, f2, f3, f4, f5⟩ := F w mg fa _ (hY w _ Y) G.T.g hmg
  exact top_run f1 f2 f3 f4 hk f5 (hrun ns hlen) (hY w _ Y) G.T.g G.T.b G.T.builtins G.T.nolimit hg hobj hints (Nat.le_trans hlen (by decide))
end Eng

set_option Elab.async false
set_option linter.all false
set_option maxRecDepth 100000
/-! B: the functions as terms of the small language (printed by lean.py). -/
namespace Eng
open PySem L2
def tgs : List Str := [Str.ofString "are_right", Str.ofString "global_count", Str.ofString "procedures", Str.ofString "frames", Str.ofString "steps", Str.ofString "entry_frame", Str.ofString "pile", Str.ofString "goal", Str.ofString "laid", Str.ofString "after", Str.ofString "counts", Str.ofString "global", Str.ofString "local", Str.ofString "procedure_count", Str.ofString "is_right", Str.ofString "program", Str.ofString "walker", Str.ofString "firsts", Str.ofString "map", Str.ofString "points", Str.ofString "procedure", Str.ofString "states", Str.ofString "letters", Str.ofString "entries", Str.ofString "letter", Str.ofString "state", Str.ofString "statement", Str.ofString "return", Str.ofString "call", Str.ofString "follows", Str.ofString "goals", Str.ofString "set", Str.ofString "free", Str.ofString "pass", Str.ofString "if", Str.ofString "either", Str.ofString "while", Str.ofString "repeat", Str.ofString "has_variable", Str.ofString "has_variables", Str.ofString "MOST_PLACE", Str.ofString "weight", Str.ofString "add_body", Str.ofString "link", Str.ofString "truth", Str.ofString "of", Str.ofString "not", Str.ofString "and", Str.ofString "or", Str.ofString "same", Str.ofString "law", Str.ofString "_law_numbers", Str.ofString "_law_program", Str.ofString "machine_of", Str.ofString "begin", Str.ofString "configuration_of", Str.ofString "possible", Str.ofString "take", Str.ofString "situation_of", Str.ofString "_law_pick", Str.ofString "_law_body", Str.ofString "twos", Str.ofString "no_values", Str.ofString "number_of", Str.ofString "is_possible", Str.ofString "values_of", Str.ofString "_law_statement", Str.ofString "bodies", Str.ofString "fits", Str.ofString "_law_variable", Str.ofString "_law_expression", Str.ofString "value_of", Str.ofString "with_value", Str.ofString "Program", Str.ofString "Scope", Str.ofString "Coder", Str.ofString "Machine", Str.ofString "Walker", Str.ofString "Step", Str.ofString "Points", Str.ofString "Point", Str.ofString "_law_table", Str.ofString "_law_frames", Str.ofString "_law_steps", Str.ofString "_law_size", Str.ofString "_law_fill", Str.ofString "_law_bits", Str.ofString "_law_after", Str.ofString "_law_sum", Str.ofString "_law_bodies", Str.ofString "_law_frame", Str.ofString "_law_with", Str.ofString "_law_value", Str.ofString "_law_letter", Str.ofString "_law_deep", Str.ofString "_law_first"]
/-- law: 0 -/
def d_law : FDef := ⟨1, 12, (.cons (.asg (.nm 1) (.call 1 (.cons (.var 0) (.cons (.int 40) .nil)))) (.cons (.asg (.nm 2) (.call 2 (.cons (.var 1) (.cons (.int 10) (.cons (.bl true) .nil))))) (.cons (.asg (.nm 3) (.make true 0 (.cons (.idx (.var 2) (.int 0)) (.cons (.idx (.var 2) (.int 1)) .nil)))) (.cons (.asg (.nm 4) (.call 4 (.cons (.var 3) .nil))) (.cons (.asg (.nm 5) (.call 5 (.cons (.var 3) .nil))) (.cons (.for_ (.nm 6) (.rng1 (.bin .mod (.idx (.var 1) (.int 39)) (.int 11))) (.cons (.asg (.nm 7) (.call 6 (.cons (.var 3) (.cons (.var 5) .nil)))) (.cons (.asg (.nm 8) (.comp true [9] (.nm 9) (.seq (.call 7 (.cons (.var 4) (.cons (.var 7) .nil)))) .nil (.call 8 (.cons (.var 4) (.cons (.var 7) (.cons (.var 9) .nil)))))) (.cons (.asg (.nm 10) (.call 9 (.cons (.var 3) (.cons (.var 5) .nil)))) (.cons (.if_ (.cmp .ne (.var 8) (.comp true [11] (.nm 11) (.seq (.var 10)) .nil (.call 6 (.cons (.var 3) (.cons (.var 11) .nil))))) (.cons (.ret (.bl false)) .nil) .nil) (.cons (.if_ (.cmp .ne (.comp true [11] (.nm 11) (.seq (.var 8)) .nil (.call 10 (.cons (.var 3) (.cons (.var 11) .nil)))) (.var 10)) (.cons (.ret (.bl false)) .nil) .nil) (.cons (.if_ (.cmp .gt (.blt .len (.cons (.var 10) .nil)) (.int 0)) (.cons (.asg (.nm 5) (.idx (.var 10) (.bin .mod (.idx (.var 1) (.bin .add (.int 27) (.var 6))) (.blt .len (.cons (.var 10) .nil))))) .nil) .nil) .nil))))))) (.cons (.ret (.bl true)) .nil))))))), true⟩
/-- _law_numbers: 1 -/
def d__law_numbers : FDef := ⟨2, 7, (.cons (.asg (.nm 2) (.int 0)) (.cons (.if_ (.cmp .gt (.blt .len (.cons (.var 0) .nil)) (.int 0)) (.cons (.asg (.nm 2) (.idx (.var 0) (.int 0))) .nil) .nil) (.cons (.asg (.nm 3) (.cmp .ge (.var 2) (.bin .pow (.int 10) (.int 18)))) (.cons (.asg (.nm 4) (.alloc (.disp .nil))) (.cons (.for_ (.nm 5) (.rng1 (.var 1)) (.cons (.if_ (.and_ (.cons (.var 3) (.cons (.cmp .gt (.var 2) (.int 0)) .nil))) (.cons (.expr (.bm .append (.var 4) (.cons (.bin .mod (.var 2) (.int 1000000)) .nil))) (.cons (.asg (.nm 2) (.bin .fdiv (.var 2) (.int 1000000))) .nil)) (.cons (.asg (.nm 6) (.int 13)) (.cons (.if_ (.cmp .gt (.blt .len (.cons (.var 0) .nil)) (.int 0)) (.cons (.asg (.nm 6) (.bin .add (.idx (.var 0) (.bin .mod (.var 5) (.blt .len (.cons (.var 0) .nil)))) (.bin .mul (.int 7919) (.var 5)))) .nil) .nil) (.cons (.expr (.bm .append (.var 4) (.cons (.bin .mod (.bin .mod (.bin .mul (.bin .mod (.bin .mul (.var 6) (.int 48271)) (.int 2147483647)) (.int 69621)) (.int 2147483629)) (.int 1000000)) .nil))) .nil)))) .nil)) (.cons (.ret (.var 4)) .nil)))))), true⟩
/-- _law_program: 2 -/
def d__law_program : FDef := ⟨3, 10, (.cons (.asg (.nm 3) (.alloc (.disp (.cons (.var 0) (.cons (.int 0) (.cons (.var 1) .nil)))))) (.cons (.asg (.nm 4) (.call 11 (.cons (.var 3) (.cons (.int 3) .nil)))) (.cons (.asg (.nm 5) (.bin .add (.call 11 (.cons (.var 3) (.cons (.int 2) .nil))) (.int 1))) (.cons (.asg (.nm 6) (.int 2)) (.cons (.if_ (.and_ (.cons (.var 2) (.cons (.cmp .eq (.bin .mod (.bin .fdiv (.idx (.var 0) (.int 1)) (.int 11)) (.int 4)) (.int 1)) .nil))) (.cons (.asg (.nm 4) (.call 11 (.cons (.var 3) (.cons (.int 4) .nil)))) (.cons (.asg (.nm 5) (.bin .add (.call 11 (.cons (.var 3) (.cons (.int 4) .nil))) (.int 1))) (.cons (.asg (.nm 6) (.int 4)) (.cons (.sub (.var 3) (.int 2) (.blt .min2 (.cons (.var 1) (.cons (.int 7) .nil)))) .nil)))) .nil) (.cons (.asg (.nm 7) (.alloc (.disp .nil))) (.cons (.for_ (.nm 8) (.rng1 (.var 5)) (.cons (.asg (.nm 9) (.call 11 (.cons (.var 3) (.cons (.var 6) .nil)))) (.cons (.expr (.bm .append (.var 7) (.cons (.tup (.cons (.var 9) (.cons (.call 12 (.cons (.var 3) (.cons (.lst (.disp (.cons (.var 4) (.cons (.var 9) (.cons (.var 5) .nil))))) (.cons (.int 2) (.cons (.int 4) .nil))))) .nil))) .nil))) .nil))) (.cons (.ret (.lst (.disp (.cons (.var 4) (.cons (.var 7) .nil))))) .nil)))))))), true⟩
/-- Program.__init__: 3 -/
def d_Program___init__ : FDef := ⟨3, 7, (.cons (.if_ (.or_ (.cons (.cmp .lt (.var 1) (.int 0)) (.cons (.cmp .eq (.blt .len (.cons (.var 2) .nil)) (.int 0)) .nil))) (.cons .nev .nil) .nil) (.cons (.for_ (.tp [(.nm 3), (.tp [(.nm 4), (.nm 5)])]) (.enm (.var 2)) (.cons (.asg (.nm 6) (.make true 1 (.cons (.var 1) (.cons (.var 4) (.cons (.blt .len (.cons (.var 2) .nil)) .nil))))) (.cons (.if_ (.or_ (.cons (.cmp .lt (.var 4) (.int 0)) (.cons (.not_ (.meth (.var 6) 0 (.cons (.var 5) .nil))) .nil))) (.cons .nev .nil) .nil) .nil))) (.cons (.fld (.var 0) 1 (.var 1)) (.cons (.fld (.var 0) 2 (.blt .tuple (.cons (.var 2) .nil))) .nil)))), false⟩
/-- machine_of: 4 -/
def d_machine_of : FDef := ⟨1, 6, (.cons (.asg (.nm 1) (.make true 2 (.cons (.var 0) .nil))) (.cons (.asg (.nm 2) (.call 16 (.cons (.fld (.var 0) 1) .nil))) (.cons (.asg (.nm 3) (.alloc (.disp .nil))) (.cons (.for_ (.nm 4) (.rng1 (.blt .len (.cons (.fld (.var 1) 3) .nil))) (.cons (.for_ (.nm 5) (.rng1 (.var 2)) (.cons (.expr (.bm .extend (.var 3) (.cons (.meth (.var 1) 4 (.cons (.var 4) (.cons (.var 5) .nil))) .nil))) .nil)) .nil)) (.cons (.ret (.make true 3 (.cons (.var 2) (.cons (.blt .len (.cons (.fld (.var 1) 3) .nil)) (.cons (.var 3) .nil))))) .nil))))), true⟩
/-- begin: 5 -/
def d_begin : FDef := ⟨1, 2, (.cons (.asg (.nm 1) (.make true 4 (.cons (.var 0) .nil))) (.cons (.ret (.tup (.cons (.call 20 (.cons (.fld (.var 0) 1) .nil)) (.cons (.tup (.cons (.meth (.var 1) 5 (.cons (.int 0) .nil)) .nil)) .nil)))) .nil)), true⟩
/-- configuration_of: 6 -/
def d_configuration_of : FDef := ⟨2, 2, (.cons (.ret (.tup (.cons (.call 22 (.cons (.idx (.var 1) (.int 0)) .nil)) (.cons (.meth (.make true 2 (.cons (.var 0) .nil)) 6 (.cons (.idx (.var 1) (.int 1)) .nil)) .nil)))) .nil), true⟩
/-- possible: 7 -/
def d_possible : FDef := ⟨2, 4, (.cons (.ret (.comp true [2, 3] (.tp [(.nm 2), (.nm 3)]) (.enm (.fld (.var 0) 4)) (.cons (.call 24 (.cons (.var 3) (.cons (.var 1) .nil))) .nil) (.var 2))) .nil), true⟩
/-- take: 8 -/
def d_take : FDef := ⟨3, 4, (.cons (.if_ (.or_ (.cons (.not_ (.chain .le .lt (.int 0) (.var 2) (.blt .len (.cons (.fld (.var 0) 4) .nil)))) (.cons (.not_ (.call 24 (.cons (.idx (.fld (.var 0) 4) (.var 2)) (.cons (.var 1) .nil)))) .nil))) (.cons .nev .nil) .nil) (.cons (.asg (.nm 3) (.idx (.fld (.var 0) 4) (.var 2))) (.cons (.ret (.tup (.cons (.fld (.var 3) 7) (.cons (.bin .add (.fld (.var 3) 8) (.sl (.idx (.var 1) (.int 1)) (.int 1) .omit)) .nil)))) .nil))), true⟩
/-- after: 9 -/
def d_after : FDef := ⟨2, 6, (.cons (.asg (.tp [(.nm 2), (.nm 3)]) (.var 1)) (.cons (.if_ (.cmp .eq (.blt .len (.cons (.var 3) .nil)) (.int 0)) (.cons (.ret (.lst (.disp .nil))) .nil) .nil) (.cons (.ret (.comp true [4, 5] (.tp [(.nm 4), (.nm 5)]) (.seq (.meth (.make true 4 (.cons (.var 0) .nil)) 9 (.cons (.var 2) (.cons (.idx (.var 3) (.int 0)) .nil)))) .nil (.tup (.cons (.var 4) (.cons (.bin .add (.var 5) (.sl (.var 3) (.int 1) .omit)) .nil))))) .nil))), true⟩
/-- situation_of: 10 -/
def d_situation_of : FDef := ⟨2, 6, (.cons (.asg (.nm 2) (.make true 2 (.cons (.var 0) .nil))) (.cons (.asg (.tp [(.nm 3), (.nm 4)]) (.var 1)) (.cons (.ret (.tup (.cons (.call 26 (.cons (.var 3) (.cons (.fld (.var 0) 1) .nil))) (.cons (.blt .tuple (.cons (.comp true [5] (.nm 5) (.seq (.var 4)) .nil (.idx (.fld (.var 2) 3) (.var 5))) .nil)) .nil)))) .nil))), true⟩
/-- _law_pick: 11 -/
def d__law_pick : FDef := ⟨2, 3, (.cons (.asg (.nm 2) (.idx (.idx (.var 0) (.int 0)) (.bin .mod (.idx (.var 0) (.int 1)) (.blt .len (.cons (.idx (.var 0) (.int 0)) .nil))))) (.cons (.sub (.var 0) (.int 1) (.bin .add (.idx (.var 0) (.int 1)) (.int 1))) (.cons (.ret (.bin .mod (.bin .add (.bin .fdiv (.var 2) (.int 7)) (.bin .mul (.int 31) (.idx (.var 0) (.int 1)))) (.var 1))) .nil))), false⟩
/-- _law_body: 12 -/
def d__law_body : FDef := ⟨4, 6, (.cons (.asg (.nm 4) (.alloc (.disp .nil))) (.cons (.for_ (.nm 5) (.rng1 (.call 11 (.cons (.var 0) (.cons (.bin .add (.var 3) (.int 1)) .nil)))) (.cons (.if_ (.cmp .gt (.idx (.var 0) (.int 2)) (.int 0)) (.cons (.sub (.var 0) (.int 2) (.bin .sub (.idx (.var 0) (.int 2)) (.int 1))) (.cons (.expr (.bm .append (.var 4) (.cons (.call 27 (.cons (.var 0) (.cons (.var 1) (.cons (.var 2) .nil)))) .nil))) .nil)) .nil) .nil)) (.cons (.ret (.blt .tuple (.cons (.var 4) .nil))) .nil))), true⟩
/-- Scope.__init__: 13 -/
def d_Scope___init__ : FDef := ⟨4, 4, (.cons (.fld (.var 0) 10 (.dict [11, 12] (.cons (.var 1) (.cons (.var 2) .nil)))) (.cons (.fld (.var 0) 13 (.var 3)) .nil)), false⟩
/-- Scope.are_right: 14 -/
def d_Scope_are_right : FDef := ⟨2, 4, (.cons (.for_ (.nm 2) (.seq (.var 1)) (.cons (.if_ (.or_ (.cons (.not_ (.meth (.var 0) 14 (.cons (.var 2) .nil))) (.cons (.not_ (.blt .all (.cons (.comp true [3] (.nm 3) (.seq (.call 29 (.cons (.var 2) .nil))) .nil (.meth (.var 0) 0 (.cons (.var 3) .nil))) .nil))) .nil))) (.cons (.ret (.bl false)) .nil) .nil) .nil)) (.cons (.ret (.bl true)) .nil)), true⟩
/-- Coder.__init__: 15 -/
def d_Coder___init__ : FDef := ⟨2, 6, (.cons (.fld (.var 0) 15 (.var 1)) (.cons (.fld (.var 0) 16 (.make true 4 (.cons (.var 1) .nil))) (.cons (.fld (.var 0) 17 (.alloc (.disp .nil))) (.cons (.fld (.var 0) 3 (.alloc (.disp .nil))) (.cons (.for_ (.tp [(.nm 2), (.nm 3)]) (.enm (.fld (.fld (.fld (.var 0) 16) 18) 19)) (.cons (.expr (.bm .append (.fld (.var 0) 17) (.cons (.blt .len (.cons (.fld (.var 0) 3) .nil)) .nil))) (.cons (.asg (.nm 4) (.idx (.idx (.fld (.var 1) 2) (.fld (.var 3) 20)) (.int 0))) (.cons (.for_ (.nm 5) (.rng1 (.call 16 (.cons (.var 4) .nil))) (.cons (.expr (.bm .append (.fld (.var 0) 3) (.cons (.tup (.cons (.var 2) (.cons (.call 26 (.cons (.var 5) (.cons (.var 4) .nil))) .nil))) .nil))) .nil)) .nil)))) .nil))))), false⟩
/-- twos: 16 -/
def d_twos : FDef := ⟨1, 3, (.cons (.asg (.nm 1) (.int 1)) (.cons (.for_ (.nm 2) (.rng1 (.var 0)) (.cons (.asg (.nm 1) (.bin .mul (.int 2) (.var 1))) .nil)) (.cons (.ret (.var 1)) .nil))), true⟩
/-- Coder.steps: 17 -/
def d_Coder_steps : FDef := ⟨3, 7, (.cons (.asg (.nm 3) (.alloc (.disp .nil))) (.cons (.asg (.nm 4) (.call 26 (.cons (.var 2) (.cons (.fld (.fld (.var 0) 15) 1) .nil)))) (.cons (.for_ (.tp [(.nm 5), (.nm 6)]) (.seq (.meth (.fld (.var 0) 16) 9 (.cons (.var 4) (.cons (.idx (.fld (.var 0) 3) (.var 1)) .nil)))) (.cons (.expr (.bm .append (.var 3) (.cons (.make true 5 (.cons (.var 2) (.cons (.var 1) (.cons (.call 22 (.cons (.var 5) .nil)) (.cons (.meth (.var 0) 6 (.cons (.var 6) .nil)) .nil))))) .nil))) .nil)) (.cons (.ret (.var 3)) .nil)))), true⟩
/-- Machine.__init__: 18 -/
def d_Machine___init__ : FDef := ⟨4, 5, (.cons (.if_ (.or_ (.cons (.cmp .lt (.var 1) (.int 1)) (.cons (.cmp .lt (.var 2) (.int 1)) (.cons (.not_ (.blt .all (.cons (.comp true [4] (.nm 4) (.seq (.var 3)) .nil (.call 31 (.cons (.var 4) (.cons (.var 1) (.cons (.var 2) .nil))))) .nil))) .nil)))) (.cons .nev .nil) .nil) (.cons (.fld (.var 0) 21 (.var 1)) (.cons (.fld (.var 0) 22 (.var 2)) (.cons (.fld (.var 0) 4 (.blt .tuple (.cons (.var 3) .nil))) .nil)))), false⟩
/-- Walker.__init__: 19 -/
def d_Walker___init__ : FDef := ⟨2, 2, (.cons (.fld (.var 0) 15 (.var 1)) (.cons (.fld (.var 0) 18 (.make true 6 (.cons (.var 1) .nil))) .nil)), false⟩
/-- no_values: 20 -/
def d_no_values : FDef := ⟨1, 2, (.cons (.ret (.blt .tuple (.cons (.comp true [1] (.nm 1) (.rng1 (.var 0)) .nil (.bl false)) .nil))) .nil), true⟩
/-- Walker.entry_frame: 21 -/
def d_Walker_entry_frame : FDef := ⟨2, 2, (.cons (.ret (.tup (.cons (.idx (.fld (.fld (.var 0) 18) 23) (.var 1)) (.cons (.call 20 (.cons (.idx (.idx (.fld (.fld (.var 0) 15) 2) (.var 1)) (.int 0)) .nil)) .nil)))) .nil), true⟩
/-- number_of: 22 -/
def d_number_of : FDef := ⟨1, 3, (.cons (.asg (.nm 1) (.int 0)) (.cons (.for_ (.nm 2) (.rev (.var 0)) (.cons (.asg (.nm 1) (.bin .add (.bin .mul (.int 2) (.var 1)) (.blt .int (.cons (.var 2) .nil)))) .nil)) (.cons (.ret (.var 1)) .nil))), true⟩
/-- Coder.pile: 23 -/
def d_Coder_pile : FDef := ⟨2, 3, (.cons (.ret (.blt .tuple (.cons (.comp true [2] (.nm 2) (.seq (.var 1)) .nil (.meth (.var 0) 24 (.cons (.var 2) .nil))) .nil))) .nil), true⟩
/-- is_possible: 24 -/
def d_is_possible : FDef := ⟨2, 4, (.cons (.asg (.tp [(.nm 2), (.nm 3)]) (.var 1)) (.cons (.ret (.and_ (.cons (.cmp .gt (.blt .len (.cons (.var 3) .nil)) (.int 0)) (.cons (.cmp .eq (.fld (.var 0) 25) (.var 2)) (.cons (.cmp .eq (.fld (.var 0) 24) (.idx (.var 3) (.int 0))) .nil))))) .nil)), true⟩
/-- Walker.after: 25 -/
def d_Walker_after : FDef := ⟨3, 9, (.cons (.asg (.tp [(.nm 3), (.nm 4)]) (.var 2)) (.cons (.asg (.nm 5) (.idx (.fld (.fld (.var 0) 18) 19) (.var 3))) (.cons (.if_ (.or_ (.cons (.cmp .isN (.fld (.var 5) 26) .non) (.cons (.cmp .eq (.idx (.fld (.var 5) 26) (.int 0)) (.str 27)) .nil))) (.cons (.ret (.lst (.disp (.cons (.tup (.cons (.var 1) (.cons (.tup .nil) .nil))) .nil)))) .nil) .nil) (.cons (.if_ (.cmp .eq (.idx (.fld (.var 5) 26) (.int 0)) (.str 28)) (.cons (.ret (.lst (.disp (.cons (.tup (.cons (.var 1) (.cons (.tup (.cons (.meth (.var 0) 5 (.cons (.idx (.fld (.var 5) 26) (.int 1)) .nil)) (.cons (.tup (.cons (.fld (.var 5) 29) (.cons (.var 4) .nil))) .nil))) .nil))) .nil)))) .nil) .nil) (.cons (.asg (.nm 6) (.alloc (.disp .nil))) (.cons (.for_ (.tp [(.nm 7), (.nm 8)]) (.seq (.meth (.var 0) 30 (.cons (.var 5) (.cons (.dict [11, 12] (.cons (.var 1) (.cons (.var 4) .nil))) .nil)))) (.cons (.expr (.bm .append (.var 6) (.cons (.tup (.cons (.idx (.var 8) (.str 11)) (.cons (.tup (.cons (.tup (.cons (.var 7) (.cons (.idx (.var 8) (.str 12)) .nil))) .nil)) .nil))) .nil))) .nil)) (.cons (.ret (.var 6)) .nil))))))), true⟩
/-- values_of: 26 -/
def d_values_of : FDef := ⟨2, 4, (.cons (.asg (.nm 2) (.alloc (.disp .nil))) (.cons (.for_ (.nm 3) (.rng1 (.var 1)) (.cons (.expr (.bm .append (.var 2) (.cons (.cmp .eq (.bin .mod (.var 0) (.int 2)) (.int 1)) .nil))) (.cons (.asg (.nm 0) (.bin .fdiv (.var 0) (.int 2))) .nil))) (.cons (.ret (.blt .tuple (.cons (.var 2) .nil))) .nil))), true⟩
/-- _law_statement: 27 -/
def d__law_statement : FDef := ⟨3, 6, (.cons (.asg (.nm 3) (.call 11 (.cons (.var 0) (.cons (.int 11) .nil)))) (.cons (.asg (.nm 4) (.call 35 (.cons (.var 0) (.cons (.var 1) .nil)))) (.cons (.if_ (.and_ (.cons (.cmp .lt (.var 3) (.int 2)) (.cons (.cmp .notN (.var 4) .non) .nil))) (.cons (.ret (.tup (.cons (.str 31) (.cons (.var 4) (.cons (.call 36 (.cons (.var 0) (.cons (.var 1) (.cons (.int 2) .nil)))) .nil))))) .nil) .nil) (.cons (.if_ (.and_ (.cons (.cmp .eq (.var 3) (.int 2)) (.cons (.cmp .notN (.var 4) .non) .nil))) (.cons (.ret (.tup (.cons (.str 32) (.cons (.var 4) .nil)))) .nil) .nil) (.cons (.if_ (.cmp .lt (.var 3) (.int 5)) (.cons (.ret (.tup (.cons (.str 28) (.cons (.call 11 (.cons (.var 0) (.cons (.idx (.var 1) (.int 2)) .nil))) .nil)))) .nil) .nil) (.cons (.if_ (.or_ (.cons (.cmp .eq (.var 3) (.int 5)) (.cons (.and_ (.cons (.cmp .eq (.var 2) (.int 0)) (.cons (.cmp .gt (.var 3) (.int 6)) .nil))) .nil))) (.cons (.ret (.tup (.cons (.str 33) (.cons (.idx (.lst (.disp (.cons (.int 0) (.cons (.int 1) (.cons (.int 2) (.cons (.int 0) (.cons (.int 1) (.cons (.int 2) (.cons (.int 10) (.cons (.int 999) .nil)))))))))) (.call 11 (.cons (.var 0) (.cons (.int 8) .nil)))) .nil)))) .nil) .nil) (.cons (.if_ (.cmp .eq (.var 3) (.int 6)) (.cons (.ret (.tup (.cons (.str 27) .nil))) .nil) .nil) (.cons (.if_ (.cmp .eq (.var 3) (.int 7)) (.cons (.asg (.nm 5) (.call 36 (.cons (.var 0) (.cons (.var 1) (.cons (.int 2) .nil))))) (.cons (.ret (.tup (.cons (.str 34) (.cons (.var 5) (.cons (.call 12 (.cons (.var 0) (.cons (.var 1) (.cons (.bin .sub (.var 2) (.int 1)) (.cons (.int 2) .nil))))) (.cons (.call 12 (.cons (.var 0) (.cons (.var 1) (.cons (.bin .sub (.var 2) (.int 1)) (.cons (.int 2) .nil))))) .nil)))))) .nil)) .nil) (.cons (.if_ (.cmp .eq (.var 3) (.int 8)) (.cons (.ret (.tup (.cons (.str 35) (.cons (.call 12 (.cons (.var 0) (.cons (.var 1) (.cons (.bin .sub (.var 2) (.int 1)) (.cons (.int 2) .nil))))) (.cons (.call 12 (.cons (.var 0) (.cons (.var 1) (.cons (.bin .sub (.var 2) (.int 1)) (.cons (.int 2) .nil))))) .nil))))) .nil) .nil) (.cons (.if_ (.cmp .eq (.var 3) (.int 9)) (.cons (.ret (.tup (.cons (.str 36) (.cons (.call 36 (.cons (.var 0) (.cons (.var 1) (.cons (.int 2) .nil)))) (.cons (.call 12 (.cons (.var 0) (.cons (.var 1) (.cons (.bin .sub (.var 2) (.int 1)) (.cons (.int 3) .nil))))) .nil))))) .nil) .nil) (.cons (.ret (.tup (.cons (.str 37) (.cons (.call 12 (.cons (.var 0) (.cons (.var 1) (.cons (.bin .sub (.var 2) (.int 1)) (.cons (.int 3) .nil))))) .nil)))) .nil))))))))))), true⟩
/-- Scope.is_right: 28 -/
def d_Scope_is_right : FDef := ⟨2, 3, (.cons (.asg (.nm 2) (.idx (.var 1) (.int 0))) (.cons (.if_ (.cmp .eq (.var 2) (.str 31)) (.cons (.ret (.and_ (.cons (.meth (.var 0) 38 (.cons (.idx (.var 1) (.int 1)) .nil)) (.cons (.meth (.var 0) 39 (.cons (.idx (.var 1) (.int 2)) .nil)) .nil)))) .nil) .nil) (.cons (.if_ (.cmp .eq (.var 2) (.str 32)) (.cons (.ret (.meth (.var 0) 38 (.cons (.idx (.var 1) (.int 1)) .nil))) .nil) .nil) (.cons (.if_ (.cmp .eq (.var 2) (.str 28)) (.cons (.ret (.chain .le .lt (.int 0) (.idx (.var 1) (.int 1)) (.fld (.var 0) 13))) .nil) .nil) (.cons (.if_ (.cmp .in_ (.var 2) (.tup (.cons (.str 34) (.cons (.str 36) .nil)))) (.cons (.ret (.meth (.var 0) 39 (.cons (.idx (.var 1) (.int 1)) .nil))) .nil) .nil) (.cons (.if_ (.cmp .eq (.var 2) (.str 33)) (.cons (.ret (.chain .le .le (.int 0) (.idx (.var 1) (.int 1)) (.gc 40))) .nil) .nil) (.cons (.ret (.bl true)) .nil))))))), true⟩
/-- bodies: 29 -/
def d_bodies : FDef := ⟨1, 1, (.cons (.if_ (.cmp .eq (.idx (.var 0) (.int 0)) (.str 34)) (.cons (.ret (.tup (.cons (.idx (.var 0) (.int 2)) (.cons (.idx (.var 0) (.int 3)) .nil)))) .nil) .nil) (.cons (.if_ (.cmp .eq (.idx (.var 0) (.int 0)) (.str 35)) (.cons (.ret (.tup (.cons (.idx (.var 0) (.int 1)) (.cons (.idx (.var 0) (.int 2)) .nil)))) .nil) .nil) (.cons (.if_ (.cmp .eq (.idx (.var 0) (.int 0)) (.str 36)) (.cons (.ret (.tup (.cons (.idx (.var 0) (.int 2)) .nil))) .nil) .nil) (.cons (.if_ (.cmp .eq (.idx (.var 0) (.int 0)) (.str 37)) (.cons (.ret (.tup (.cons (.idx (.var 0) (.int 1)) .nil))) .nil) .nil) (.cons (.ret (.tup .nil)) .nil))))), true⟩
/-- Step.__init__: 30 -/
def d_Step___init__ : FDef := ⟨6, 6, (.cons (.fld (.var 0) 25 (.var 1)) (.cons (.fld (.var 0) 24 (.var 2)) (.cons (.fld (.var 0) 7 (.var 3)) (.cons (.fld (.var 0) 8 (.blt .tuple (.cons (.var 4) .nil))) (.cons (.fld (.var 0) 41 (.var 5)) .nil))))), false⟩
/-- fits: 31 -/
def d_fits : FDef := ⟨3, 4, (.cons (.if_ (.or_ (.cons (.not_ (.chain .le .lt (.int 0) (.fld (.var 0) 25) (.var 1))) (.cons (.not_ (.chain .le .lt (.int 0) (.fld (.var 0) 7) (.var 1))) (.cons (.not_ (.chain .le .lt (.int 0) (.fld (.var 0) 24) (.var 2))) .nil)))) (.cons (.ret (.bl false)) .nil) .nil) (.cons (.if_ (.or_ (.cons (.cmp .gt (.blt .len (.cons (.fld (.var 0) 8) .nil)) (.int 2)) (.cons (.cmp .lt (.fld (.var 0) 41) (.int 0)) .nil))) (.cons (.ret (.bl false)) .nil) .nil) (.cons (.ret (.blt .all (.cons (.comp true [3] (.nm 3) (.seq (.fld (.var 0) 8)) .nil (.chain .le .lt (.int 0) (.var 3) (.var 2))) .nil))) .nil))), true⟩
/-- Points.__init__: 32 -/
def d_Points___init__ : FDef := ⟨2, 8, (.cons (.fld (.var 0) 19 (.alloc (.disp .nil))) (.cons (.fld (.var 0) 23 (.alloc (.disp .nil))) (.cons (.for_ (.tp [(.nm 2), (.tp [(.nm 3), (.nm 4)])]) (.enm (.fld (.var 1) 2)) (.cons (.asg (.nm 5) (.blt .len (.cons (.fld (.var 0) 19) .nil))) (.cons (.asg (.nm 6) (.meth (.var 0) 42 (.cons (.var 2) (.cons (.var 4) .nil)))) (.cons (.asg (.nm 7) (.blt .len (.cons (.fld (.var 0) 19) .nil))) (.cons (.expr (.bm .append (.fld (.var 0) 19) (.cons (.make false 7 (.cons (.var 2) (.cons .non .nil))) .nil))) (.cons (.expr (.meth (.var 0) 43 (.cons (.var 6) (.cons (.var 7) .nil)))) (.cons (.expr (.bm .append (.fld (.var 0) 23) (.cons (.var 5) .nil))) .nil))))))) .nil))), false⟩
/-- Coder.letter: 33 -/
def d_Coder_letter : FDef := ⟨2, 2, (.cons (.ret (.bin .add (.idx (.fld (.var 0) 17) (.idx (.var 1) (.int 0))) (.call 22 (.cons (.idx (.var 1) (.int 1)) .nil)))) .nil), true⟩
/-- Walker.goals: 34 -/
def d_Walker_goals : FDef := ⟨3, 6, (.cons (.asg (.nm 3) (.fld (.var 1) 26)) (.cons (.asg (.nm 4) (.idx (.var 3) (.int 0))) (.cons (.if_ (.cmp .eq (.var 4) (.str 31)) (.cons (.asg (.nm 5) (.call 42 (.cons (.idx (.var 3) (.int 2)) (.cons (.var 2) .nil)))) (.cons (.ret (.lst (.disp (.cons (.tup (.cons (.fld (.var 1) 29) (.cons (.call 43 (.cons (.var 2) (.cons (.idx (.var 3) (.int 1)) (.cons (.var 5) .nil)))) .nil))) .nil)))) .nil)) .nil) (.cons (.if_ (.cmp .eq (.var 4) (.str 32)) (.cons (.ret (.comp true [5] (.nm 5) (.seq (.tup (.cons (.bl false) (.cons (.bl true) .nil)))) .nil (.tup (.cons (.fld (.var 1) 29) (.cons (.call 43 (.cons (.var 2) (.cons (.idx (.var 3) (.int 1)) (.cons (.var 5) .nil)))) .nil))))) .nil) .nil) (.cons (.if_ (.cmp .eq (.var 4) (.str 33)) (.cons (.ret (.lst (.disp (.cons (.tup (.cons (.fld (.var 1) 29) (.cons (.var 2) .nil))) .nil)))) .nil) .nil) (.cons (.if_ (.cmp .eq (.var 4) (.str 35)) (.cons (.ret (.lst (.disp (.cons (.tup (.cons (.idx (.fld (.var 1) 23) (.int 0)) (.cons (.var 2) .nil))) (.cons (.tup (.cons (.idx (.fld (.var 1) 23) (.int 1)) (.cons (.var 2) .nil))) .nil))))) .nil) .nil) (.cons (.if_ (.cmp .eq (.var 4) (.str 37)) (.cons (.ret (.lst (.disp (.cons (.tup (.cons (.idx (.fld (.var 1) 23) (.int 0)) (.cons (.var 2) .nil))) (.cons (.tup (.cons (.fld (.var 1) 29) (.cons (.var 2) .nil))) .nil))))) .nil) .nil) (.cons (.if_ (.cmp .eq (.var 4) (.str 34)) (.cons (.ret (.lst (.disp (.cons (.tup (.cons (.idx (.fld (.var 1) 23) (.ite (.call 42 (.cons (.idx (.var 3) (.int 1)) (.cons (.var 2) .nil))) (.int 0) (.int 1))) (.cons (.var 2) .nil))) .nil)))) .nil) .nil) (.cons (.ret (.lst (.disp (.cons (.tup (.cons (.ite (.call 42 (.cons (.idx (.var 3) (.int 1)) (.cons (.var 2) .nil))) (.idx (.fld (.var 1) 23) (.int 0)) (.fld (.var 1) 29)) (.cons (.var 2) .nil))) .nil)))) .nil))))))))), true⟩
/-- _law_variable: 35 -/
def d__law_variable : FDef := ⟨2, 4, (.cons (.asg (.nm 2) (.alloc (.disp .nil))) (.cons (.for_ (.nm 3) (.rng1 (.idx (.var 1) (.int 0))) (.cons (.expr (.bm .append (.var 2) (.cons (.tup (.cons (.str 11) (.cons (.var 3) .nil))) .nil))) .nil)) (.cons (.for_ (.nm 3) (.rng1 (.idx (.var 1) (.int 1))) (.cons (.expr (.bm .append (.var 2) (.cons (.tup (.cons (.str 12) (.cons (.var 3) .nil))) .nil))) .nil)) (.cons (.if_ (.cmp .eq (.blt .len (.cons (.var 2) .nil)) (.int 0)) (.cons (.ret .non) .nil) .nil) (.cons (.ret (.idx (.var 2) (.call 11 (.cons (.var 0) (.cons (.blt .len (.cons (.var 2) .nil)) .nil))))) .nil))))), true⟩
/-- _law_expression: 36 -/
def d__law_expression : FDef := ⟨3, 6, (.cons (.asg (.nm 3) (.call 11 (.cons (.var 0) (.cons (.int 7) .nil)))) (.cons (.asg (.nm 4) (.call 35 (.cons (.var 0) (.cons (.var 1) .nil)))) (.cons (.if_ (.or_ (.cons (.cmp .eq (.var 2) (.int 0)) (.cons (.cmp .lt (.var 3) (.int 2)) .nil))) (.cons (.if_ (.or_ (.cons (.cmp .isN (.var 4) .non) (.cons (.cmp .eq (.bin .mod (.var 3) (.int 3)) (.int 1)) .nil))) (.cons (.ret (.tup (.cons (.str 44) (.cons (.cmp .eq (.call 11 (.cons (.var 0) (.cons (.int 2) .nil))) (.int 1)) .nil)))) .nil) .nil) (.cons (.ret (.tup (.cons (.str 45) (.cons (.var 4) .nil)))) .nil)) .nil) (.cons (.if_ (.cmp .eq (.var 3) (.int 2)) (.cons (.ret (.tup (.cons (.str 46) (.cons (.call 36 (.cons (.var 0) (.cons (.var 1) (.cons (.bin .sub (.var 2) (.int 1)) .nil)))) .nil)))) .nil) .nil) (.cons (.asg (.nm 5) (.idx (.lst (.disp (.cons (.str 47) (.cons (.str 48) (.cons (.str 49) (.cons (.str 47) .nil)))))) (.bin .sub (.var 3) (.int 3)))) (.cons (.ret (.tup (.cons (.var 5) (.cons (.call 36 (.cons (.var 0) (.cons (.var 1) (.cons (.bin .sub (.var 2) (.int 1)) .nil)))) (.cons (.call 36 (.cons (.var 0) (.cons (.var 1) (.cons (.bin .sub (.var 2) (.int 1)) .nil)))) .nil))))) .nil)))))), true⟩
/-- Scope.has_variable: 37 -/
def d_Scope_has_variable : FDef := ⟨2, 2, (.cons (.ret (.chain .le .lt (.int 0) (.idx (.var 1) (.int 1)) (.idx (.fld (.var 0) 10) (.idx (.var 1) (.int 0))))) .nil), true⟩
/-- Scope.has_variables: 38 -/
def d_Scope_has_variables : FDef := ⟨2, 3, (.cons (.if_ (.cmp .eq (.idx (.var 1) (.int 0)) (.str 44)) (.cons (.ret (.bl true)) .nil) .nil) (.cons (.if_ (.cmp .eq (.idx (.var 1) (.int 0)) (.str 45)) (.cons (.ret (.meth (.var 0) 38 (.cons (.idx (.var 1) (.int 1)) .nil))) .nil) .nil) (.cons (.ret (.blt .all (.cons (.comp true [2] (.nm 2) (.seq (.sl (.var 1) (.int 1) .omit)) .nil (.meth (.var 0) 39 (.cons (.var 2) .nil))) .nil))) .nil))), true⟩
/-- Points.add_body: 39 -/
def d_Points_add_body : FDef := ⟨3, 8, (.cons (.asg (.nm 3) (.alloc (.disp .nil))) (.cons (.for_ (.nm 4) (.seq (.var 2)) (.cons (.asg (.nm 5) (.blt .len (.cons (.fld (.var 0) 19) .nil))) (.cons (.asg (.nm 6) (.make false 7 (.cons (.var 1) (.cons (.var 4) .nil)))) (.cons (.expr (.bm .append (.fld (.var 0) 19) (.cons (.var 6) .nil))) (.cons (.expr (.bm .append (.var 3) (.cons (.tup (.cons (.var 5) (.cons (.comp false [7] (.nm 7) (.seq (.call 29 (.cons (.var 4) .nil))) .nil (.meth (.var 0) 42 (.cons (.var 1) (.cons (.var 7) .nil)))) .nil))) .nil))) .nil))))) (.cons (.ret (.var 3)) .nil))), false⟩
/-- Point.__init__: 40 -/
def d_Point___init__ : FDef := ⟨3, 3, (.cons (.fld (.var 0) 20 (.var 1)) (.cons (.fld (.var 0) 26 (.var 2)) (.cons (.fld (.var 0) 23 (.alloc (.disp .nil))) (.cons (.fld (.var 0) 29 .non) .nil)))), false⟩
/-- Points.link: 41 -/
def d_Points_link : FDef := ⟨3, 10, (.cons (.for_ (.tp [(.nm 3), (.tp [(.nm 4), (.nm 5)])]) (.enm (.var 1)) (.cons (.asg (.nm 6) (.var 2)) (.cons (.if_ (.cmp .lt (.bin .add (.var 3) (.int 1)) (.blt .len (.cons (.var 1) .nil))) (.cons (.asg (.nm 6) (.idx (.idx (.var 1) (.bin .add (.var 3) (.int 1))) (.int 0))) .nil) .nil) (.cons (.asg (.nm 7) (.idx (.fld (.var 0) 19) (.var 4))) (.cons (.fld (.var 7) 29 (.var 6)) (.cons (.asg (.nm 8) (.var 6)) (.cons (.if_ (.cmp .in_ (.idx (.fld (.var 7) 26) (.int 0)) (.tup (.cons (.str 36) (.cons (.str 37) .nil)))) (.cons (.asg (.nm 8) (.var 4)) .nil) .nil) (.cons (.for_ (.nm 9) (.seq (.var 5)) (.cons (.expr (.bm .append (.fld (.var 7) 23) (.cons (.ite (.cmp .gt (.blt .len (.cons (.var 9) .nil)) (.int 0)) (.idx (.idx (.var 9) (.int 0)) (.int 0)) (.var 8)) .nil))) (.cons (.expr (.meth (.var 0) 43 (.cons (.var 9) (.cons (.var 8) .nil)))) .nil))) .nil)))))))) .nil), false⟩
/-- value_of: 42 -/
def d_value_of : FDef := ⟨2, 5, (.cons (.asg (.nm 2) (.idx (.var 0) (.int 0))) (.cons (.if_ (.cmp .eq (.var 2) (.str 44)) (.cons (.ret (.idx (.var 0) (.int 1))) .nil) .nil) (.cons (.if_ (.cmp .eq (.var 2) (.str 45)) (.cons (.ret (.idx (.idx (.var 1) (.idx (.idx (.var 0) (.int 1)) (.int 0))) (.idx (.idx (.var 0) (.int 1)) (.int 1)))) .nil) .nil) (.cons (.if_ (.cmp .eq (.var 2) (.str 46)) (.cons (.ret (.not_ (.call 42 (.cons (.idx (.var 0) (.int 1)) (.cons (.var 1) .nil))))) .nil) .nil) (.cons (.asg (.nm 3) (.call 42 (.cons (.idx (.var 0) (.int 1)) (.cons (.var 1) .nil)))) (.cons (.asg (.nm 4) (.call 42 (.cons (.idx (.var 0) (.int 2)) (.cons (.var 1) .nil)))) (.cons (.if_ (.cmp .eq (.var 2) (.str 47)) (.cons (.ret (.and_ (.cons (.var 3) (.cons (.var 4) .nil)))) .nil) .nil) (.cons (.if_ (.cmp .eq (.var 2) (.str 48)) (.cons (.ret (.or_ (.cons (.var 3) (.cons (.var 4) .nil)))) .nil) .nil) (.cons (.ret (.cmp .eq (.var 3) (.var 4))) .nil))))))))), true⟩
/-- with_value: 43 -/
def d_with_value : FDef := ⟨3, 5, (.cons (.asg (.nm 3) (.dcopy (.var 0))) (.cons (.asg (.nm 4) (.alloc (.copy (.idx (.var 0) (.idx (.var 1) (.int 0)))))) (.cons (.sub (.var 4) (.idx (.var 1) (.int 1)) (.var 2)) (.cons (.sub (.var 3) (.idx (.var 1) (.int 0)) (.blt .tuple (.cons (.var 4) .nil))) (.cons (.ret (.var 3)) .nil))))), true⟩
/-- law#2: 44 -/
def d_law_2 : FDef := ⟨1, 7, (.cons (.asg (.nm 1) (.call 1 (.cons (.var 0) (.cons (.int 27) .nil)))) (.cons (.asg (.nm 2) (.call 2 (.cons (.var 1) (.cons (.int 9) (.cons (.bl true) .nil))))) (.cons (.asg (.nm 3) (.call 45 (.cons (.var 2) .nil))) (.cons (.asg (.nm 4) (.call 4 (.cons (.make true 0 (.cons (.idx (.var 2) (.int 0)) (.cons (.idx (.var 2) (.int 1)) .nil))) .nil))) (.cons (.if_ (.or_ (.cons (.not_ (.isC (.var 4) 3)) (.cons (.cmp .ne (.fld (.var 4) 21) (.idx (.lst (.disp (.cons (.int 1) (.cons (.int 2) (.cons (.int 4) (.cons (.int 8) .nil)))))) (.idx (.var 2) (.int 0)))) .nil))) (.cons (.ret (.bl false)) .nil) .nil) (.cons (.if_ (.cmp .ne (.fld (.var 4) 22) (.blt .len (.cons (.call 46 (.cons (.var 2) (.cons (.var 3) .nil))) .nil))) (.cons (.ret (.bl false)) .nil) .nil) (.cons (.asg (.nm 5) (.comp true [6] (.nm 6) (.seq (.fld (.var 4) 4)) .nil (.tup (.cons (.fld (.var 6) 25) (.cons (.fld (.var 6) 24) (.cons (.fld (.var 6) 7) (.cons (.fld (.var 6) 8) (.cons (.fld (.var 6) 41) .nil)))))))) (.cons (.ret (.cmp .eq (.var 5) (.call 47 (.cons (.var 2) (.cons (.var 3) .nil))))) .nil)))))))), true⟩
/-- _law_table: 45 -/
def d__law_table : FDef := ⟨1, 6, (.cons (.asg (.nm 1) (.op .dnew .nil)) (.cons (.asg (.nm 2) (.alloc (.disp .nil))) (.cons (.asg (.nm 3) (.int 0)) (.cons (.for_ (.nm 4) (.rng1 (.blt .len (.cons (.idx (.var 0) (.int 1)) .nil))) (.cons (.asg (.nm 5) (.call 48 (.cons (.idx (.idx (.idx (.var 0) (.int 1)) (.var 4)) (.int 1)) .nil))) (.cons (.expr (.bm .append (.var 2) (.cons (.var 3) .nil))) (.cons (.expr (.call 49 (.cons (.var 1) (.cons (.idx (.idx (.idx (.var 0) (.int 1)) (.var 4)) (.int 1)) (.cons (.var 4) (.cons (.var 3) (.cons (.bin .add (.var 3) (.var 5)) .nil))))))) (.cons (.sub (.var 1) (.bin .add (.var 3) (.var 5)) (.lst (.disp (.cons (.var 4) (.cons .non (.cons .non (.cons (.lst (.disp .nil)) .nil))))))) (.cons (.asg (.nm 3) (.bin .add (.bin .add (.var 3) (.var 5)) (.int 1))) .nil)))))) (.cons (.ret (.lst (.disp (.cons (.var 1) (.cons (.var 2) .nil))))) .nil))))), true⟩
/-- _law_frames: 46 -/
def d__law_frames : FDef := ⟨2, 5, (.cons (.asg (.nm 2) (.alloc (.disp .nil))) (.cons (.for_ (.nm 3) (.rng1 (.blt .len (.cons (.idx (.var 1) (.int 0)) .nil))) (.cons (.for_ (.nm 4) (.rng1 (.idx (.lst (.disp (.cons (.int 1) (.cons (.int 2) (.cons (.int 4) (.cons (.int 8) .nil)))))) (.idx (.idx (.idx (.var 0) (.int 1)) (.idx (.idx (.idx (.var 1) (.int 0)) (.var 3)) (.int 0))) (.int 0)))) (.cons (.expr (.bm .append (.var 2) (.cons (.tup (.cons (.var 3) (.cons (.call 50 (.cons (.var 4) (.cons (.idx (.idx (.idx (.var 0) (.int 1)) (.idx (.idx (.idx (.var 1) (.int 0)) (.var 3)) (.int 0))) (.int 0)) .nil))) .nil))) .nil))) .nil)) .nil)) (.cons (.ret (.var 2)) .nil))), true⟩
/-- _law_steps: 47 -/
def d__law_steps : FDef := ⟨2, 9, (.cons (.asg (.nm 2) (.call 46 (.cons (.var 0) (.cons (.var 1) .nil)))) (.cons (.asg (.nm 3) (.alloc (.disp .nil))) (.cons (.for_ (.nm 4) (.rng1 (.blt .len (.cons (.var 2) .nil))) (.cons (.for_ (.nm 5) (.rng1 (.idx (.lst (.disp (.cons (.int 1) (.cons (.int 2) (.cons (.int 4) (.cons (.int 8) .nil)))))) (.idx (.var 0) (.int 0)))) (.cons (.for_ (.nm 6) (.seq (.call 51 (.cons (.var 0) (.cons (.var 1) (.cons (.tup (.cons (.call 50 (.cons (.var 5) (.cons (.idx (.var 0) (.int 0)) .nil))) (.cons (.tup (.cons (.idx (.var 2) (.var 4)) .nil)) .nil))) .nil))))) (.cons (.asg (.nm 7) (.blt .tuple (.cons (.comp true [8] (.nm 8) (.seq (.idx (.var 6) (.int 1))) .nil (.bm .index (.var 2) (.cons (.var 8) .nil))) .nil))) (.cons (.expr (.bm .append (.var 3) (.cons (.tup (.cons (.var 5) (.cons (.var 4) (.cons (.call 52 (.cons (.idx (.var 6) (.int 0)) .nil)) (.cons (.var 7) (.cons (.int 1) .nil)))))) .nil))) .nil))) .nil)) .nil)) (.cons (.ret (.var 3)) .nil)))), true⟩
/-- _law_size: 48 -/
def d__law_size : FDef := ⟨1, 4, (.cons (.asg (.nm 1) (.int 0)) (.cons (.for_ (.nm 2) (.seq (.var 0)) (.cons (.asg (.nm 1) (.bin .add (.bin .add (.var 1) (.int 1)) (.blt .sum (.cons (.comp true [3] (.nm 3) (.seq (.call 53 (.cons (.var 2) .nil))) .nil (.call 48 (.cons (.var 3) .nil))) .nil)))) .nil)) (.cons (.ret (.var 1)) .nil))), true⟩
/-- _law_bits: 50 -/
def d__law_bits : FDef := ⟨2, 4, (.cons (.asg (.nm 2) (.alloc (.disp .nil))) (.cons (.for_ (.nm 3) (.rng1 (.var 1)) (.cons (.expr (.bm .append (.var 2) (.cons (.cmp .eq (.bin .mod (.var 0) (.int 2)) (.int 1)) .nil))) (.cons (.asg (.nm 0) (.bin .fdiv (.var 0) (.int 2))) .nil))) (.cons (.ret (.blt .tuple (.cons (.var 2) .nil))) .nil))), true⟩
/-- _law_after: 51 -/
def d__law_after : FDef := ⟨3, 11, (.cons (.if_ (.cmp .eq (.blt .len (.cons (.idx (.var 2) (.int 1)) .nil)) (.int 0)) (.cons (.ret (.lst (.disp .nil))) .nil) .nil) (.cons (.asg (.nm 3) (.idx (.idx (.var 2) (.int 1)) (.int 0))) (.cons (.asg (.nm 4) (.sl (.idx (.var 2) (.int 1)) (.int 1) .omit)) (.cons (.asg (.nm 5) (.idx (.idx (.var 1) (.int 0)) (.idx (.var 3) (.int 0)))) (.cons (.asg (.nm 6) (.lst (.disp (.cons (.idx (.var 2) (.int 0)) (.cons (.idx (.var 3) (.int 1)) .nil))))) (.cons (.if_ (.or_ (.cons (.cmp .isN (.idx (.var 5) (.int 1)) .non) (.cons (.cmp .eq (.idx (.idx (.var 5) (.int 1)) (.int 0)) (.str 27)) .nil))) (.cons (.ret (.lst (.disp (.cons (.tup (.cons (.idx (.var 2) (.int 0)) (.cons (.var 4) .nil))) .nil)))) .nil) .nil) (.cons (.asg (.nm 7) (.idx (.idx (.var 5) (.int 1)) (.int 0))) (.cons (.if_ (.cmp .eq (.var 7) (.str 28)) (.cons (.ret (.lst (.disp (.cons (.tup (.cons (.idx (.var 2) (.int 0)) (.cons (.bin .add (.tup (.cons (.call 54 (.cons (.var 0) (.cons (.var 1) (.cons (.idx (.idx (.var 5) (.int 1)) (.int 1)) .nil)))) (.cons (.tup (.cons (.idx (.var 5) (.int 2)) (.cons (.idx (.var 3) (.int 1)) .nil))) .nil))) (.var 4)) .nil))) .nil)))) .nil) .nil) (.cons (.asg (.nm 8) (.lst (.disp (.cons (.tup (.cons (.idx (.var 5) (.int 2)) (.cons (.var 6) .nil))) .nil)))) (.cons (.if_ (.cmp .eq (.var 7) (.str 31)) (.cons (.asg (.nm 8) (.lst (.disp (.cons (.tup (.cons (.idx (.var 5) (.int 2)) (.cons (.call 55 (.cons (.var 6) (.cons (.idx (.idx (.var 5) (.int 1)) (.int 1)) (.cons (.call 56 (.cons (.idx (.idx (.var 5) (.int 1)) (.int 2)) (.cons (.var 6) .nil))) .nil)))) .nil))) .nil)))) .nil) .nil) (.cons (.if_ (.cmp .eq (.var 7) (.str 32)) (.cons (.asg (.nm 8) (.comp true [9] (.nm 9) (.seq (.lst (.disp (.cons (.bl false) (.cons (.bl true) .nil))))) .nil (.tup (.cons (.idx (.var 5) (.int 2)) (.cons (.call 55 (.cons (.var 6) (.cons (.idx (.idx (.var 5) (.int 1)) (.int 1)) (.cons (.var 9) .nil)))) .nil))))) .nil) .nil) (.cons (.if_ (.cmp .eq (.var 7) (.str 34)) (.cons (.asg (.nm 8) (.lst (.disp (.cons (.tup (.cons (.idx (.idx (.var 5) (.int 3)) (.bin .sub (.int 1) (.blt .int (.cons (.call 56 (.cons (.idx (.idx (.var 5) (.int 1)) (.int 1)) (.cons (.var 6) .nil))) .nil)))) (.cons (.var 6) .nil))) .nil)))) .nil) .nil) (.cons (.if_ (.cmp .eq (.var 7) (.str 35)) (.cons (.asg (.nm 8) (.lst (.disp (.cons (.tup (.cons (.idx (.idx (.var 5) (.int 3)) (.int 0)) (.cons (.var 6) .nil))) (.cons (.tup (.cons (.idx (.idx (.var 5) (.int 3)) (.int 1)) (.cons (.var 6) .nil))) .nil))))) .nil) .nil) (.cons (.if_ (.and_ (.cons (.cmp .eq (.var 7) (.str 36)) (.cons (.call 56 (.cons (.idx (.idx (.var 5) (.int 1)) (.int 1)) (.cons (.var 6) .nil))) .nil))) (.cons (.asg (.nm 8) (.lst (.disp (.cons (.tup (.cons (.idx (.idx (.var 5) (.int 3)) (.int 0)) (.cons (.var 6) .nil))) .nil)))) .nil) .nil) (.cons (.if_ (.cmp .eq (.var 7) (.str 37)) (.cons (.asg (.nm 8) (.lst (.disp (.cons (.tup (.cons (.idx (.idx (.var 5) (.int 3)) (.int 0)) (.cons (.var 6) .nil))) (.cons (.tup (.cons (.idx (.var 5) (.int 2)) (.cons (.var 6) .nil))) .nil))))) .nil) .nil) (.cons (.ret (.comp true [10] (.nm 10) (.seq (.var 8)) .nil (.tup (.cons (.idx (.idx (.var 10) (.int 1)) (.int 0)) (.cons (.bin .add (.tup (.cons (.tup (.cons (.idx (.var 10) (.int 0)) (.cons (.idx (.idx (.var 10) (.int 1)) (.int 1)) .nil))) .nil)) (.var 4)) .nil))))) .nil)))))))))))))))), true⟩
/-- _law_sum: 52 -/
def d__law_sum : FDef := ⟨1, 3, (.cons (.asg (.nm 1) (.int 0)) (.cons (.for_ (.nm 2) (.seq (.op .revT (.cons (.var 0) .nil))) (.cons (.asg (.nm 1) (.bin .add (.bin .mul (.int 2) (.var 1)) (.blt .int (.cons (.var 2) .nil)))) .nil)) (.cons (.ret (.var 1)) .nil))), true⟩
/-- _law_bodies: 53 -/
def d__law_bodies : FDef := ⟨1, 1, (.cons (.if_ (.cmp .eq (.idx (.var 0) (.int 0)) (.str 34)) (.cons (.ret (.lst (.disp (.cons (.idx (.var 0) (.int 2)) (.cons (.idx (.var 0) (.int 3)) .nil))))) .nil) .nil) (.cons (.if_ (.cmp .eq (.idx (.var 0) (.int 0)) (.str 35)) (.cons (.ret (.lst (.disp (.cons (.idx (.var 0) (.int 1)) (.cons (.idx (.var 0) (.int 2)) .nil))))) .nil) .nil) (.cons (.if_ (.cmp .in_ (.idx (.var 0) (.int 0)) (.lst (.disp (.cons (.str 36) (.cons (.str 37) .nil))))) (.cons (.ret (.lst (.disp (.cons (.idx (.var 0) (.bin .sub (.blt .len (.cons (.var 0) .nil)) (.int 1))) .nil)))) .nil) .nil) (.cons (.ret (.lst (.disp .nil))) .nil)))), true⟩
/-- _law_frame: 54 -/
def d__law_frame : FDef := ⟨3, 4, (.cons (.ret (.tup (.cons (.idx (.idx (.var 1) (.int 1)) (.var 2)) (.cons (.blt .tuple (.cons (.comp true [3] (.nm 3) (.rng1 (.idx (.idx (.idx (.var 0) (.int 1)) (.var 2)) (.int 0))) .nil (.bl false)) .nil)) .nil)))) .nil), true⟩
/-- _law_value: 56 -/
def d__law_value : FDef := ⟨2, 5, (.cons (.asg (.nm 2) (.idx (.var 0) (.int 0))) (.cons (.if_ (.cmp .eq (.var 2) (.str 44)) (.cons (.ret (.idx (.var 0) (.int 1))) .nil) .nil) (.cons (.if_ (.cmp .eq (.var 2) (.str 45)) (.cons (.ret (.idx (.idx (.var 1) (.blt .int (.cons (.cmp .eq (.idx (.idx (.var 0) (.int 1)) (.int 0)) (.str 12)) .nil))) (.idx (.idx (.var 0) (.int 1)) (.int 1)))) .nil) .nil) (.cons (.asg (.nm 3) (.comp true [4] (.nm 4) (.seq (.sl (.var 0) (.int 1) .omit)) .nil (.call 56 (.cons (.var 4) (.cons (.var 1) .nil))))) (.cons (.if_ (.cmp .eq (.var 2) (.str 46)) (.cons (.ret (.not_ (.idx (.var 3) (.int 0)))) .nil) .nil) (.cons (.if_ (.cmp .eq (.var 2) (.str 47)) (.cons (.ret (.and_ (.cons (.idx (.var 3) (.int 0)) (.cons (.idx (.var 3) (.int 1)) .nil)))) .nil) .nil) (.cons (.if_ (.cmp .eq (.var 2) (.str 48)) (.cons (.ret (.or_ (.cons (.idx (.var 3) (.int 0)) (.cons (.idx (.var 3) (.int 1)) .nil)))) .nil) .nil) (.cons (.ret (.cmp .eq (.idx (.var 3) (.int 0)) (.idx (.var 3) (.int 1)))) .nil)))))))), true⟩
/-- _law_fill: 49 -/
def d__law_fill : FDef := ⟨5, 12, (.cons (.for_ (.nm 5) (.rng1 (.blt .len (.cons (.var 1) .nil))) (.cons (.asg (.nm 6) (.call 48 (.cons (.lst (.disp (.cons (.idx (.var 1) (.var 5)) .nil))) .nil))) (.cons (.asg (.nm 7) (.var 4)) (.cons (.if_ (.cmp .lt (.bin .add (.var 5) (.int 1)) (.blt .len (.cons (.var 1) .nil))) (.cons (.asg (.nm 7) (.bin .add (.var 3) (.var 6))) .nil) .nil) (.cons (.asg (.nm 8) (.var 7)) (.cons (.if_ (.cmp .in_ (.idx (.idx (.var 1) (.var 5)) (.int 0)) (.lst (.disp (.cons (.str 36) (.cons (.str 37) .nil))))) (.cons (.asg (.nm 8) (.var 3)) .nil) .nil) (.cons (.asg (.nm 9) (.alloc (.disp .nil))) (.cons (.asg (.nm 10) (.bin .add (.var 3) (.int 1))) (.cons (.for_ (.nm 11) (.seq (.call 53 (.cons (.idx (.var 1) (.var 5)) .nil))) (.cons (.expr (.bm .append (.var 9) (.cons (.var 10) .nil))) (.cons (.if_ (.cmp .eq (.blt .len (.cons (.var 11) .nil)) (.int 0)) (.cons (.sub (.var 9) (.neg (.int 1)) (.var 8)) .nil) .nil) (.cons (.expr (.call 49 (.cons (.var 0) (.cons (.var 11) (.cons (.var 2) (.cons (.var 10) (.cons (.var 8) .nil))))))) (.cons (.asg (.nm 10) (.bin .add (.var 10) (.call 48 (.cons (.var 11) .nil)))) .nil))))) (.cons (.sub (.var 0) (.var 3) (.lst (.disp (.cons (.var 2) (.cons (.idx (.var 1) (.var 5)) (.cons (.var 7) (.cons (.var 9) .nil))))))) (.cons (.asg (.nm 3) (.bin .add (.var 3) (.var 6))) .nil))))))))))) .nil), false⟩
/-- _law_with: 55 -/
def d__law_with : FDef := ⟨3, 4, (.cons (.asg (.nm 3) (.lst (.disp (.cons (.alloc (.copy (.idx (.var 0) (.int 0)))) (.cons (.alloc (.copy (.idx (.var 0) (.int 1)))) .nil))))) (.cons (.sub (.idx (.var 3) (.blt .int (.cons (.cmp .eq (.idx (.var 1) (.int 0)) (.str 12)) .nil))) (.idx (.var 1) (.int 1)) (.var 2)) (.cons (.ret (.lst (.disp (.cons (.blt .tuple (.cons (.idx (.var 3) (.int 0)) .nil)) (.cons (.blt .tuple (.cons (.idx (.var 3) (.int 1)) .nil)) .nil))))) .nil))), true⟩
/-- law#3: 57 -/
def d_law_3 : FDef := ⟨1, 12, (.cons (.asg (.nm 1) (.call 1 (.cons (.var 0) (.cons (.int 40) .nil)))) (.cons (.asg (.nm 2) (.call 2 (.cons (.var 1) (.cons (.int 10) (.cons (.bl true) .nil))))) (.cons (.asg (.nm 3) (.make true 0 (.cons (.idx (.var 2) (.int 0)) (.cons (.idx (.var 2) (.int 1)) .nil)))) (.cons (.asg (.nm 4) (.call 45 (.cons (.var 2) .nil))) (.cons (.asg (.nm 5) (.alloc (.disp .nil))) (.cons (.for_ (.nm 6) (.rng1 (.bin .add (.bin .mod (.idx (.var 1) (.int 30)) (.int 3)) (.int 1))) (.cons (.asg (.nm 7) (.bin .mod (.idx (.var 1) (.bin .add (.int 31) (.var 6))) (.blt .len (.cons (.idx (.var 4) (.int 0)) .nil)))) (.cons (.expr (.bm .append (.var 5) (.cons (.tup (.cons (.var 7) (.cons (.call 50 (.cons (.idx (.var 1) (.bin .add (.int 34) (.var 6))) (.cons (.idx (.idx (.idx (.var 2) (.int 1)) (.idx (.idx (.idx (.var 4) (.int 0)) (.var 7)) (.int 0))) (.int 0)) .nil))) .nil))) .nil))) .nil))) (.cons (.asg (.nm 8) (.tup (.cons (.call 50 (.cons (.idx (.var 1) (.int 38)) (.cons (.idx (.var 2) (.int 0)) .nil))) (.cons (.blt .tuple (.cons (.var 5) .nil)) .nil)))) (.cons (.if_ (.cmp .ne (.call 9 (.cons (.var 3) (.cons (.var 8) .nil))) (.call 51 (.cons (.var 2) (.cons (.var 4) (.cons (.var 8) .nil))))) (.cons (.ret (.bl false)) .nil) .nil) (.cons (.asg (.nm 9) (.call 6 (.cons (.var 3) (.cons (.var 8) .nil)))) (.cons (.asg (.nm 10) (.comp true [11] (.nm 11) (.seq (.var 5)) .nil (.call 58 (.cons (.var 2) (.cons (.var 4) (.cons (.var 11) .nil)))))) (.cons (.if_ (.or_ (.cons (.not_ (.isT (.var 9) 0)) (.cons (.cmp .ne (.var 9) (.tup (.cons (.call 52 (.cons (.idx (.var 8) (.int 0)) .nil)) (.cons (.blt .tuple (.cons (.var 10) .nil)) .nil)))) .nil))) (.cons (.ret (.bl false)) .nil) .nil) (.cons (.ret (.rep false (.call 10 (.cons (.var 3) (.cons (.var 9) .nil))) (.var 8))) .nil)))))))))))), true⟩
/-- _law_letter: 58 -/
def d__law_letter : FDef := ⟨3, 5, (.cons (.asg (.nm 3) (.call 52 (.cons (.idx (.var 2) (.int 1)) .nil))) (.cons (.for_ (.nm 4) (.rng1 (.idx (.var 2) (.int 0))) (.cons (.asg (.nm 3) (.bin .add (.var 3) (.idx (.lst (.disp (.cons (.int 1) (.cons (.int 2) (.cons (.int 4) (.cons (.int 8) .nil)))))) (.idx (.idx (.idx (.var 0) (.int 1)) (.idx (.idx (.idx (.var 1) (.int 0)) (.var 4)) (.int 0))) (.int 0))))) .nil)) (.cons (.ret (.var 3)) .nil))), true⟩
/-- law#4: 59 -/
def d_law_4 : FDef := ⟨1, 9, (.cons (.asg (.nm 1) (.call 1 (.cons (.var 0) (.cons (.int 40) .nil)))) (.cons (.asg (.nm 2) (.call 2 (.cons (.var 1) (.cons (.int 10) (.cons (.bl true) .nil))))) (.cons (.if_ (.cmp .eq (.bin .mod (.idx (.var 1) (.int 38)) (.int 8)) (.int 1)) (.cons (.asg (.nm 2) (.call 60 (.cons (.var 1) .nil))) .nil) .nil) (.cons (.asg (.nm 3) (.make true 0 (.cons (.idx (.var 2) (.int 0)) (.cons (.idx (.var 2) (.int 1)) .nil)))) (.cons (.asg (.nm 4) (.call 45 (.cons (.var 2) .nil))) (.cons (.asg (.nm 5) (.call 5 (.cons (.var 3) .nil))) (.cons (.if_ (.or_ (.cons (.not_ (.isT (.var 5) 0)) (.cons (.rep true (.var 5) (.call 61 (.cons (.var 2) (.cons (.var 4) .nil)))) .nil))) (.cons (.ret (.bl false)) .nil) .nil) (.cons (.for_ (.nm 6) (.rng1 (.bin .add (.bin .mod (.idx (.var 1) (.int 39)) (.int 13)) (.bin .mul (.int 30) (.blt .int (.cons (.cmp .eq (.bin .mod (.idx (.var 1) (.int 38)) (.int 8)) (.int 1)) .nil))))) (.cons (.asg (.nm 7) (.call 51 (.cons (.var 2) (.cons (.var 4) (.cons (.var 5) .nil))))) (.cons (.asg (.nm 8) (.call 62 (.cons (.var 3) (.cons (.var 5) .nil)))) (.cons (.if_ (.or_ (.cons (.not_ (.isT (.var 8) 1)) (.cons (.cmp .ne (.var 8) (.var 7)) (.cons (.rep true (.var 8) (.var 7)) .nil)))) (.cons (.ret (.bl false)) .nil) .nil) (.cons (.expr (.bm .append (.var 8) (.cons (.var 5) .nil))) (.cons (.if_ (.cmp .ne (.call 62 (.cons (.var 3) (.cons (.var 5) .nil))) (.var 7)) (.cons (.ret (.bl false)) .nil) .nil) (.cons (.if_ (.cmp .gt (.blt .len (.cons (.var 7) .nil)) (.int 0)) (.cons (.asg (.nm 5) (.idx (.var 7) (.bin .mod (.bin .fdiv (.idx (.var 1) (.bin .add (.int 27) (.bin .mod (.var 6) (.int 13)))) (.bin .add (.int 1) (.bin .fdiv (.var 6) (.int 13)))) (.blt .len (.cons (.var 7) .nil))))) .nil) .nil) .nil))))))) (.cons (.ret (.cmp .eq (.call 62 (.cons (.var 3) (.cons (.tup (.cons (.idx (.var 5) (.int 0)) (.cons (.tup .nil) .nil))) .nil))) (.lst (.disp .nil)))) .nil))))))))), true⟩
/-- _law_deep: 60 -/
def d__law_deep : FDef := ⟨1, 6, (.cons (.asg (.nm 1) (.bin .add (.bin .mod (.idx (.var 0) (.int 37)) (.int 18)) (.int 1))) (.cons (.asg (.nm 2) (.tup (.cons (.str 33) (.cons (.int 7) .nil)))) (.cons (.for_ (.nm 3) (.rng1 (.var 1)) (.cons (.asg (.nm 4) (.tup (.cons (.str 44) (.cons (.cmp .gt (.bin .mod (.bin .fdiv (.idx (.var 0) (.int 36)) (.bin .add (.var 3) (.int 1))) (.int 3)) (.int 0)) .nil)))) (.cons (.asg (.nm 5) (.lst (.disp (.cons (.tup (.cons (.str 34) (.cons (.var 4) (.cons (.tup (.cons (.var 2) .nil)) (.cons (.tup .nil) .nil))))) (.cons (.tup (.cons (.str 35) (.cons (.tup .nil) (.cons (.tup (.cons (.var 2) .nil)) .nil)))) (.cons (.tup (.cons (.str 36) (.cons (.var 4) (.cons (.tup (.cons (.var 2) .nil)) .nil)))) (.cons (.tup (.cons (.str 37) (.cons (.tup (.cons (.var 2) .nil)) .nil))) .nil))))))) (.cons (.asg (.nm 2) (.idx (.lst (.cat (.var 5) (.lst (.disp (.cons (.tup (.cons (.str 34) (.cons (.tup (.cons (.str 46) (.cons (.var 4) .nil))) (.cons (.tup .nil) (.cons (.tup (.cons (.var 2) (.cons (.tup (.cons (.str 27) .nil)) .nil))) .nil))))) .nil))))) (.bin .mod (.bin .fdiv (.idx (.var 0) (.int 35)) (.bin .add (.var 3) (.int 1))) (.int 5)))) .nil)))) (.cons (.ret (.lst (.disp (.cons (.int 1) (.cons (.lst (.disp (.cons (.tup (.cons (.int 0) (.cons (.tup (.cons (.var 2) (.cons (.tup (.cons (.str 32) (.cons (.tup (.cons (.str 11) (.cons (.int 0) .nil))) .nil))) .nil))) .nil))) .nil))) .nil))))) .nil)))), true⟩
/-- _law_first: 61 -/
def d__law_first : FDef := ⟨2, 3, (.cons (.ret (.tup (.cons (.blt .tuple (.cons (.comp true [2] (.nm 2) (.rng1 (.idx (.var 0) (.int 0))) .nil (.bl false)) .nil)) (.cons (.tup (.cons (.call 54 (.cons (.var 0) (.cons (.var 1) (.cons (.int 0) .nil)))) .nil)) .nil)))) .nil), true⟩
/-- after!: 62 -/
def d_after_ : FDef := ⟨2, 6, (.cons (.asg (.tp [(.nm 2), (.nm 3)]) (.var 1)) (.cons (.if_ (.cmp .eq (.blt .len (.cons (.var 3) .nil)) (.int 0)) (.cons (.ret (.alloc (.disp .nil))) .nil) .nil) (.cons (.ret (.comp false [4, 5] (.tp [(.nm 4), (.nm 5)]) (.seq (.meth (.make true 4 (.cons (.var 0) .nil)) 9 (.cons (.var 2) (.cons (.idx (.var 3) (.int 0)) .nil)))) .nil (.tup (.cons (.var 4) (.cons (.bin .add (.var 5) (.sl (.var 3) (.int 1) .omit)) .nil))))) .nil))), false⟩
def tg (i : Nat) : Str := match tgs[i]? with | some s => s | none => ⟨#[2000000 + i]⟩
theorem tgs_low : (tgs.all fun s => s.cps.all (· < 2000000)) = true := by decide +kernel
theorem tgs_nd : tgs.Nodup := by decide +kernel
theorem tg_inj : ∀ i j, tg i = tg j → i = j := by
  intro i j h
  unfold tg at h
  have low : ∀ {i : Nat} {s : Str} {n : Nat}, tgs[i]? = some s → s ≠ ⟨#[2000000 + n]⟩ := fun {i s n} e z => by
    have := List.all_eq_true.mp tgs_low s (List.mem_of_getElem? e)
    subst z
    simp at this
    omega
  cases a : tgs[i]? with
  | none =>
    cases b : tgs[j]? with
    | none =>
      rw [a, b] at h
      simp only [Str.mk.injEq, List.cons.injEq, Array.mk.injEq] at h
      omega
    | some s =>
      rw [a, b] at h
      exact absurd h.symm (low b)
  | some s =>
    cases b : tgs[j]? with
    | none =>
      rw [a, b] at h
      exact absurd h (low a)
    | some s' =>
      rw [a, b] at h
      dsimp only at h
      subst h
      obtain ⟨h1, e1⟩ := List.getElem?_eq_some_iff.mp a
      obtain ⟨h2, e2⟩ := List.getElem?_eq_some_iff.mp b
      exact (List.getElem_inj tgs_nd).mp (e1.trans e2.symm)

end Eng

set_option Elab.async false
set_option linter.all false
set_option maxRecDepth 100000
set_option maxHeartbeats 4000000
/-! the program of law_k72_situations_that_follow -/
namespace L72
open PySem L2 Eng
def top (i : Nat) : Stmt := PySem.Challenge.pw_pilereach_k72_situations_that_follow.main.body.getD i (.Pass ⟨0, 0, 0, 0⟩)
abbrev s59 : Stmt := top 36 -- law
abbrev s1 : Stmt := top 19 -- _law_numbers
abbrev s2 : Stmt := top 25 -- _law_program
abbrev s60 : Stmt := top 35 -- _law_deep
abbrev s3 : Stmt := inClass (top 7) 0 -- Program.__init__
abbrev s45 : Stmt := top 29 -- _law_table
abbrev s5 : Stmt := top 16 -- begin
abbrev s61 : Stmt := top 33 -- _law_first
abbrev s51 : Stmt := top 34 -- _law_after
abbrev s62 : Stmt := top 17 -- after
abbrev s11 : Stmt := top 20 -- _law_pick
abbrev s12 : Stmt := top 23 -- _law_body
abbrev s13 : Stmt := inClass (top 6) 0 -- Scope.__init__
abbrev s14 : Stmt := inClass (top 6) 4 -- Scope.are_right
abbrev s48 : Stmt := top 27 -- _law_size
abbrev s49 : Stmt := top 28 -- _law_fill
abbrev s19 : Stmt := inClass (top 15) 0 -- Walker.__init__
abbrev s20 : Stmt := top 14 -- no_values
abbrev s21 : Stmt := inClass (top 15) 1 -- Walker.entry_frame
abbrev s54 : Stmt := top 32 -- _law_frame
abbrev s55 : Stmt := top 31 -- _law_with
abbrev s56 : Stmt := top 30 -- _law_value
abbrev s25 : Stmt := inClass (top 15) 3 -- Walker.after
abbrev s27 : Stmt := top 24 -- _law_statement
abbrev s28 : Stmt := inClass (top 6) 3 -- Scope.is_right
abbrev s29 : Stmt := top 5 -- bodies
abbrev s53 : Stmt := top 26 -- _law_bodies
abbrev s32 : Stmt := inClass (top 10) 0 -- Points.__init__
abbrev s34 : Stmt := inClass (top 15) 2 -- Walker.goals
abbrev s35 : Stmt := top 21 -- _law_variable
abbrev s36 : Stmt := top 22 -- _law_expression
abbrev s37 : Stmt := inClass (top 6) 1 -- Scope.has_variable
abbrev s38 : Stmt := inClass (top 6) 2 -- Scope.has_variables
abbrev s39 : Stmt := inClass (top 10) 1 -- Points.add_body
abbrev s40 : Stmt := inClass (top 9) 0 -- Point.__init__
abbrev s41 : Stmt := inClass (top 10) 2 -- Points.link
abbrev s42 : Stmt := top 12 -- value_of
abbrev s43 : Stmt := top 13 -- with_value
def pfn : Nat → Option FDef
  | 1 => some d__law_numbers
  | 2 => some d__law_program
  | 3 => some d_Program___init__
  | 5 => some d_begin
  | 11 => some d__law_pick
  | 12 => some d__law_body
  | 13 => some d_Scope___init__
  | 14 => some d_Scope_are_right
  | 19 => some d_Walker___init__
  | 20 => some d_no_values
  | 21 => some d_Walker_entry_frame
  | 25 => some d_Walker_after
  | 27 => some d__law_statement
  | 28 => some d_Scope_is_right
  | 29 => some d_bodies
  | 32 => some d_Points___init__
  | 34 => some d_Walker_goals
  | 35 => some d__law_variable
  | 36 => some d__law_expression
  | 37 => some d_Scope_has_variable
  | 38 => some d_Scope_has_variables
  | 39 => some d_Points_add_body
  | 40 => some d_Point___init__
  | 41 => some d_Points_link
  | 42 => some d_value_of
  | 43 => some d_with_value
  | 45 => some d__law_table
  | 48 => some d__law_size
  | 49 => some d__law_fill
  | 51 => some d__law_after
  | 53 => some d__law_bodies
  | 54 => some d__law_frame
  | 55 => some d__law_with
  | 56 => some d__law_value
  | 59 => some d_law_4
  | 60 => some d__law_deep
  | 61 => some d__law_first
  | 62 => some d_after_
  | _ => none
def pmeth : Nat → Nat → Option Nat
  | 1, 0 => some 14
  | 4, 5 => some 21
  | 4, 9 => some 25
  | 1, 14 => some 28
  | 4, 30 => some 34
  | 1, 38 => some 37
  | 1, 39 => some 38
  | 6, 42 => some 39
  | 6, 43 => some 41
  | _, _ => none
def pinit : Nat → Option Nat
  | 0 => some 3
  | 1 => some 13
  | 4 => some 19
  | 6 => some 32
  | 7 => some 40
  | _ => none
def psub : Nat → Nat → Option Bool := fun _ _ => none
def pgc : Nat → Option W
  | 40 => some (.int 999)
  | _ => none
def pgname : Nat → Option Nat
  | 59 => some 50
  | 1 => some 51
  | 2 => some 52
  | 60 => some 94
  | 45 => some 81
  | 5 => some 54
  | 61 => some 95
  | 51 => some 87
  | 62 => some 9
  | 11 => some 59
  | 12 => some 60
  | 48 => some 84
  | 49 => some 85
  | 20 => some 62
  | 54 => some 90
  | 55 => some 91
  | 56 => some 92
  | 27 => some 66
  | 29 => some 67
  | 53 => some 89
  | 35 => some 69
  | 36 => some 70
  | 42 => some 71
  | 43 => some 72
  | _ => none
def pcname : Nat → Option Nat
  | 0 => some 73
  | 1 => some 74
  | 4 => some 77
  | 6 => some 79
  | 7 => some 80
  | _ => none
def pisF : Nat → Nat → Bool
  | 0, 1 => true
  | 0, 2 => true
  | 1, 10 => true
  | 1, 13 => true
  | 4, 15 => true
  | 4, 18 => true
  | 6, 19 => true
  | 6, 23 => true
  | 7, 20 => true
  | 7, 26 => true
  | 7, 23 => true
  | 7, 29 => true
  | _, _ => false
def pdfl : Nat → List W

  | _ => []
def pg : Prog := ⟨pfn, pmeth, pinit, psub, tg, pgc, pgname, pcname, pisF, pdfl⟩
def n59 : List Str := [Str.ofString "_law_script", Str.ofString "_law_numbers_here", Str.ofString "_law_program_here", Str.ofString "_law_made", Str.ofString "_law_told", Str.ofString "_law_situation", Str.ofString "_law_k", Str.ofString "_law_due", Str.ofString "_law_found"]
def q59 : List Str := [Str.ofString "_law_script"]
def n1 : List Str := [Str.ofString "_law_script", Str.ofString "_law_count", Str.ofString "_law_rest", Str.ofString "_law_by_digits", Str.ofString "_law_numbers_here", Str.ofString "_law_k", Str.ofString "_law_cell"]
def q1 : List Str := [Str.ofString "_law_script", Str.ofString "_law_count"]
def n2 : List Str := [Str.ofString "_law_numbers_here", Str.ofString "_law_budget", Str.ofString "_law_large", Str.ofString "_law_state", Str.ofString "_law_wide", Str.ofString "_law_many", Str.ofString "_law_narrows", Str.ofString "_law_procedures", Str.ofString "_law_k", Str.ofString "_law_narrow"]
def q2 : List Str := [Str.ofString "_law_numbers_here", Str.ofString "_law_budget", Str.ofString "_law_large"]
def n60 : List Str := [Str.ofString "_law_numbers_here", Str.ofString "_law_most", Str.ofString "_law_inner", Str.ofString "_law_k", Str.ofString "_law_test", Str.ofString "_law_rows"]
def q60 : List Str := [Str.ofString "_law_numbers_here"]
def n3 : List Str := [Str.ofString "self", Str.ofString "global_count", Str.ofString "procedures", Str.ofString "index", Str.ofString "local_count", Str.ofString "body", Str.ofString "scope"]
def q3 : List Str := [Str.ofString "self", Str.ofString "global_count", Str.ofString "procedures"]
def n45 : List Str := [Str.ofString "_law_program_here", Str.ofString "_law_table_here", Str.ofString "_law_begins", Str.ofString "_law_place", Str.ofString "_law_k", Str.ofString "_law_size_here"]
def q45 : List Str := [Str.ofString "_law_program_here"]
def n5 : List Str := [Str.ofString "program", Str.ofString "walker"]
def q5 : List Str := [Str.ofString "program"]
def n61 : List Str := [Str.ofString "_law_program_here", Str.ofString "_law_told", Str.ofString "_law_k"]
def q61 : List Str := [Str.ofString "_law_program_here", Str.ofString "_law_told"]
def n51 : List Str := [Str.ofString "_law_program_here", Str.ofString "_law_told", Str.ofString "_law_situation", Str.ofString "_law_frame_here", Str.ofString "_law_rest", Str.ofString "_law_point", Str.ofString "_law_values", Str.ofString "_law_form", Str.ofString "_law_goals", Str.ofString "_law_value_here", Str.ofString "_law_goal"]
def q51 : List Str := [Str.ofString "_law_program_here", Str.ofString "_law_told", Str.ofString "_law_situation"]
def n62 : List Str := [Str.ofString "program", Str.ofString "situation", Str.ofString "global_values", Str.ofString "frames", Str.ofString "values", Str.ofString "new"]
def q62 : List Str := [Str.ofString "program", Str.ofString "situation"]
def n11 : List Str := [Str.ofString "_law_state", Str.ofString "_law_most", Str.ofString "_law_number"]
def q11 : List Str := [Str.ofString "_law_state", Str.ofString "_law_most"]
def n12 : List Str := [Str.ofString "_law_state", Str.ofString "_law_counts", Str.ofString "_law_deep_here", Str.ofString "_law_most", Str.ofString "_law_body_here", Str.ofString "_law_k"]
def q12 : List Str := [Str.ofString "_law_state", Str.ofString "_law_counts", Str.ofString "_law_deep_here", Str.ofString "_law_most"]
def n13 : List Str := [Str.ofString "self", Str.ofString "global_count", Str.ofString "local_count", Str.ofString "procedure_count"]
def q13 : List Str := [Str.ofString "self", Str.ofString "global_count", Str.ofString "local_count", Str.ofString "procedure_count"]
def n14 : List Str := [Str.ofString "self", Str.ofString "body", Str.ofString "statement", Str.ofString "inner"]
def q14 : List Str := [Str.ofString "self", Str.ofString "body"]
def n48 : List Str := [Str.ofString "_law_body_here", Str.ofString "_law_total", Str.ofString "_law_statement_here", Str.ofString "_law_inner"]
def q48 : List Str := [Str.ofString "_law_body_here"]
def n49 : List Str := [Str.ofString "_law_table_here", Str.ofString "_law_body_here", Str.ofString "_law_procedure", Str.ofString "_law_place", Str.ofString "_law_behind", Str.ofString "_law_k", Str.ofString "_law_size_here", Str.ofString "_law_follows", Str.ofString "_law_back", Str.ofString "_law_entries", Str.ofString "_law_inside", Str.ofString "_law_inner"]
def q49 : List Str := [Str.ofString "_law_table_here", Str.ofString "_law_body_here", Str.ofString "_law_procedure", Str.ofString "_law_place", Str.ofString "_law_behind"]
def n19 : List Str := [Str.ofString "self", Str.ofString "program"]
def q19 : List Str := [Str.ofString "self", Str.ofString "program"]
def n20 : List Str := [Str.ofString "count", Str.ofString "_"]
def q20 : List Str := [Str.ofString "count"]
def n21 : List Str := [Str.ofString "self", Str.ofString "procedure"]
def q21 : List Str := [Str.ofString "self", Str.ofString "procedure"]
def n54 : List Str := [Str.ofString "_law_program_here", Str.ofString "_law_told", Str.ofString "_law_procedure", Str.ofString "_law_k"]
def q54 : List Str := [Str.ofString "_law_program_here", Str.ofString "_law_told", Str.ofString "_law_procedure"]
def n55 : List Str := [Str.ofString "_law_values", Str.ofString "_law_variable_here", Str.ofString "_law_value_here", Str.ofString "_law_rows"]
def q55 : List Str := [Str.ofString "_law_values", Str.ofString "_law_variable_here", Str.ofString "_law_value_here"]
def n56 : List Str := [Str.ofString "_law_expression_here", Str.ofString "_law_values", Str.ofString "_law_form", Str.ofString "_law_parts", Str.ofString "_law_part"]
def q56 : List Str := [Str.ofString "_law_expression_here", Str.ofString "_law_values"]
def n25 : List Str := [Str.ofString "self", Str.ofString "global_values", Str.ofString "frame", Str.ofString "place", Str.ofString "local_values", Str.ofString "point", Str.ofString "found", Str.ofString "goal", Str.ofString "values"]
def q25 : List Str := [Str.ofString "self", Str.ofString "global_values", Str.ofString "frame"]
def n27 : List Str := [Str.ofString "_law_state", Str.ofString "_law_counts", Str.ofString "_law_deep_here", Str.ofString "_law_form", Str.ofString "_law_variable_here", Str.ofString "_law_test"]
def q27 : List Str := [Str.ofString "_law_state", Str.ofString "_law_counts", Str.ofString "_law_deep_here"]
def n28 : List Str := [Str.ofString "self", Str.ofString "statement", Str.ofString "form"]
def q28 : List Str := [Str.ofString "self", Str.ofString "statement"]
def n29 : List Str := [Str.ofString "statement"]
def q29 : List Str := [Str.ofString "statement"]
def n53 : List Str := [Str.ofString "_law_statement_here"]
def q53 : List Str := [Str.ofString "_law_statement_here"]
def n32 : List Str := [Str.ofString "self", Str.ofString "program", Str.ofString "index", Str.ofString "_", Str.ofString "body", Str.ofString "begin", Str.ofString "firsts", Str.ofString "end"]
def q32 : List Str := [Str.ofString "self", Str.ofString "program"]
def n34 : List Str := [Str.ofString "self", Str.ofString "point", Str.ofString "values", Str.ofString "statement", Str.ofString "form", Str.ofString "value"]
def q34 : List Str := [Str.ofString "self", Str.ofString "point", Str.ofString "values"]
def n35 : List Str := [Str.ofString "_law_state", Str.ofString "_law_counts", Str.ofString "_law_names", Str.ofString "_law_k"]
def q35 : List Str := [Str.ofString "_law_state", Str.ofString "_law_counts"]
def n36 : List Str := [Str.ofString "_law_state", Str.ofString "_law_counts", Str.ofString "_law_deep_here", Str.ofString "_law_form", Str.ofString "_law_variable_here", Str.ofString "_law_word"]
def q36 : List Str := [Str.ofString "_law_state", Str.ofString "_law_counts", Str.ofString "_law_deep_here"]
def n37 : List Str := [Str.ofString "self", Str.ofString "variable"]
def q37 : List Str := [Str.ofString "self", Str.ofString "variable"]
def n38 : List Str := [Str.ofString "self", Str.ofString "expression", Str.ofString "part"]
def q38 : List Str := [Str.ofString "self", Str.ofString "expression"]
def n39 : List Str := [Str.ofString "self", Str.ofString "procedure", Str.ofString "body", Str.ofString "firsts", Str.ofString "statement", Str.ofString "place", Str.ofString "point", Str.ofString "inner"]
def q39 : List Str := [Str.ofString "self", Str.ofString "procedure", Str.ofString "body"]
def n40 : List Str := [Str.ofString "self", Str.ofString "procedure", Str.ofString "statement"]
def q40 : List Str := [Str.ofString "self", Str.ofString "procedure", Str.ofString "statement"]
def n41 : List Str := [Str.ofString "self", Str.ofString "firsts", Str.ofString "behind", Str.ofString "index", Str.ofString "place", Str.ofString "inner", Str.ofString "follows", Str.ofString "point", Str.ofString "back", Str.ofString "body"]
def q41 : List Str := [Str.ofString "self", Str.ofString "firsts", Str.ofString "behind"]
def n42 : List Str := [Str.ofString "expression", Str.ofString "values", Str.ofString "form", Str.ofString "one", Str.ofString "two"]
def q42 : List Str := [Str.ofString "expression", Str.ofString "values"]
def n43 : List Str := [Str.ofString "values", Str.ofString "variable", Str.ofString "value", Str.ofString "changed", Str.ofString "row"]
def q43 : List Str := [Str.ofString "values", Str.ofString "variable", Str.ofString "value"]
def pps : Nat → List Str
  | 59 => q59
  | 1 => q1
  | 2 => q2
  | 60 => q60
  | 3 => q3
  | 45 => q45
  | 5 => q5
  | 61 => q61
  | 51 => q51
  | 62 => q62
  | 11 => q11
  | 12 => q12
  | 13 => q13
  | 14 => q14
  | 48 => q48
  | 49 => q49
  | 19 => q19
  | 20 => q20
  | 21 => q21
  | 54 => q54
  | 55 => q55
  | 56 => q56
  | 25 => q25
  | 27 => q27
  | 28 => q28
  | 29 => q29
  | 53 => q53
  | 32 => q32
  | 34 => q34
  | 35 => q35
  | 36 => q36
  | 37 => q37
  | 38 => q38
  | 39 => q39
  | 40 => q40
  | 41 => q41
  | 42 => q42
  | 43 => q43
  | _ => q59
theorem k59 : chkSs pg n59 true (defScope s59) d_law_4.body (defBody s59) = true := by decide +kernel
theorem c59 : C8.scC n59 q59 (defScope s59) = true := by decide +kernel
theorem k1 : chkSs pg n1 true (defScope s1) d__law_numbers.body (defBody s1) = true := by decide +kernel
theorem c1 : C8.scC n1 q1 (defScope s1) = true := by decide +kernel
theorem k2 : chkSs pg n2 true (defScope s2) d__law_program.body (defBody s2) = true := by decide +kernel
theorem c2 : C8.scC n2 q2 (defScope s2) = true := by decide +kernel
theorem k60 : chkSs pg n60 true (defScope s60) d__law_deep.body (defBody s60) = true := by decide +kernel
theorem c60 : C8.scC n60 q60 (defScope s60) = true := by decide +kernel
theorem k3 : chkSs pg n3 true (defScope s3) d_Program___init__.body (defBody s3) = true := by decide +kernel
theorem c3 : C8.scC n3 q3 (defScope s3) = true := by decide +kernel
theorem k45 : chkSs pg n45 true (defScope s45) d__law_table.body (defBody s45) = true := by decide +kernel
theorem c45 : C8.scC n45 q45 (defScope s45) = true := by decide +kernel
theorem k5 : chkSs pg n5 true (defScope s5) d_begin.body (defBody s5) = true := by decide +kernel
theorem c5 : C8.scC n5 q5 (defScope s5) = true := by decide +kernel
theorem k61 : chkSs pg n61 true (defScope s61) d__law_first.body (defBody s61) = true := by decide +kernel
theorem c61 : C8.scC n61 q61 (defScope s61) = true := by decide +kernel
theorem k51 : chkSs pg n51 true (defScope s51) d__law_after.body (defBody s51) = true := by decide +kernel
theorem c51 : C8.scC n51 q51 (defScope s51) = true := by decide +kernel
theorem k62 : chkSs pg n62 true (defScope s62) d_after_.body (defBody s62) = true := by decide +kernel
theorem c62 : C8.scC n62 q62 (defScope s62) = true := by decide +kernel
theorem k11 : chkSs pg n11 true (defScope s11) d__law_pick.body (defBody s11) = true := by decide +kernel
theorem c11 : C8.scC n11 q11 (defScope s11) = true := by decide +kernel
theorem k12 : chkSs pg n12 true (defScope s12) d__law_body.body (defBody s12) = true := by decide +kernel
theorem c12 : C8.scC n12 q12 (defScope s12) = true := by decide +kernel
theorem k13 : chkSs pg n13 true (defScope s13) d_Scope___init__.body (defBody s13) = true := by decide +kernel
theorem c13 : C8.scC n13 q13 (defScope s13) = true := by decide +kernel
theorem k14 : chkSs pg n14 true (defScope s14) d_Scope_are_right.body (defBody s14) = true := by decide +kernel
theorem c14 : C8.scC n14 q14 (defScope s14) = true := by decide +kernel
theorem k48 : chkSs pg n48 true (defScope s48) d__law_size.body (defBody s48) = true := by decide +kernel
theorem c48 : C8.scC n48 q48 (defScope s48) = true := by decide +kernel
theorem k49 : chkSs pg n49 true (defScope s49) d__law_fill.body (defBody s49) = true := by decide +kernel
theorem c49 : C8.scC n49 q49 (defScope s49) = true := by decide +kernel
theorem k19 : chkSs pg n19 true (defScope s19) d_Walker___init__.body (defBody s19) = true := by decide +kernel
theorem c19 : C8.scC n19 q19 (defScope s19) = true := by decide +kernel
theorem k20 : chkSs pg n20 true (defScope s20) d_no_values.body (defBody s20) = true := by decide +kernel
theorem c20 : C8.scC n20 q20 (defScope s20) = true := by decide +kernel
theorem k21 : chkSs pg n21 true (defScope s21) d_Walker_entry_frame.body (defBody s21) = true := by decide +kernel
theorem c21 : C8.scC n21 q21 (defScope s21) = true := by decide +kernel
theorem k54 : chkSs pg n54 true (defScope s54) d__law_frame.body (defBody s54) = true := by decide +kernel
theorem c54 : C8.scC n54 q54 (defScope s54) = true := by decide +kernel
theorem k55 : chkSs pg n55 true (defScope s55) d__law_with.body (defBody s55) = true := by decide +kernel
theorem c55 : C8.scC n55 q55 (defScope s55) = true := by decide +kernel
theorem k56 : chkSs pg n56 true (defScope s56) d__law_value.body (defBody s56) = true := by decide +kernel
theorem c56 : C8.scC n56 q56 (defScope s56) = true := by decide +kernel
theorem k25 : chkSs pg n25 true (defScope s25) d_Walker_after.body (defBody s25) = true := by decide +kernel
theorem c25 : C8.scC n25 q25 (defScope s25) = true := by decide +kernel
theorem k27 : chkSs pg n27 true (defScope s27) d__law_statement.body (defBody s27) = true := by decide +kernel
theorem c27 : C8.scC n27 q27 (defScope s27) = true := by decide +kernel
theorem k28 : chkSs pg n28 true (defScope s28) d_Scope_is_right.body (defBody s28) = true := by decide +kernel
theorem c28 : C8.scC n28 q28 (defScope s28) = true := by decide +kernel
theorem k29 : chkSs pg n29 true (defScope s29) d_bodies.body (defBody s29) = true := by decide +kernel
theorem c29 : C8.scC n29 q29 (defScope s29) = true := by decide +kernel
theorem k53 : chkSs pg n53 true (defScope s53) d__law_bodies.body (defBody s53) = true := by decide +kernel
theorem c53 : C8.scC n53 q53 (defScope s53) = true := by decide +kernel
theorem k32 : chkSs pg n32 true (defScope s32) d_Points___init__.body (defBody s32) = true := by decide +kernel
theorem c32 : C8.scC n32 q32 (defScope s32) = true := by decide +kernel
theorem k34 : chkSs pg n34 true (defScope s34) d_Walker_goals.body (defBody s34) = true := by decide +kernel
theorem c34 : C8.scC n34 q34 (defScope s34) = true := by decide +kernel
theorem k35 : chkSs pg n35 true (defScope s35) d__law_variable.body (defBody s35) = true := by decide +kernel
theorem c35 : C8.scC n35 q35 (defScope s35) = true := by decide +kernel
theorem k36 : chkSs pg n36 true (defScope s36) d__law_expression.body (defBody s36) = true := by decide +kernel
theorem c36 : C8.scC n36 q36 (defScope s36) = true := by decide +kernel
theorem k37 : chkSs pg n37 true (defScope s37) d_Scope_has_variable.body (defBody s37) = true := by decide +kernel
theorem c37 : C8.scC n37 q37 (defScope s37) = true := by decide +kernel
theorem k38 : chkSs pg n38 true (defScope s38) d_Scope_has_variables.body (defBody s38) = true := by decide +kernel
theorem c38 : C8.scC n38 q38 (defScope s38) = true := by decide +kernel
theorem k39 : chkSs pg n39 true (defScope s39) d_Points_add_body.body (defBody s39) = true := by decide +kernel
theorem c39 : C8.scC n39 q39 (defScope s39) = true := by decide +kernel
theorem k40 : chkSs pg n40 true (defScope s40) d_Point___init__.body (defBody s40) = true := by decide +kernel
theorem c40 : C8.scC n40 q40 (defScope s40) = true := by decide +kernel
theorem k41 : chkSs pg n41 true (defScope s41) d_Points_link.body (defBody s41) = true := by decide +kernel
theorem c41 : C8.scC n41 q41 (defScope s41) = true := by decide +kernel
theorem k42 : chkSs pg n42 true (defScope s42) d_value_of.body (defBody s42) = true := by decide +kernel
theorem c42 : C8.scC n42 q42 (defScope s42) = true := by decide +kernel
theorem k43 : chkSs pg n43 true (defScope s43) d_with_value.body (defBody s43) = true := by decide +kernel
theorem c43 : C8.scC n43 q43 (defScope s43) = true := by decide +kernel
end L72

set_option Elab.async false
set_option linter.all false
set_option maxHeartbeats 4000000
/-! E21: tools for runs of the small language. -/
namespace Eng
open PySem
@[simp] theorem R.bind_ok_ {α β : Type} (a : α) (S : Sto) (f : α → Sto → R β) : (R.ok a S).bind f = f a S := rfl
@[simp] theorem R.of_some_ {α : Type} (a : α) (S : Sto) : R.of (some a) S = .ok a S := rfl
mutual
theorem below_mono {m n : Nat} (h : m ≤ n) : ∀ {w : W}, below m w = true → below n w = true
  | .tup xs, q => by simp only [below] at q ⊢; exact belows_mono h q
  | .lst xs, q => by simp only [below] at q ⊢; exact belows_mono h q
  | .fro xs, q => by simp only [below] at q ⊢; exact belows_mono h q
  | .ins c ns ws, q => by simp only [below] at q ⊢; exact belows_mono h q
  | .dct ks ws, q => by simp only [below] at q ⊢; exact belows_mono h q
  | .ref l, q => by simp only [below, decide_eq_true_eq] at q ⊢; omega
  | .non, q => by simp [below]
  | .bl _, q => by simp [below]
  | .int _, q => by simp [below]
  | .str _, q => by simp [below]
theorem belows_mono {m n : Nat} (h : m ≤ n) : ∀ {ws : List W}, belows m ws = true → belows n ws = true
  | [], q => by simp [belows]
  | w :: ws, q => by
    simp only [belows, Bool.and_eq_true] at q ⊢
    exact ⟨below_mono h q.1, belows_mono h q.2⟩
end
mutual
theorem res_below {n : Nat} {d : Nat → Option W} : ∀ {w : W}, below n w = true → resW n d w = some w
  | .tup xs, q => by simp only [below] at q; simp [resW, res_belows q]
  | .lst xs, q => by simp only [below] at q; simp [resW, res_belows q]
  | .fro xs, q => by simp only [below] at q; simp [resW, res_belows q]
  | .ins c ns ws, q => by simp only [below] at q; simp [resW, res_belows q]
  | .dct ks ws, q => by simp only [below] at q; simp [resW, res_belows q]
  | .ref l, q => by simp only [below, decide_eq_true_eq] at q; simp [resW, q]
  | .non, q => by simp [resW]
  | .bl _, q => by simp [resW]
  | .int _, q => by simp [resW]
  | .str _, q => by simp [resW]
theorem res_belows {n : Nat} {d : Nat → Option W} : ∀ {ws : List W}, belows n ws = true → resWs n d ws = some ws
  | [], q => by simp [resWs]
  | w :: ws, q => by
    simp only [belows, Bool.and_eq_true] at q
    simp [resWs, res_below q.1, res_belows q.2]
end
theorem belows_iff {n : Nat} : ∀ {ws : List W}, belows n ws = true ↔ ∀ w ∈ ws, below n w = true
  | [] => by simp [belows]
  | w :: ws => by simp [belows, belows_iff (ws := ws)]
/-- no reference at all -/
abbrev Pu (w : W) : Prop := below 0 w = true
theorem Pu.at {w : W} (h : Pu w) (n : Nat) : below n w = true := below_mono (Nat.zero_le n) h
theorem pus_at {ws : List W} (h : ∀ w ∈ ws, Pu w) (n : Nat) : belows n ws = true := belows_iff.mpr fun w hw => (h w hw).at n
theorem oldOk_refl (S : Sto) (S1 : Sto) (h : S1 = S) : OldOk S S1 := fun i o e => .inl (by rw [← h]; exact e)
/-- the end of a region that has changed nothing old -/
theorem exit_same {S Rg : Sto} {w w' : W} (h : resW S.length (deref S.length Rg 8) w = some w') : exitR S w (S ++ Rg) = .ok w' S := by
  unfold exitR
  have e1 : (S ++ Rg).take S.length = S := by simp
  have e2 : (S ++ Rg).drop S.length = Rg := by simp
  rw [e1, e2, if_pos ⟨by simp, oldOk_refl S S rfl⟩, h]
theorem exit_pu {S Rg : Sto} {w : W} (h : Pu w) : exitR S w (S ++ Rg) = .ok w S := exit_same (res_below (h.at _))
theorem exit_pu0 {S : Sto} {w : W} (h : Pu w) : exitR S w S = .ok w S := by
  have := exit_pu (S := S) (Rg := []) h
  rwa [List.append_nil] at this
/-- .. where old objects have changed -/
theorem exit_old {S S1 Rg : Sto} {w : W} (hl : S1.length = S.length) (ho : OldOk S S1) (h : below S.length w = true) : exitR S w (S1 ++ Rg) = .ok w S1 := by
  unfold exitR
  have e1 : (S1 ++ Rg).take S.length = S1 := by rw [← hl]; simp
  rw [e1, if_pos ⟨by simp [hl], ho⟩, res_below h]
theorem deref_lst {n f l : Nat} {Rg : List Ob} {ws : List W} (h : Rg[l - n]? = some (.lst ws)) (hb : belows n ws = true) : deref n Rg (f + 1) l = some (.lst ws) := by
  unfold deref
  rw [h]
  dsimp only
  rw [res_belows hb]
  rfl
theorem deref_dK {n f l : Nat} {Rg : List Ob} {ks : List L2.Key} {ws : List W} (h : Rg[l - n]? = some (.dK ks ws)) (hb : belows n ws = true) : deref n Rg (f + 1) l = some (.dct ks ws) := by
  unfold deref
  rw [h]
  dsimp only
  rw [res_belows hb]
  rfl
theorem deref_ins {n f l : Nat} {Rg : List Ob} {c : Nat} {ns : List Nat} {ws : List W} (h : Rg[l - n]? = some (.ins c ns ws)) (hb : belows n ws = true) : deref n Rg (f + 1) l = some (.ins c ns ws) := by
  unfold deref
  rw [h]
  dsimp only
  rw [res_belows hb]
  rfl
theorem resW_ref {n l : Nat} {d : Nat → Option W} (h : n ≤ l) : resW n d (.ref l) = d l := by
  unfold resW
  rw [if_neg (by omega)]

/-! ### operations on values that are known (rewritten only there) -/
section
variable {S : Sto} {xs ys : List W} {c : Nat} {ns : List Nat} {ws : List W} {ks : List L2.Key} {i j : Int} {s t : Str} {a b : Bool} {l : Nat} {x y : W} {P : Prog}
@[simp] theorem asDict_dct : asDict S (.dct ks ws) = some (ks, ws) := rfl
@[simp] theorem asDict_tup : asDict S (.tup xs) = none := rfl
@[simp] theorem asDict_lst : asDict S (.lst xs) = none := rfl
@[simp] theorem asDict_fro : asDict S (.fro xs) = none := rfl
@[simp] theorem asDict_str : asDict S (.str s) = none := rfl
@[simp] theorem asDict_ref : asDict S (.ref l) = match S[l]? with | some (.dK ks ws) => some (ks, ws) | _ => none := rfl
@[simp] theorem asList_lst : asList S (.lst xs) = some xs := rfl
@[simp] theorem asList_fro : asList S (.fro xs) = some xs := rfl
@[simp] theorem asList_ref : asList S (.ref l) = match S[l]? with | some (.lst xs) => some xs | _ => none := rfl
@[simp] theorem asLst_lst : asLst S (.lst xs) = some xs := rfl
@[simp] theorem asLst_ref : asLst S (.ref l) = match S[l]? with | some (.lst xs) => some xs | _ => none := rfl
@[simp] theorem asSeq_tup : asSeq S (.tup xs) = some xs := rfl
@[simp] theorem asSeq_lst : asSeq S (.lst xs) = some xs := rfl
@[simp] theorem asSeq_fro : asSeq S (.fro xs) = some xs := rfl
@[simp] theorem asSeq_ref : asSeq S (.ref l) = match S[l]? with | some (.lst xs) => some xs | _ => none := rfl
@[simp] theorem seqG_tup : seqG S (.tup xs) = [] := rfl
@[simp] theorem seqG_lst : seqG S (.lst xs) = [] := rfl
@[simp] theorem seqG_fro : seqG S (.fro xs) = [] := rfl
@[simp] theorem seqG_ref : seqG S (.ref l) = match S[l]? with | some (.lst xs) => [(l, xs)] | _ => [] := rfl
@[simp] theorem asIns_ins : asIns S (.ins c ns ws) = some (c, ns, ws) := rfl
@[simp] theorem asIns_ref : asIns S (.ref l) = match S[l]? with | some (.ins c ns ws) => some (c, ns, ws) | _ => none := rfl
@[simp] theorem idxW_dct : idxW S (.dct ks ws) x = (keyOf x).bind fun k => dLook ks ws k := rfl
@[simp] theorem idxW_tup : idxW S (.tup xs) (.int i) = L2.atI xs i := rfl
@[simp] theorem idxW_lst : idxW S (.lst xs) (.int i) = L2.atI xs i := rfl
@[simp] theorem idxW_fro : idxW S (.fro xs) (.int i) = L2.atI xs i := rfl
theorem idxW_ref (h : S[l]? = some (.lst xs)) : idxW S (.ref l) (.int i) = L2.atI xs i := by simp [idxW, h]
theorem idxW_refD (h : S[l]? = some (.dK ks ws)) : idxW S (.ref l) x = (keyOf x).bind fun k => dLook ks ws k := by simp [idxW, h]
@[simp] theorem keyOf_int : keyOf (.int i) = some (.inl i) := rfl
@[simp] theorem keyOf_str : keyOf (.str s) = some (.inr s) := rfl
@[simp] theorem dLook_cons {k k' : L2.Key} : dLook (k :: ks) (x :: ws) k' = if k = k' then some x else dLook ks ws k' := rfl
@[simp] theorem dLook_nil {k' : L2.Key} : dLook [] ws k' = none := by cases ws <;> rfl
@[simp] theorem cmpW_eq : cmpW S .eq x y = eqW S x y := rfl
@[simp] theorem cmpW_ne : cmpW S .ne x y = (eqW S x y).map (!·) := rfl
@[simp] theorem cmpW_lt : cmpW S .lt (.int i) (.int j) = some (decide (i < j)) := rfl
@[simp] theorem cmpW_le : cmpW S .le (.int i) (.int j) = some (decide (i ≤ j)) := rfl
@[simp] theorem cmpW_gt : cmpW S .gt (.int i) (.int j) = some (decide (j < i)) := rfl
@[simp] theorem cmpW_ge : cmpW S .ge (.int i) (.int j) = some (decide (j ≤ i)) := rfl
@[simp] theorem cmpW_in : cmpW S .in_ x y = inW S x y := rfl
@[simp] theorem cmpW_notIn : cmpW S .notIn x y = (inW S x y).map (!·) := rfl
@[simp] theorem cmpW_isN_non : cmpW S .isN .non .non = some true := rfl
@[simp] theorem cmpW_isN_tup : cmpW S .isN (.tup xs) .non = some false := rfl
@[simp] theorem cmpW_isN_int : cmpW S .isN (.int i) .non = some false := rfl
@[simp] theorem cmpW_notN_non : cmpW S .notN .non .non = some false := rfl
@[simp] theorem cmpW_notN_tup : cmpW S .notN (.tup xs) .non = some true := rfl
@[simp] theorem cmpW_notN_int : cmpW S .notN (.int i) .non = some true := rfl
@[simp] theorem eqW_int : eqW S (.int i) (.int j) = some (decide (i = j)) := rfl
@[simp] theorem eqW_str : eqW S (.str s) (.str t) = some (decide (s = t)) := rfl
@[simp] theorem eqW_bl : eqW S (.bl a) (.bl b) = some (decide (a = b)) := rfl
@[simp] theorem binW_add : binW .add (.int i) (.int j) = some (.int (i + j)) := rfl
@[simp] theorem binW_sub : binW .sub (.int i) (.int j) = some (.int (i - j)) := rfl
@[simp] theorem binW_mul : binW .mul (.int i) (.int j) = if L2.CMul i j then some (.int (i * j)) else none := rfl
@[simp] theorem binW_fdiv : binW .fdiv (.int i) (.int j) = if L2.CDivN i j then some (.int (i.fdiv j)) else none := rfl
@[simp] theorem binW_mod : binW .mod (.int i) (.int j) = if j ≠ 0 then some (.int (i.fmod j)) else none := rfl
@[simp] theorem binW_addT : binW .add (.tup xs) (.tup ys) = if xs.length + ys.length ≤ sizeLine then some (.tup (xs ++ ys)) else none := rfl
@[simp] theorem bltW_len_tup : bltW S .len [.tup xs] = some (.int xs.length) := rfl
@[simp] theorem bltW_len_lst : bltW S .len [.lst xs] = some (.int xs.length) := rfl
@[simp] theorem bltW_len_fro : bltW S .len [.fro xs] = some (.int xs.length) := rfl
theorem bltW_len_ref (h : S[l]? = some (.lst xs)) : bltW S .len [.ref l] = some (.int xs.length) := by simp [bltW, h]
@[simp] theorem bltW_int_bl : bltW S .int [.bl a] = some (.int (if a then 1 else 0)) := rfl
@[simp] theorem bltW_int_int : bltW S .int [.int i] = some (.int i) := rfl
@[simp] theorem bltW_tuple : bltW S .tuple [x] = (asSeq S x).map .tup := rfl
@[simp] theorem bltW_all_lst : bltW S .all [.lst xs] = (boolsW xs).map fun ns => .bl (ns.all id) := rfl
@[simp] theorem bltW_any_lst : bltW S .any [.lst xs] = (boolsW xs).map fun ns => .bl (ns.any id) := rfl
@[simp] theorem bltW_min2 : bltW S .min2 [.int i, .int j] = some (.int (if j < i then j else i)) := rfl
@[simp] theorem bltW_max2 : bltW S .max2 [.int i, .int j] = some (.int (if j > i then j else i)) := rfl
@[simp] theorem asgT_nm {n : Nat} {env : Env} : asgT (.nm n) x env = some (env.set n (some x)) := rfl
@[simp] theorem asgT_tp {ts : List CT} {env : Env} : asgT (.tp ts) (.tup xs) env = asgTs ts xs env := rfl
@[simp] theorem asgTs_nil {env : Env} : asgTs [] [] env = some env := rfl
@[simp] theorem asgTs_cons {tt : CT} {ts : List CT} {env : Env} : asgTs (tt :: ts) (x :: xs) env = (asgT tt x env).bind (asgTs ts xs) := rfl
@[simp] theorem getF_ins {f : Nat} : getF S (.ins c ns ws) f = fldW ns ws f := rfl
theorem getF_ref {f : Nat} (h : S[l]? = some (.ins c ns ws)) : getF S (.ref l) f = fldW ns ws f := by simp [getF, h]
@[simp] theorem fldW_cons {n f : Nat} : fldW (n :: ns) (x :: ws) f = if n = f then some x else fldW ns ws f := rfl
@[simp] theorem dRep_cons {k k' : L2.Key} {v : W} : dRep (k :: ks) (x :: ws) k' v = (if k = k' then v else x) :: dRep ks ws k' v := rfl
@[simp] theorem dRep_nil {k' : L2.Key} {v : W} : dRep [] ws k' v = [] := by cases ws <;> rfl
theorem append_ref (h : S[l]? = some (.lst xs)) (hl : xs.length < sizeLine) : bmW S .append (.ref l) [x] = .ok .non (S.set l (.lst (xs ++ [x]))) := by simp [bmW, h, hl]
theorem bmK_ref (h : S[l]? = some (.lst xs)) : bmK S .append (.ref l) = true := by simp [bmK, h]
theorem subW_lst (h : S[l]? = some (.lst xs)) {n : Nat} (hn : n < xs.length) : subW S (.ref l) (.int n) x = some (S.set l (.lst (xs.set n x))) := by
  have : L2.ixN xs.length (n : Int) = some n := by
    unfold L2.ixN
    rw [if_pos (by omega), if_pos (by omega)]
    rfl
  simp [subW, h, this]
theorem subW_dK (h : S[l]? = some (.dK ks ws)) {k : L2.Key} (hk : keyOf y = some k) (hl : ks.length < sizeLine) : subW S (.ref l) y x = some (S.set l (.dK (dPut ks ws k x).1 (dPut ks ws k x).2)) := by simp [subW, h, hk, hl]
end
/-! ### comprehensions -/
theorem compL_go {g : List (Nat × List W)} {f : W → Sto → R (Option W)} {h : W → Option W} {S : Sto} (hg : ∀ acc, gOk (S ++ [.lst acc]) g) :
    ∀ (xs : List W) (acc : List W), (∀ x ∈ xs, ∀ acc, f x (S ++ [.lst acc]) = .ok (h x) (S ++ [.lst acc])) → acc.length + xs.length ≤ sizeLine →
      compL g S.length f xs (S ++ [.lst acc]) = .ok () (S ++ [.lst (acc ++ xs.filterMap h)])
  | [], acc, _, _ => by
    unfold compL
    rw [if_pos (hg acc)]
    simp
  | x :: xs, acc, hf, hl => by
    unfold compL
    rw [if_pos (hg acc), hf x List.mem_cons_self acc]
    simp only [R.bind_ok_]
    have hf' : ∀ y ∈ xs, ∀ acc, f y (S ++ [.lst acc]) = .ok (h y) (S ++ [.lst acc]) := fun y hy => hf y (List.mem_cons_of_mem _ hy)
    simp only [List.length_cons] at hl
    cases c : h x with
    | none =>
      dsimp only
      rw [compL_go hg xs acc hf' (by omega), List.filterMap_cons, c]
    | some w =>
      dsimp only
      have e1 : (S ++ [Ob.lst acc])[S.length]? = some (.lst acc) := by simp
      have e2 : (S ++ [Ob.lst acc]).set S.length (.lst (acc ++ [w])) = S ++ [.lst (acc ++ [w])] := by simp
      rw [e1]
      dsimp only
      rw [if_pos (by omega), e2, compL_go hg xs (acc ++ [w]) hf' (by simp; omega), List.filterMap_cons, c]
      simp
theorem gOk_nil {S : Sto} : gOk S [] := fun p hp => by cases hp
theorem comp_go {P : Prog} {C : Cl} {own : List Nat} {t : CT} {it : CI} {tst : CEs} {e : CE} {env : Env} {S : Sto} {xs : List W} {g : List (Nat × List W)} {h : W → Option W} (hi : evI P C it env S = .ok (xs, g) S) (hg : ∀ acc, gOk (S ++ [.lst acc]) g) (hl : xs.length ≤ sizeLine)
    (hf : ∀ x ∈ xs, ∀ acc, ∃ env', asgT t x (wipeE env own) = some env' ∧ ∃ b, evAll P C tst env' (S ++ [.lst acc]) = .ok b (S ++ [.lst acc]) ∧ ((b = false ∧ h x = none) ∨ ∃ w, b = true ∧ h x = some w ∧ evE P C e env' (S ++ [.lst acc]) = .ok w (S ++ [.lst acc]) ∧ below S.length w = true)) :
    evE P C (.comp true own t it tst e) env S = .ok (.lst (xs.filterMap h)) S := by
  rw [evE, hi]
  simp only [R.bind_ok_]
  rw [compL_go (h := h) hg xs [] (fun x hx acc => ?_) (by simpa using hl)]
  · simp only [R.bind_ok_, List.nil_append, if_true]
    have hb : belows S.length (xs.filterMap h) = true := by
      refine belows_iff.mpr fun w hw => ?_
      obtain ⟨x, hx, e1⟩ := List.mem_filterMap.mp hw
      obtain ⟨env', _, b, _, q⟩ := hf x hx []
      rcases q with ⟨_, q⟩ | ⟨w', _, q, _, hb⟩
      · rw [e1] at q; cases q
      · rw [e1] at q; cases q; exact hb
    exact exit_same (by simp [resW, deref, res_belows hb])
  · obtain ⟨env', e1, b, e2, q⟩ := hf x hx acc
    rw [e1]
    dsimp only
    rw [e2]
    simp only [R.bind_ok_]
    rcases q with ⟨rfl, q⟩ | ⟨w', rfl, q, e3, hb⟩
    · rw [q]; rfl
    · rw [if_pos rfl, e3, q]; rfl
/-! ### loops -/
theorem forL_go {g : List (Nat × List W)} {f : W → Env → Sto → R Fl} (I : Nat → Env → Sto → Prop) (xs : List W) (hg : ∀ i env S, i ≤ xs.length → I i env S → gOk S g)
    (hs : ∀ i x env S, xs[i]? = some x → I i env S → ∃ env' S', (f x env S = .ok (.nx env') S' ∨ f x env S = .ok (.ct env') S') ∧ I (i + 1) env' S') :
    ∀ (n i : Nat) (env : Env) (S : Sto), n = xs.length - i → i ≤ xs.length → I i env S → ∃ env' S', forL g f (xs.drop i) env S = .ok (.nx env') S' ∧ I xs.length env' S'
  | 0, i, env, S, hn, hi, h => by
    have e : i = xs.length := by omega
    subst e
    refine ⟨env, S, ?_, h⟩
    rw [List.drop_length]
    unfold forL
    rw [if_pos (hg _ _ _ (Nat.le_refl _) h)]
  | n + 1, i, env, S, hn, hi, h => by
    have hlt : i < xs.length := by omega
    have hx : xs[i]? = some xs[i] := by simp [hlt]
    obtain ⟨env', S', e1, h'⟩ := hs i _ env S hx h
    obtain ⟨env2, S2, e2, h2⟩ := forL_go I xs hg hs n (i + 1) env' S' (by omega) hlt h'
    refine ⟨env2, S2, ?_, h2⟩
    rw [List.drop_eq_getElem_cons hlt]
    unfold forL
    rw [if_pos (hg _ _ _ hi h)]
    rcases e1 with e1 | e1 <;> (rw [e1]; exact e2)
theorem for_go {P : Prog} {C : Cl} {t : CT} {it : CI} {b : CSs} {env : Env} {S S0 : Sto} {xs : List W} {g : List (Nat × List W)} (I : Nat → Env → Sto → Prop) (hi : evI P C it env S = .ok (xs, g) S0) (hg : ∀ i env S, i ≤ xs.length → I i env S → gOk S g) (h0 : I 0 env S0)
    (hs : ∀ i x env S, xs[i]? = some x → I i env S → ∃ env1 env' S', asgT t x env = some env1 ∧ (exSs P C b env1 S = .ok (.nx env') S' ∨ exSs P C b env1 S = .ok (.ct env') S') ∧ I (i + 1) env' S') :
    ∃ env' S', exS P C (.for_ t it b) env S = .ok (.nx env') S' ∧ I xs.length env' S' := by
  obtain ⟨env', S', e, h⟩ := forL_go (g := g) (f := fun x env' S2 => match asgT t x env' with | none => .bad | some env2 => exSs P C b env2 S2) I xs hg (fun i x env S hx h => by
    obtain ⟨env1, env', S', e1, e2, h'⟩ := hs i x env S hx h
    refine ⟨env', S', ?_, h'⟩
    rw [e1]
    exact e2) _ 0 env S0 rfl (Nat.zero_le _) h0
  refine ⟨env', S', ?_, h⟩
  rw [exS, hi]
  exact e
theorem run_ret {P : Prog} {k f : Nat} {d : FDef} {ws : List W} {S S1 : Sto} {w : W} {r : R W} {env0 : Env} (h : P.fn f = some d) (hw : ws.length = d.np) (he : ws.map some ++ List.replicate (d.ns - d.np) none = env0) (hb : exSs P (clOf P k) d.body env0 S = .ok (.ret w) S1) (hx : finF d.pure S w S1 = r) : run P (k + 1) f ws S = r := by
  rw [run_eq h, if_pos hw, he, hb]
  exact hx
theorem run_nx {P : Prog} {k f : Nat} {d : FDef} {ws : List W} {S S1 : Sto} {env1 : Env} {r : R W} {env0 : Env} (h : P.fn f = some d) (hw : ws.length = d.np) (he : ws.map some ++ List.replicate (d.ns - d.np) none = env0) (hb : exSs P (clOf P k) d.body env0 S = .ok (.nx env1) S1) (hx : finF d.pure S .non S1 = r) : run P (k + 1) f ws S = r := by
  rw [run_eq h, if_pos hw, he, hb]
  exact hx
theorem ss_nx {P : Prog} {C : Cl} {s : CS} {ss : CSs} {env env' : Env} {S S' : Sto} (h : exS P C s env S = .ok (.nx env') S') : exSs P C (.cons s ss) env S = exSs P C ss env' S' := by rw [exSs, h]; rfl
theorem ss_ret {P : Prog} {C : Cl} {s : CS} {ss : CSs} {env : Env} {S S' : Sto} {w : W} (h : exS P C s env S = .ok (.ret w) S') : exSs P C (.cons s ss) env S = .ok (.ret w) S' := by rw [exSs, h]; rfl
theorem fin_pu {S Rg : Sto} {w : W} (h : Pu w) : finF true S w (S ++ Rg) = .ok w S := exit_pu h
theorem fin_pu0 {S : Sto} {w : W} (h : Pu w) : finF true S w S = .ok w S := exit_pu0 h
theorem rng_ok {j : Int} (h : -1000000 ≤ j ∧ j ≤ 1000000) : -(2 ^ 62) ≤ j ∧ j < 2 ^ 62 := ⟨by omega, by omega⟩
theorem evI_rng1 {P : Prog} {C : Cl} {a : CE} {env : Env} {S S1 : Sto} {j : Int} (e : evE P C a env S = .ok (.int j) S1) (h : -1000000 ≤ j ∧ j ≤ 1000000) : evI P C (.rng1 a) env S = .ok (upTo 0 j.toNat, []) S1 := by
  rw [evI, e]
  simp only [R.bind_ok_]
  rw [if_pos (rng_ok h)]
theorem evI_rngN {P : Prog} {C : Cl} {a : CE} {env : Env} {S S1 : Sto} {n : Nat} (e : evE P C a env S = .ok (.int n) S1) (h : n ≤ 1000000) : evI P C (.rng1 a) env S = .ok (upTo 0 n, []) S1 := by
  have := evI_rng1 e (by omega)
  rwa [Int.toNat_natCast] at this
/-- a loop that changes its variables alone -/
theorem for_fold {α : Type} {P : Prog} {C : Cl} {t : CT} {it : CI} {b : CSs} {S : Sto} {xs : List W} (mk : α → Option W → Env) (step : α → W → α) {a0 : α} {v0 : Option W} (hi : evI P C it (mk a0 v0) S = .ok (xs, []) S)
    (hs : ∀ a v x, x ∈ xs → ∃ env1 v', asgT t x (mk a v) = some env1 ∧ exSs P C b env1 S = .ok (.nx (mk (step a x) v')) S) :
    ∃ v, exS P C (.for_ t it b) (mk a0 v0) S = .ok (.nx (mk (xs.foldl step a0) v)) S := by
  obtain ⟨env', S', e, v, he, hS⟩ := for_go (P := P) (C := C) (t := t) (it := it) (b := b) (fun i env S1 => ∃ v, env = mk ((xs.take i).foldl step a0) v ∧ S = S1) hi (fun _ _ _ _ _ => gOk_nil) ⟨v0, by simp, rfl⟩ (fun i x env S1 hx ⟨v, e1, e2⟩ => by
    subst e1 e2
    obtain ⟨env1, v', q1, q2⟩ := hs _ v x (List.mem_of_getElem? hx)
    refine ⟨env1, _, S, q1, .inl q2, v', ?_, rfl⟩
    have : xs.take (i + 1) = xs.take i ++ [x] := by
      rw [List.take_add_one, hx]
      rfl
    rw [this, List.foldl_append]
    rfl)
  subst he hS
  exact ⟨v, by rw [e, List.take_length]⟩
theorem fmod_nat (m : Nat) {n : Nat} : ((m : Int).fmod (n : Int)) = ((m % n : Nat) : Int) := by
  rw [Int.fmod_eq_emod_of_nonneg _ (by omega)]
  rfl
theorem fdiv_nat (m n : Nat) : ((m : Int).fdiv (n : Int)) = ((m / n : Nat) : Int) := by
  rw [Int.fdiv_eq_ediv_of_nonneg _ (by omega)]
  rfl
theorem upTo_len' {lo : Int} {n : Nat} : (upTo lo n).length = n := upTo_len
end Eng

set_option Elab.async false
set_option linter.all false
set_option maxHeartbeats 4000000
set_option maxRecDepth 100000
/-! E22: small functions of compiled.py. -/
namespace Eng
open PySem L2
section
variable {P : Prog} {k : Nat} {S : Sto}
theorem twos_ok (h : P.fn 16 = some d_twos) {n : Nat} (hn : n ≤ 60) : run P (k + 1) 16 [.int n] S = .ok (.int (2 ^ n)) S := by
  obtain ⟨env', S', e, v, he, rfl⟩ := for_go (P := P) (C := clOf P k) (t := .nm 2) (it := .rng1 (.var 0)) (b := .cons (.asg (.nm 1) (.bin .mul (.int 2) (.var 1))) .nil) (env := [some (.int n), some (.int 1), none]) (S := S) (xs := upTo 0 n) (g := []) (S0 := S)
    (fun i env S1 => ∃ v, env = [some (.int n), some (.int (2 ^ i)), v] ∧ S = S1)
    (evI_rngN (by simp [evE]) (by omega)) (fun _ _ _ _ _ => gOk_nil) ⟨none, rfl, rfl⟩ (fun i x env S1 hx ⟨v, e1, e2⟩ => by
      subst e1 e2
      refine ⟨_, _, _, rfl, .inl (by simp [exSs, exS, evE, CMul]; rfl), x, ?_, rfl⟩
      simp [Int.pow_succ, Int.mul_comm])
  subst he
  refine run_ret h rfl rfl (w := .int (2 ^ n)) (S1 := S) ?_ (fin_pu0 (by simp [Pu, below]))
  unfold d_twos
  dsimp only
  rw [ss_nx (env' := [some (.int n), some (.int 1), none]) (S' := S) (by simp [exS, evE]), ss_nx e]
  simp [exSs, exS, evE, upTo_len]
def b2n (b : Bool) : Nat := if b then 1 else 0
/-- number_of -/
def num : List Bool → Nat
  | [] => 0
  | b :: bs => 2 * num bs + b2n b
/-- values_of -/
def bits (n : Nat) : Nat → List Bool
  | 0 => []
  | c + 1 => decide (n % 2 = 1) :: bits (n / 2) c
theorem bits_len : ∀ (c n : Nat), (bits n c).length = c
  | 0, _ => rfl
  | c + 1, n => by simp [bits, bits_len c]
theorem num_lt : ∀ bs : List Bool, num bs < 2 ^ bs.length
  | [] => by simp [num]
  | b :: bs => by
    have := num_lt bs
    simp only [num, b2n, List.length_cons, Nat.pow_succ]
    split <;> omega
theorem bits_num : ∀ bs : List Bool, bits (num bs) bs.length = bs
  | [] => rfl
  | b :: bs => by
    simp only [num, List.length_cons, bits]
    have h1 : (2 * num bs + b2n b) / 2 = num bs := by unfold b2n; split <;> omega
    have h2 : decide ((2 * num bs + b2n b) % 2 = 1) = b := by unfold b2n; cases b <;> simp <;> omega
    rw [h1, h2, bits_num bs]
theorem num_bits : ∀ (c n : Nat), n < 2 ^ c → num (bits n c) = n
  | 0, n, h => by simp [bits, num]; simp at h; exact h.symm
  | c + 1, n, h => by
    simp only [bits, num]
    rw [num_bits c (n / 2) (by rw [Nat.pow_succ] at h; omega)]
    unfold b2n
    by_cases q : n % 2 = 1
    · simp [q]; omega
    · simp [q]; omega
theorem num_foldr (bs : List Bool) : num bs = bs.reverse.foldl (fun t b => 2 * t + b2n b) 0 := by
  rw [List.foldl_reverse]
  induction bs with
  | nil => rfl
  | cons b bs ih => simp [num, ih]
abbrev bw (bs : List Bool) : W := .tup (bs.map W.bl)
theorem bw_pu (bs : List Bool) : Pu (bw bs) := by
  simp only [Pu, below, belows_iff, List.mem_map]
  rintro w ⟨b, _, rfl⟩
  rfl
theorem number_of_ok (h : P.fn 22 = some d_number_of) {bs : List Bool} : run P (k + 1) 22 [bw bs] S = .ok (.int (num bs)) S := by
  obtain ⟨v, e⟩ := for_fold (P := P) (C := clOf P k) (t := .nm 2) (it := .rev (.var 0)) (b := .cons (.asg (.nm 1) (.bin .add (.bin .mul (.int 2) (.var 1)) (.blt .int (.cons (.var 2) .nil)))) .nil) (S := S) (xs := (bs.map W.bl).reverse)
    (fun (t : Nat) v => [some (bw bs), some (.int t), v]) (fun t x => match x with | .bl b => 2 * t + b2n b | _ => t) (a0 := 0) (v0 := none)
    (by simp [evI, evE]) (fun a v x hx => by
      simp only [List.mem_reverse, List.mem_map] at hx
      obtain ⟨b, _, rfl⟩ := hx
      refine ⟨_, some (.bl b), rfl, ?_⟩
      cases b <;> simp [exSs, exS, evE, evEs, CMul, b2n])
  refine run_ret h rfl rfl (w := .int (num bs)) (S1 := S) ?_ (fin_pu0 (by simp [Pu, below]))
  unfold d_number_of
  dsimp only
  rw [ss_nx (env' := [some (bw bs), some (.int (0 : Nat)), none]) (S' := S) (by simp [exS, evE]), ss_nx e]
  have : ((bs.map W.bl).reverse.foldl (fun t x => match x with | .bl b => 2 * t + b2n b | _ => t) 0) = num bs := by
    rw [num_foldr, ← List.map_reverse, List.foldl_map]
  simp [exSs, exS, evE, this]
theorem values_of_ok {f : Nat} (h : P.fn f = some d_values_of) {n c : Nat} (hc : c ≤ 60) : run P (k + 1) f [.int n, .int c] S = .ok (bw (bits n c)) S := by
  obtain ⟨env', S', e, m, acc, v, he, hS, ha⟩ := for_go (P := P) (C := clOf P k) (t := .nm 3) (it := .rng1 (.var 1)) (b := .cons (.expr (.bm .append (.var 2) (.cons (.cmp .eq (.bin .mod (.var 0) (.int 2)) (.int 1)) .nil))) (.cons (.asg (.nm 0) (.bin .fdiv (.var 0) (.int 2))) .nil)) (S := S ++ [.lst []]) (S0 := S ++ [.lst []]) (xs := upTo 0 c) (g := []) (env := [some (.int n), some (.int c), some (.ref S.length), none])
    (fun i env S1 => ∃ (m : Nat) (acc : List Bool) (v : Option W), env = [some (.int m), some (.int c), some (.ref S.length), v] ∧ S ++ [.lst (acc.map W.bl)] = S1 ∧ acc ++ bits m (c - i) = bits n c ∧ acc.length = i)
    (evI_rngN (by simp [evE]) (by omega)) (fun _ _ _ _ _ => gOk_nil) ⟨n, [], none, rfl, rfl, rfl, rfl⟩ (fun i x env S1 hx ⟨m, acc, v, e1, e2, e3, e4⟩ => by
      subst e1 e2
      have hi : i < c := by
        have := (List.getElem?_eq_some_iff.mp hx).1
        rwa [upTo_len] at this
      have e5 : c - i = (c - (i + 1)) + 1 := by omega
      rw [e5, bits] at e3
      have hm : ((m : Int).fmod 2 = 1) ↔ m % 2 = 1 := by
        have := fmod_nat m (n := 2)
        have e : ((2 : Nat) : Int) = 2 := rfl
        rw [e] at this
        rw [this]
        omega
      have hd : (m : Int).fdiv 2 = ((m / 2 : Nat) : Int) := fdiv_nat m 2
      have hz : acc.length < sizeLine := Nat.lt_of_lt_of_le (show acc.length < 1000 by omega) (by decide)
      refine ⟨_, [some (.int (m / 2 : Nat)), some (.int c), some (.ref S.length), some x], S ++ [.lst ((acc ++ [decide (m % 2 = 1)]).map W.bl)], rfl, .inl ?_, m / 2, acc ++ [decide (m % 2 = 1)], some x, rfl, rfl, by simpa using e3, by simp [e4]⟩
      simp [exSs, exS, evE, evEs, bmK, bmW, hz, CDivN, hd, hm])
  subst he hS
  refine run_ret h rfl rfl (w := bw (bits n c)) (S1 := S ++ [.lst ((bits n c).map W.bl)]) ?_ (fin_pu (bw_pu _))
  rw [upTo_len, Nat.sub_self, bits, List.append_nil] at ha
  have ha := ha.1
  subst ha
  unfold d_values_of
  dsimp only
  rw [ss_nx (env' := [some (.int n), some (.int c), some (.ref S.length), none]) (S' := S ++ [.lst []]) (by simp [exS, evE, evL, evEs]), ss_nx e]
  simp [exSs, exS, evE, evEs]
end
end Eng

set_option Elab.async false
set_option linter.all false
set_option maxHeartbeats 4000000
set_option maxRecDepth 100000
/-! E23: expressions and their values (meaning.py). -/
namespace Eng
open PySem L2
@[simp] theorem tg_eq {i j : Nat} : (tg i = tg j) ↔ i = j := ⟨tg_inj i j, fun h => by rw [h]⟩
theorem ixN_nat {n i : Nat} (h : i < n) : ixN n (i : Int) = some i := by
  unfold ixN
  rw [if_pos (by omega), if_pos (by omega)]
  rfl
theorem atI_nat {α : Type} {xs : List α} {i : Nat} {x : α} (h : xs[i]? = some x) : atI xs (i : Int) = some x := by
  have hl := (List.getElem?_eq_some_iff.mp h).1
  unfold atI
  rw [ixN_nat hl]
  exact h
@[simp] theorem atI_0 {α : Type} {x : α} {xs : List α} : atI (x :: xs) 0 = some x := atI_nat (i := 0) rfl
@[simp] theorem atI_1 {α : Type} {x y : α} {xs : List α} : atI (x :: y :: xs) 1 = some y := atI_nat (i := 1) rfl
@[simp] theorem atI_2 {α : Type} {x y z : α} {xs : List α} : atI (x :: y :: z :: xs) 2 = some z := atI_nat (i := 2) rfl
@[simp] theorem atI_3 {α : Type} {x y z u : α} {xs : List α} : atI (x :: y :: z :: u :: xs) 3 = some u := atI_nat (i := 3) rfl
inductive Ex where
  | tr (b : Bool) | of (g : Bool) (i : Nat) | nt (a : Ex) | an (a b : Ex) | orr (a b : Ex) | sm (a b : Ex)
abbrev vw (g : Bool) (i : Nat) : W := .tup [.str (tg (if g then 11 else 12)), .int i]
def Ex.w : Ex → W
  | .tr b => .tup [.str (tg 44), .bl b]
  | .of g i => .tup [.str (tg 45), vw g i]
  | .nt a => .tup [.str (tg 46), a.w]
  | .an a b => .tup [.str (tg 47), a.w, b.w]
  | .orr a b => .tup [.str (tg 48), a.w, b.w]
  | .sm a b => .tup [.str (tg 49), a.w, b.w]
def Ex.wf (a b : Nat) : Ex → Prop
  | .tr _ => True
  | .of g i => i < if g then a else b
  | .nt x => x.wf a b
  | .an x y => x.wf a b ∧ y.wf a b
  | .orr x y => x.wf a b ∧ y.wf a b
  | .sm x y => x.wf a b ∧ y.wf a b
def Ex.dp : Ex → Nat
  | .tr _ => 0
  | .of _ _ => 0
  | .nt x => x.dp + 1
  | .an x y => max x.dp y.dp + 1
  | .orr x y => max x.dp y.dp + 1
  | .sm x y => max x.dp y.dp + 1
def Ex.ev (gs ls : List Bool) : Ex → Bool
  | .tr b => b
  | .of g i => (if g then gs else ls).getD i false
  | .nt x => !x.ev gs ls
  | .an x y => x.ev gs ls && y.ev gs ls
  | .orr x y => x.ev gs ls || y.ev gs ls
  | .sm x y => decide (x.ev gs ls = y.ev gs ls)
abbrev dw (gs ls : List Bool) : W := .dct [.inr (tg 11), .inr (tg 12)] [bw gs, bw ls]
theorem getD_map {bs : List Bool} {i : Nat} (h : i < bs.length) : (bs.map W.bl)[i]? = some (.bl (bs.getD i false)) := by
  rw [List.getElem?_map]
  simp [h]
/-- what all laws' programs have in common -/
structure Lib (P : Prog) : Prop where
  tag : P.tag = tg
  dfl : ∀ f, f ≠ 30 → P.dfl f = []
theorem full_no {P : Prog} (L : Lib P) {f : Nat} (h : f ≠ 30) {ws : List W} : full P f ws = ws := by
  unfold full
  rw [L.dfl f h]
  cases P.fn f <;> simp
section
variable {P : Prog} {S : Sto}
theorem value_of_ok (L : Lib P) (h : P.fn 42 = some d_value_of) {gs ls : List Bool} : ∀ {e : Ex} {k : Nat} {S : Sto}, e.wf gs.length ls.length → e.dp ≤ k → run P (k + 1) 42 [e.w, dw gs ls] S = .ok (.bl (e.ev gs ls)) S
  | .tr b, k, S, _, _ => run_ret h rfl rfl (w := .bl b) (S1 := S) (by
      unfold d_value_of
      simp [exSs, exS, evE, evEs, Ex.w, L.tag]) (fin_pu0 rfl)
  | .of g i, k, S, hw, _ => run_ret h rfl rfl (w := .bl ((Ex.of g i).ev gs ls)) (S1 := S) (by
      unfold d_value_of
      simp only [Ex.wf] at hw
      cases g with
      | true =>
        have := atI_nat (getD_map (bs := gs) (i := i) (by simpa using hw))
        simp [exSs, exS, evE, evEs, Ex.w, Ex.ev, L.tag, this]
      | false =>
        have := atI_nat (getD_map (bs := ls) (i := i) (by simpa using hw))
        simp [exSs, exS, evE, evEs, Ex.w, Ex.ev, L.tag, this]) (fin_pu0 rfl)
  | .nt x, k, S, hw, hd => by
    obtain ⟨k, rfl⟩ : ∃ k', k = k' + 1 := ⟨k - 1, by simp only [Ex.dp] at hd; omega⟩
    simp only [Ex.dp] at hd
    have i1 := fun S => value_of_ok L h (e := x) (k := k) (S := S) hw (by omega)
    refine run_ret h rfl rfl (w := .bl ((Ex.nt x).ev gs ls)) (S1 := S) ?_ (fin_pu0 rfl)
    unfold d_value_of
    simp [exSs, exS, evE, evEs, Ex.w, Ex.ev, L.tag, clOf, clG, full_no L (f := 42) (by decide), i1]
  | .an x y, k, S, hw, hd => by
    obtain ⟨k, rfl⟩ : ∃ k', k = k' + 1 := ⟨k - 1, by simp only [Ex.dp] at hd; omega⟩
    simp only [Ex.dp] at hd
    have i1 := fun S => value_of_ok L h (e := x) (k := k) (S := S) hw.1 (by omega)
    have i2 := fun S => value_of_ok L h (e := y) (k := k) (S := S) hw.2 (by omega)
    refine run_ret h rfl rfl (w := .bl ((Ex.an x y).ev gs ls)) (S1 := S) ?_ (fin_pu0 rfl)
    unfold d_value_of
    cases c : x.ev gs ls <;> simp [exSs, exS, evE, evEs, evAnd, Ex.w, Ex.ev, L.tag, clOf, clG, full_no L (f := 42) (by decide), i1, i2, c]
  | .orr x y, k, S, hw, hd => by
    obtain ⟨k, rfl⟩ : ∃ k', k = k' + 1 := ⟨k - 1, by simp only [Ex.dp] at hd; omega⟩
    simp only [Ex.dp] at hd
    have i1 := fun S => value_of_ok L h (e := x) (k := k) (S := S) hw.1 (by omega)
    have i2 := fun S => value_of_ok L h (e := y) (k := k) (S := S) hw.2 (by omega)
    refine run_ret h rfl rfl (w := .bl ((Ex.orr x y).ev gs ls)) (S1 := S) ?_ (fin_pu0 rfl)
    unfold d_value_of
    cases c : x.ev gs ls <;> simp [exSs, exS, evE, evEs, evOr, Ex.w, Ex.ev, L.tag, clOf, clG, full_no L (f := 42) (by decide), i1, i2, c]
  | .sm x y, k, S, hw, hd => by
    obtain ⟨k, rfl⟩ : ∃ k', k = k' + 1 := ⟨k - 1, by simp only [Ex.dp] at hd; omega⟩
    simp only [Ex.dp] at hd
    have i1 := fun S => value_of_ok L h (e := x) (k := k) (S := S) hw.1 (by omega)
    have i2 := fun S => value_of_ok L h (e := y) (k := k) (S := S) hw.2 (by omega)
    refine run_ret h rfl rfl (w := .bl ((Ex.sm x y).ev gs ls)) (S1 := S) ?_ (fin_pu0 rfl)
    unfold d_value_of
    simp [exSs, exS, evE, evEs, Ex.w, Ex.ev, L.tag, clOf, clG, full_no L (f := 42) (by decide), i1, i2]
theorem no_values_ok (h : P.fn 20 = some d_no_values) {k n : Nat} (hn : n ≤ 1000) : run P (k + 1) 20 [.int n] S = .ok (bw (List.replicate n false)) S := by
  have e := comp_go (P := P) (C := clOf P k) (own := [1]) (t := .nm 1) (it := .rng1 (.var 0)) (tst := .nil) (e := .bl false) (env := [some (.int n), none]) (S := S) (xs := upTo 0 n) (g := []) (h := fun _ => some (.bl false)) (evI_rngN (by simp [evE]) (by omega)) (fun _ => gOk_nil)
    (by rw [upTo_len]; exact Nat.le_trans hn (by decide)) (fun x hx acc => ⟨_, rfl, true, by simp [evAll], .inr ⟨_, rfl, rfl, by simp [evE], rfl⟩⟩)
  have e2 : (upTo 0 n).filterMap (fun _ => some (W.bl false)) = (List.replicate n false).map W.bl := by
    rw [List.filterMap_eq_map' ]
    rw [List.map_const', upTo_len, List.map_replicate]
  rw [e2] at e
  refine run_ret h rfl rfl (w := bw (List.replicate n false)) (S1 := S) ?_ (fin_pu0 (bw_pu _))
  unfold d_no_values
  simp [exSs, exS, evE, evEs] at e ⊢
  simp [e]
end
end Eng

set_option Elab.async false
set_option linter.all false
set_option maxHeartbeats 4000000
set_option maxRecDepth 100000
/-! E24: statements, points, what a point leads to (meaning.py). -/
namespace Eng
open PySem L2
inductive St where
  | set (g : Bool) (i : Nat) (e : Ex) | free (g : Bool) (i : Nat) | call (p : Nat) | pass (n : Nat) | ret
  | ifs (e : Ex) (a b : List St) | either (a b : List St) | wh (e : Ex) (a : List St) | rep (a : List St)
mutual
def St.w : St → W
  | .set g i e => .tup [.str (tg 31), vw g i, e.w]
  | .free g i => .tup [.str (tg 32), vw g i]
  | .call p => .tup [.str (tg 28), .int p]
  | .pass n => .tup [.str (tg 33), .int n]
  | .ret => .tup [.str (tg 27)]
  | .ifs e a b => .tup [.str (tg 34), e.w, .tup (Sts.w a), .tup (Sts.w b)]
  | .either a b => .tup [.str (tg 35), .tup (Sts.w a), .tup (Sts.w b)]
  | .wh e a => .tup [.str (tg 36), e.w, .tup (Sts.w a)]
  | .rep a => .tup [.str (tg 37), .tup (Sts.w a)]
def Sts.w : List St → List W
  | [] => []
  | s :: ss => s.w :: Sts.w ss
end
/-- a point -/
structure Pt where
  pr : Nat
  st : Option St
  en : List Nat
  fo : Option Nat
def iw (n : Nat) : W := .int n
def Pt.stw (p : Pt) : W := match p.st with | some s => s.w | none => .non
def Pt.fow (p : Pt) : W := match p.fo with | some n => .int n | none => .non
def Pt.w (p : Pt) : W := .ins 7 [20, 26, 23, 29] [.int p.pr, p.stw, .lst (p.en.map iw), p.fow]
def setB (b g : Bool) (bs : List Bool) (i : Nat) (v : Bool) : List Bool := if b = g then bs.set i v else bs
/-- where a point leads -/
def Pt.go (p : Pt) (gs ls : List Bool) : List (Nat × List Bool × List Bool) := match p.st, p.fo with
  | some (.set g i e), some f => [(f, setB true g gs i (e.ev gs ls), setB false g ls i (e.ev gs ls))]
  | some (.free g i), some f => [(f, setB true g gs i false, setB false g ls i false), (f, setB true g gs i true, setB false g ls i true)]
  | some (.pass _), some f => [(f, gs, ls)]
  | some (.either _ _), _ => [(p.en.getD 0 0, gs, ls), (p.en.getD 1 0, gs, ls)]
  | some (.rep _), some f => [(p.en.getD 0 0, gs, ls), (f, gs, ls)]
  | some (.ifs e _ _), _ => [(p.en.getD (if e.ev gs ls then 0 else 1) 0, gs, ls)]
  | some (.wh e _), some f => [(if e.ev gs ls then p.en.getD 0 0 else f, gs, ls)]
  | _, _ => []
/-- a statement that goes on within its procedure -/
def St.in_ : St → Prop
  | .call _ => False
  | .ret => False
  | _ => True
/-- a point that is complete, where a globals and b locals stand -/
def Pt.ok (p : Pt) (a b : Nat) : Prop := match p.st with
  | some (.set g i e) => i < (if g then a else b) ∧ e.wf a b ∧ e.dp ≤ 10 ∧ p.fo.isSome
  | some (.free g i) => i < (if g then a else b) ∧ p.fo.isSome
  | some (.pass _) => p.fo.isSome
  | some (.either _ _) => 2 ≤ p.en.length
  | some (.rep _) => 1 ≤ p.en.length ∧ p.fo.isSome
  | some (.ifs e _ _) => 2 ≤ p.en.length ∧ e.wf a b ∧ e.dp ≤ 10
  | some (.wh e _) => 1 ≤ p.en.length ∧ p.fo.isSome ∧ e.wf a b ∧ e.dp ≤ 10
  | some (.call _) => p.fo.isSome
  | _ => True
def gw (x : Nat × List Bool × List Bool) : W := .tup [.int x.1, dw x.2.1 x.2.2]
theorem map_set_bl {bs : List Bool} {i : Nat} {v : Bool} : (bs.map W.bl).set i (.bl v) = (bs.set i v).map W.bl := by rw [List.map_set]
section
variable {P : Prog} {S : Sto} {k : Nat}
theorem with_value_ok (L : Lib P) (h : P.fn 43 = some d_with_value) {gs ls : List Bool} {g : Bool} {i : Nat} {v : Bool} (hi : i < if g then gs.length else ls.length) :
    run P (k + 1) 43 [dw gs ls, vw g i, .bl v] S = .ok (dw (setB true g gs i v) (setB false g ls i v)) S := by
  refine run_ret h rfl rfl (w := .ref S.length) (S1 := S ++ [.dK [.inr (tg 11), .inr (tg 12)] [bw (setB true g gs i v), bw (setB false g ls i v)], .lst ((if g then gs.set i v else ls.set i v).map W.bl)]) ?_ ?_
  · unfold d_with_value
    dsimp only
    have h2 : 2 < sizeLine := by decide
    rw [ss_nx (env' := [some (dw gs ls), some (vw g i), some (.bl v), some (.ref S.length), none]) (S' := S ++ [.dK [.inr (tg 11), .inr (tg 12)] [bw gs, bw ls]]) (by simp [exS, evE])]
    rw [ss_nx (env' := [some (dw gs ls), some (vw g i), some (.bl v), some (.ref S.length), some (.ref (S.length + 1))]) (S' := S ++ [.dK [.inr (tg 11), .inr (tg 12)] [bw gs, bw ls], .lst ((if g then gs else ls).map W.bl)])
      (by
        have e1 : evE P (clOf P k) (.idx (.var 0) (.idx (.var 1) (.int 0))) [some (dw gs ls), some (vw g i), some (.bl v), some (.ref S.length), none] (S ++ [.dK [.inr (tg 11), .inr (tg 12)] [bw gs, bw ls]]) = .ok (bw (if g then gs else ls)) (S ++ [.dK [.inr (tg 11), .inr (tg 12)] [bw gs, bw ls]]) := by
          simp only [evE, List.getElem?_cons_succ, List.getElem?_cons_zero, Option.join_some, R.of_some_, R.bind_ok_]
          cases g <;> simp
        rw [exS, evE, evL, e1]
        simp [asSeq])]
    have hx := ixN_nat (n := ((if g then gs else ls).map W.bl).length) (i := i) (by rw [List.length_map]; cases g <;> exact hi)
    rw [ss_nx (env' := [some (dw gs ls), some (vw g i), some (.bl v), some (.ref S.length), some (.ref (S.length + 1))]) (S' := S ++ [.dK [.inr (tg 11), .inr (tg 12)] [bw gs, bw ls], .lst ((if g then gs.set i v else ls.set i v).map W.bl)])
      (by
        simp only [exS, evE, R.bind_ok_, R.of_some_, List.getElem?_cons_succ, List.getElem?_cons_zero, Option.join_some, idxW, asDict, asSeq, atI_1, subW]
        have e1 : (S ++ [Ob.dK [.inr (tg 11), .inr (tg 12)] [bw gs, bw ls], .lst ((if g then gs else ls).map W.bl)])[S.length + 1]? = some (.lst ((if g then gs else ls).map W.bl)) := by simp
        rw [e1]
        dsimp only
        rw [hx]
        simp only [Option.map_some]
        cases g <;> simp)]
    rw [ss_nx (env' := [some (dw gs ls), some (vw g i), some (.bl v), some (.ref S.length), some (.ref (S.length + 1))]) (S' := S ++ [.dK [.inr (tg 11), .inr (tg 12)] [bw (setB true g gs i v), bw (setB false g ls i v)], .lst ((if g then gs.set i v else ls.set i v).map W.bl)])
      (by cases g <;> simp [exS, evE, evEs, subW, h2, dPut, setB])]
    simp [exSs, exS, evE]
  · unfold d_with_value
    simp only [finF, if_true]
    refine exit_same ?_
    rw [resW_ref (Nat.le_refl _)]
    exact deref_dK (by simp) (pus_at (by intro w hw; rcases List.mem_cons.mp hw with rfl | hw; exact bw_pu _; rcases List.mem_cons.mp hw with rfl | hw; exact bw_pu _; cases hw) _)
end
end Eng

set_option Elab.async false
set_option linter.all false
set_option maxHeartbeats 4000000
set_option maxRecDepth 100000
/-! E25: Walker.goals. -/
namespace Eng
open PySem L2
theorem gw_pu (x : Nat × List Bool × List Bool) : Pu (gw x) := by
  have h1 := bw_pu x.2.1
  have h2 := bw_pu x.2.2
  unfold Pu at h1 h2
  simp [gw, Pu, below, belows] at h1 h2 ⊢
  exact ⟨h1, h2⟩
theorem lst_pu {xs : List W} (h : ∀ x ∈ xs, Pu x) : Pu (.lst xs) := by
  simp only [Pu, below]
  exact belows_iff.mpr h
theorem tup_pu {xs : List W} (h : ∀ x ∈ xs, Pu x) : Pu (.tup xs) := by
  simp only [Pu, below]
  exact belows_iff.mpr h
theorem map_pu {α : Type} {f : α → W} {xs : List α} (h : ∀ x, Pu (f x)) : ∀ w ∈ xs.map f, Pu w := by
  intro w hw
  obtain ⟨x, _, rfl⟩ := List.mem_map.mp hw
  exact h x
section
variable {P : Prog} {S : Sto} {k : Nat}
theorem goals_ok (L : Lib P) (h42 : P.fn 42 = some d_value_of) (h43 : P.fn 43 = some d_with_value) (h : P.fn 34 = some d_Walker_goals) {self : W} {p : Pt} {s : St} (hs : p.st = some s) (hi : s.in_) {gs ls : List Bool} (ho : p.ok gs.length ls.length) (hk : 12 ≤ k) :
    run P (k + 1) 34 [self, p.w, dw gs ls] S = .ok (.lst ((p.go gs ls).map gw)) S := by
  obtain ⟨k, rfl⟩ : ∃ k', k = k' + 1 := ⟨k - 1, by omega⟩
  have hsl : (2 : Nat) ≤ sizeLine := by decide
  have h1l : (1 : Nat) ≤ sizeLine := by decide
  have hv := fun {e : Ex} (S : Sto) (hw : e.wf gs.length ls.length) (hd : e.dp ≤ 10) => value_of_ok (S := S) (k := k) L h42 hw (by omega)
  have hw := fun {g : Bool} {i : Nat} (v : Bool) (S : Sto) (hi : i < if g then gs.length else ls.length) => with_value_ok (S := S) (k := k) L h43 (v := v) hi
  obtain ⟨pr, st, en, fo⟩ := p
  dsimp only at hs
  subst hs
  refine run_ret h rfl rfl (w := .lst _) (S1 := S) ?_ (fin_pu0 (lst_pu (map_pu gw_pu)))
  unfold d_Walker_goals
  simp only [Pt.ok] at ho
  cases s with
  | call _ => exact hi.elim
  | ret => exact hi.elim
  | set g i e =>
    obtain ⟨o1, o2, o3, o4⟩ := ho
    cases fo with
    | none => cases o4
    | some f =>
      have e1 := fun S => hv S o2 o3
      have e2 := fun v S => hw v S o1
      simp [exSs, exS, evE, evEs, evL, Pt.w, Pt.stw, Pt.fow, St.w, Pt.go, L.tag, clOf, clG, full_no L (f := 42) (by decide), full_no L (f := 43) (by decide), e1, e2, h1l, hsl, gw]
  | free g i =>
    obtain ⟨o1, o4⟩ := ho
    cases fo with
    | none => cases o4
    | some f =>
      have e2 := fun v S => hw v S o1
      have e := comp_go (P := P) (C := clOf P (k + 1)) (own := [5]) (t := .nm 5) (it := .seq (.tup (.cons (.bl false) (.cons (.bl true) .nil)))) (tst := .nil) (e := (.tup (.cons (.fld (.var 1) 29) (.cons (.call 43 (.cons (.var 2) (.cons (.idx (.var 3) (.int 1)) (.cons (.var 5) .nil)))) .nil))))
        (env := [some self, some (Pt.w ⟨pr, some (.free g i), en, some f⟩), some (dw gs ls), some (St.w (.free g i)), some (.str (tg 32)), none]) (S := S) (xs := [.bl false, .bl true]) (g := [])
        (h := fun x => match x with | .bl v => some (gw (f, setB true g gs i v, setB false g ls i v)) | _ => none) (by simp [evI, evE, evEs, hsl]) (fun _ => gOk_nil) hsl
        (fun x hx acc => by
          have : ∃ v, x = .bl v := by
            simp at hx
            rcases hx with rfl | rfl <;> exact ⟨_, rfl⟩
          obtain ⟨v, rfl⟩ := this
          refine ⟨_, rfl, true, by simp [evAll], .inr ⟨_, rfl, rfl, ?_, (gw_pu _).at _⟩⟩
          simp [evE, evEs, wipeE, Pt.w, Pt.fow, St.w, L.tag, clOf, clG, full_no L (f := 43) (by decide), e2, hsl, gw])
      simp [exSs, exS, evE, evEs, Pt.w, Pt.stw, Pt.fow, St.w, Pt.go, L.tag] at e ⊢
      rw [e]
      simp [gw]
  | pass n =>
    cases fo with
    | none => cases ho
    | some f => simp [exSs, exS, evE, evEs, evL, Pt.w, Pt.stw, Pt.fow, St.w, Pt.go, L.tag, h1l, hsl, gw]
  | either a b =>
    match en, ho with
    | x :: y :: en, _ => simp [exSs, exS, evE, evEs, evL, Pt.w, Pt.stw, Pt.fow, St.w, Pt.go, L.tag, h1l, hsl, gw, iw]
  | rep a =>
    obtain ⟨o1, o4⟩ := ho
    cases fo with
    | none => cases o4
    | some f =>
      match en, o1 with
      | x :: en, _ => simp [exSs, exS, evE, evEs, evL, Pt.w, Pt.stw, Pt.fow, St.w, Pt.go, L.tag, h1l, hsl, gw, iw]
  | ifs e a b =>
    obtain ⟨o1, o2, o3⟩ := ho
    have e1 := fun S => hv S o2 o3
    match en, o1 with
    | x :: y :: en, _ =>
      cases c : e.ev gs ls <;> simp [exSs, exS, evE, evEs, evL, Pt.w, Pt.stw, Pt.fow, St.w, Pt.go, L.tag, clOf, clG, full_no L (f := 42) (by decide), h1l, hsl, gw, iw, e1, c]
  | wh e a =>
    obtain ⟨o1, o4, o2, o3⟩ := ho
    have e1 := fun S => hv S o2 o3
    cases fo with
    | none => cases o4
    | some f =>
      match en, o1 with
      | x :: en, _ =>
        cases c : e.ev gs ls <;> simp [exSs, exS, evE, evEs, evL, Pt.w, Pt.stw, Pt.fow, St.w, Pt.go, L.tag, clOf, clG, full_no L (f := 42) (by decide), h1l, hsl, gw, iw, e1, c]
end
end Eng

set_option Elab.async false
set_option linter.all false
set_option maxHeartbeats 4000000
set_option maxRecDepth 100000
/-! E26: Walker.after. -/
namespace Eng
open PySem L2
structure Mp where
  pts : List Pt
  ents : List Nat
structure Pg where
  g : Nat
  procs : List (Nat × List St)
def Mp.w (m : Mp) : W := .ins 6 [19, 23] [.lst (m.pts.map Pt.w), .lst (m.ents.map iw)]
def prw (x : Nat × List St) : W := .tup [.int x.1, .tup (Sts.w x.2)]
def Pg.w (p : Pg) : W := .ins 0 [1, 2] [.int p.g, .tup (p.procs.map prw)]
def wkw (p : Pg) (m : Mp) : W := .ins 4 [15, 18] [p.w, m.w]
abbrev Fr := Nat × List Bool
def fw (f : Fr) : W := .tup [.int f.1, bw f.2]
def aw (x : List Bool × List Fr) : W := .tup [bw x.1, .tup (x.2.map fw)]
/-- where a situation's first frame leads -/
def Mp.after (m : Mp) (p : Pg) (gs : List Bool) (f : Fr) : List (List Bool × List Fr) := match m.pts[f.1]? with
  | none => []
  | some t => match t.st with
    | none => [(gs, [])]
    | some .ret => [(gs, [])]
    | some (.call q) => [(gs, [(m.ents.getD q 0, List.replicate (p.procs.getD q (0, [])).1 false), (t.fo.getD 0, f.2)])]
    | some _ => (t.go gs f.2).map fun x => (x.2.1, [(x.1, x.2.2)])
theorem fw_pu (f : Fr) : Pu (fw f) := by
  have h1 := bw_pu f.2
  unfold Pu at h1
  simp [fw, Pu, below, belows] at h1 ⊢
  exact h1
theorem aw_pu (x : List Bool × List Fr) : Pu (aw x) := by
  have h1 := bw_pu x.1
  have h2 := tup_pu (map_pu fw_pu (xs := x.2))
  unfold Pu at h1 h2
  simp [aw, Pu, below, belows] at h1 h2 ⊢
  exact ⟨h1, h2⟩
/-- the meanings' functions stand -/
structure LMean (P : Prog) : Prop extends Lib P where
  f20 : P.fn 20 = some d_no_values
  f42 : P.fn 42 = some d_value_of
  f43 : P.fn 43 = some d_with_value
  f34 : P.fn 34 = some d_Walker_goals
  f21 : P.fn 21 = some d_Walker_entry_frame
  f25 : P.fn 25 = some d_Walker_after
  m5 : P.meth 4 5 = some 21
  m30 : P.meth 4 30 = some 34
  m9 : P.meth 4 9 = some 25
section
variable {P : Prog} {S : Sto} {k : Nat}
theorem entry_frame_ok (L : LMean P) {p : Pg} {m : Mp} {q : Nat} (h1 : q < m.ents.length) (h2 : q < p.procs.length) (h3 : (p.procs.getD q (0, [])).1 ≤ 1000) (hk : 1 ≤ k) :
    run P (k + 1) 21 [wkw p m, .int q] S = .ok (fw (m.ents.getD q 0, List.replicate (p.procs.getD q (0, [])).1 false)) S := by
  obtain ⟨k, rfl⟩ : ∃ k', k = k' + 1 := ⟨k - 1, by omega⟩
  refine run_ret L.f21 rfl rfl (w := fw _) (S1 := S) ?_ (fin_pu0 (fw_pu _))
  have e1 : L2.atI (m.ents.map iw) (q : Int) = some (.int (m.ents.getD q 0 : Nat)) := atI_nat (by simp [h1, iw])
  have e2 : L2.atI (p.procs.map prw) (q : Int) = some (prw (p.procs.getD q (0, []))) := atI_nat (by simp [h2])
  have e3 := fun S => no_values_ok (S := S) (k := k) L.f20 h3
  have h2l : (2 : Nat) ≤ sizeLine := by decide
  simp only [List.getD_eq_getElem?_getD] at e1 e2 e3 ⊢
  unfold d_Walker_entry_frame
  simp [exSs, exS, evE, evEs, wkw, Mp.w, Pg.w, e1, e2, prw, clOf, clG, full_no L.toLib (f := 20) (by decide), e3, h2l, fw]
theorem wafter_ok (L : LMean P) {p : Pg} {m : Mp} {gs : List Bool} {f : Fr} {t : Pt} (ht : m.pts[f.1]? = some t) (ho : t.ok gs.length f.2.length)
    (hc : ∀ q, t.st = some (.call q) → q < m.ents.length ∧ q < p.procs.length ∧ (p.procs.getD q (0, [])).1 ≤ 1000) (hk : 14 ≤ k) :
    run P (k + 1) 25 [wkw p m, bw gs, fw f] S = .ok (.lst ((m.after p gs f).map aw)) S := by
  obtain ⟨k, rfl⟩ : ∃ k', k = k' + 1 := ⟨k - 1, by omega⟩
  have hsl : (2 : Nat) ≤ sizeLine := by decide
  have h1l : (1 : Nat) ≤ sizeLine := by decide
  have h0l : (0 : Nat) ≤ sizeLine := by decide
  have e1 : L2.atI (m.pts.map Pt.w) (f.1 : Int) = some t.w := atI_nat (by simp [ht])
  obtain ⟨pl, ls⟩ := f
  dsimp only at ht e1 ho
  obtain ⟨pr, st, en, fo⟩ := t
  unfold Mp.after
  dsimp only
  rw [ht]
  dsimp only
  cases st with
  | none =>
    refine run_ret L.f25 rfl rfl (w := .lst _) (S1 := S) ?_ (fin_pu0 (lst_pu (map_pu aw_pu)))
    unfold d_Walker_after
    simp [exSs, exS, evE, evEs, evL, evOr, fw, wkw, Mp.w, e1, Pt.w, Pt.stw, Pt.fow, h1l, hsl, h0l, aw]
  | some s =>
    by_cases hi : s.in_
    · have hgo : (match some s with
          | none => [(gs, [])]
          | some .ret => [(gs, [])]
          | some (.call q) => [(gs, [(m.ents.getD q 0, List.replicate (p.procs.getD q (0, [])).1 false), (fo.getD 0, ls)])]
          | some _ => ((⟨pr, some s, en, fo⟩ : Pt).go gs ls).map fun x => (x.2.1, [(x.1, x.2.2)])) = ((⟨pr, some s, en, fo⟩ : Pt).go gs ls).map fun x => (x.2.1, [(x.1, x.2.2)]) := by
        cases s <;> first | rfl | exact hi.elim
      rw [hgo]
      have hg := fun S => goals_ok (S := S) (k := k) L.toLib L.f42 L.f43 L.f34 (self := wkw p m) (p := ⟨pr, some s, en, fo⟩) (s := s) rfl hi ho (by omega)
      generalize hgs : ((⟨pr, some s, en, fo⟩ : Pt).go gs ls) = gos at hg ⊢
      have hlen : gos.length ≤ 2 := by
        rw [← hgs]
        unfold Pt.go
        cases s <;> cases fo <;> simp
      have sw : ∃ t1 r1, s.w = .tup (.str (tg t1) :: r1) ∧ t1 ≠ 27 ∧ t1 ≠ 28 := by
        cases s <;> first | exact hi.elim | exact ⟨_, _, by rw [St.w], by decide, by decide⟩
      obtain ⟨t1, r1, sw, n1, n2⟩ := sw
      have lz : ∀ {n : Nat}, n ≤ 2 → n < sizeLine := fun h => Nat.lt_of_le_of_lt h (by decide)
      obtain ⟨env', S', e, v7, v8, he, hS⟩ := for_go (P := P) (C := clOf P (k + 1)) (t := .tp [(.nm 7), (.nm 8)]) (it := .seq (.meth (.var 0) 30 (.cons (.var 5) (.cons (.dict [11, 12] (.cons (.var 1) (.cons (.var 4) .nil))) .nil))))
        (b := .cons (.expr (.bm .append (.var 6) (.cons (.tup (.cons (.idx (.var 8) (.str 11)) (.cons (.tup (.cons (.tup (.cons (.var 7) (.cons (.idx (.var 8) (.str 12)) .nil))) .nil)) .nil))) .nil))) .nil)
        (env := [some (wkw p m), some (bw gs), some (fw (pl, ls)), some (.int pl), some (bw ls), some (Pt.w ⟨pr, some s, en, fo⟩), some (.ref S.length), none, none]) (S := S ++ [.lst []]) (S0 := S ++ [.lst []]) (xs := gos.map gw) (g := [])
        (fun i env S1 => ∃ v7 v8, env = [some (wkw p m), some (bw gs), some (fw (pl, ls)), some (.int pl), some (bw ls), some (Pt.w ⟨pr, some s, en, fo⟩), some (.ref S.length), v7, v8] ∧ S ++ [.lst (((gos.take i).map fun x => (x.2.1, [(x.1, x.2.2)])).map aw)] = S1)
        (by
          have ed : evE P (clOf P (k + 1)) (.dict [11, 12] (.cons (.var 1) (.cons (.var 4) .nil))) [some (wkw p m), some (bw gs), some (fw (pl, ls)), some (.int pl), some (bw ls), some (Pt.w ⟨pr, some s, en, fo⟩), some (.ref S.length), none, none] (S ++ [.lst []]) = .ok (dw gs ls) (S ++ [.lst []]) := by
            rw [evE]
            simp only [evEs, evE, List.getElem?_cons_succ, List.getElem?_cons_zero, Option.join_some, R.of_some_, R.bind_ok_]
            have e1 : ((S ++ [Ob.lst []]) ++ [Ob.dK [] []])[(S ++ [Ob.lst []]).length]? = some (.dK [] []) := by simp
            rw [e1]
            dsimp only
            rw [if_pos ⟨rfl, by decide, by simp [L.tag]⟩]
            have e2 : ((S ++ [Ob.lst []]) ++ [Ob.dK [] []]).set (S ++ [Ob.lst []]).length (.dK ([11, 12].map fun t => .inr (P.tag t)) [bw gs, bw ls]) = (S ++ [.lst []]) ++ [.dK [.inr (tg 11), .inr (tg 12)] [bw gs, bw ls]] := by simp [L.tag]
            rw [e2]
            refine exit_same ?_
            rw [resW_ref (Nat.le_refl _)]
            exact deref_dK (by simp) (pus_at (by intro w hw; rcases List.mem_cons.mp hw with rfl | hw; exact bw_pu _; rcases List.mem_cons.mp hw with rfl | hw; exact bw_pu _; cases hw) _)
          generalize (CE.dict [11, 12] (.cons (.var 1) (.cons (.var 4) .nil))) = de at ed ⊢
          rw [evI, evE]
          simp only [evE, evEs, List.getElem?_cons_succ, List.getElem?_cons_zero, Option.join_some, R.of_some_, R.bind_ok_]
          simp only [wkw, asIns_ins, L.m30]
          rw [if_neg (by decide)]
          have ed' := ed
          simp only [wkw] at ed'
          rw [ed']
          simp only [R.bind_ok_, clOf, clG, full_no L.toLib (f := 34) (by decide)]
          have := hg (S ++ [.lst []])
          simp only [wkw] at this
          rw [this]
          simp) (fun _ _ _ _ _ => gOk_nil) ⟨none, none, rfl, by simp⟩ (fun i x env S1 hx ⟨v7, v8, e1, e2⟩ => by
          subst e1 e2
          rw [List.getElem?_map] at hx
          cases c : gos[i]? with
          | none => rw [c] at hx; cases hx
          | some y =>
            rw [c] at hx
            simp only [Option.map_some, Option.some.injEq] at hx
            subst hx
            have hil : i < gos.length := (List.getElem?_eq_some_iff.mp c).1
            have htk : gos.take (i + 1) = gos.take i ++ [y] := by
              rw [List.take_add_one, c]
              rfl
            refine ⟨_, _, S ++ [.lst (((gos.take (i + 1)).map fun x => (x.2.1, [(x.1, x.2.2)])).map aw)], by simp [gw]; rfl, .inl ?_, some (.int y.1), some (dw y.2.1 y.2.2), rfl, rfl⟩
            have hz := lz (show (((gos.take i).map fun x => (x.2.1, [(x.1, x.2.2)])).map aw).length ≤ 2 by simp; omega)
            have ha := append_ref (S := S ++ [.lst (((gos.take i).map fun x => (x.2.1, [(x.1, x.2.2)])).map aw)]) (l := S.length) (x := aw (y.2.1, [(y.1, y.2.2)])) (by simp) hz
            rw [htk]
            simp [exSs, exS, evE, evEs, bmK, L.tag, h1l, hsl, aw, fw] at ha ⊢
            rw [ha]
            simp [aw, fw])
      subst he hS
      rw [List.length_map, List.take_length] at e
      refine run_ret L.f25 rfl rfl (w := .ref S.length) (S1 := S ++ [.lst ((gos.map fun x => (x.2.1, [(x.1, x.2.2)])).map aw)]) ?_ ?_
      · unfold d_Walker_after
        dsimp only
        rw [ss_nx (env' := [some (wkw p m), some (bw gs), some (fw (pl, ls)), some (.int pl), some (bw ls), none, none, none, none]) (S' := S) (by simp [exS, evE, fw])]
        rw [ss_nx (env' := [some (wkw p m), some (bw gs), some (fw (pl, ls)), some (.int pl), some (bw ls), some (Pt.w ⟨pr, some s, en, fo⟩), none, none, none]) (S' := S) (by simp [exS, evE, wkw, Mp.w, e1])]
        rw [ss_nx (env' := [some (wkw p m), some (bw gs), some (fw (pl, ls)), some (.int pl), some (bw ls), some (Pt.w ⟨pr, some s, en, fo⟩), none, none, none]) (S' := S) (by simp [exS, exSs, evE, evOr, Pt.w, Pt.stw, sw, L.tag, n1])]
        rw [ss_nx (env' := [some (wkw p m), some (bw gs), some (fw (pl, ls)), some (.int pl), some (bw ls), some (Pt.w ⟨pr, some s, en, fo⟩), none, none, none]) (S' := S) (by simp [exS, exSs, evE, Pt.w, Pt.stw, sw, L.tag, n2])]
        rw [ss_nx (env' := [some (wkw p m), some (bw gs), some (fw (pl, ls)), some (.int pl), some (bw ls), some (Pt.w ⟨pr, some s, en, fo⟩), some (.ref S.length), none, none]) (S' := S ++ [.lst []]) (by simp [exS, evE, evL, evEs])]
        rw [ss_nx e]
        simp [exSs, exS, evE]
      · refine exit_same ?_
        rw [resW_ref (Nat.le_refl _)]
        exact deref_lst (by simp) (pus_at (map_pu aw_pu) _)
    · cases s <;> first | exact absurd trivial hi | skip
      · -- call
        rename_i q
        obtain ⟨q1, q2, q3⟩ := hc q rfl
        simp only [Pt.ok] at ho
        cases fo with
        | none => cases ho
        | some fo =>
          have e3 := fun S => entry_frame_ok (S := S) (k := k) L (p := p) (m := m) q1 q2 q3 (by omega)
          refine run_ret L.f25 rfl rfl (w := .lst _) (S1 := S) ?_ (fin_pu0 (lst_pu (map_pu aw_pu)))
          have hself : wkw p m = .ins 4 [15, 18] [p.w, m.w] := rfl
          unfold d_Walker_after
          simp [exSs, exS, evE, evEs, evL, evOr, fw, wkw, Mp.w, e1, Pt.w, Pt.stw, Pt.fow, St.w, L.tag, L.m5, clOf, clG, full_no L.toLib (f := 21) (by decide), h1l, hsl, h0l, aw] at e3 ⊢
          rw [e3]
          simp [h1l, hsl]
      · refine run_ret L.f25 rfl rfl (w := .lst _) (S1 := S) ?_ (fin_pu0 (lst_pu (map_pu aw_pu)))
        unfold d_Walker_after
        simp [exSs, exS, evE, evEs, evL, evOr, fw, wkw, Mp.w, e1, Pt.w, Pt.stw, Pt.fow, St.w, L.tag, h1l, hsl, h0l, aw]
end
end Eng

set_option Elab.async false
set_option linter.all false
set_option maxHeartbeats 4000000
set_option maxRecDepth 100000
/-! E27: comprehensions over typed lists; begin, after. -/
namespace Eng
open PySem L2
theorem compL_ty {α : Type} {wy : α → W} {h : α → Option W} {g : List (Nat × List W)} {f : W → Sto → R (Option W)} {S : Sto} (hg : ∀ acc, gOk (S ++ [.lst acc]) g) :
    ∀ (ys : List α) (acc : List W), (∀ y ∈ ys, ∀ acc, f (wy y) (S ++ [.lst acc]) = .ok (h y) (S ++ [.lst acc])) → acc.length + ys.length ≤ sizeLine →
      compL g S.length f (ys.map wy) (S ++ [.lst acc]) = .ok () (S ++ [.lst (acc ++ ys.filterMap h)])
  | [], acc, _, _ => by
    rw [List.map_nil]
    unfold compL
    rw [if_pos (hg acc)]
    simp
  | y :: ys, acc, hf, hl => by
    rw [List.map_cons]
    unfold compL
    rw [if_pos (hg acc), hf y List.mem_cons_self acc]
    simp only [R.bind_ok_]
    have hf' : ∀ z ∈ ys, ∀ acc, f (wy z) (S ++ [.lst acc]) = .ok (h z) (S ++ [.lst acc]) := fun z hz => hf z (List.mem_cons_of_mem _ hz)
    simp only [List.length_cons] at hl
    cases c : h y with
    | none =>
      dsimp only
      rw [compL_ty hg ys acc hf' (by omega), List.filterMap_cons, c]
    | some w =>
      dsimp only
      have e1 : (S ++ [Ob.lst acc])[S.length]? = some (.lst acc) := by simp
      have e2 : (S ++ [Ob.lst acc]).set S.length (.lst (acc ++ [w])) = S ++ [.lst (acc ++ [w])] := by simp
      rw [e1]
      dsimp only
      rw [if_pos (by omega), e2, compL_ty hg ys (acc ++ [w]) hf' (by simp; omega), List.filterMap_cons, c]
      simp
theorem comp_ty {α : Type} {wy : α → W} {h : α → Option W} {P : Prog} {C : Cl} {own : List Nat} {t : CT} {it : CI} {tst : CEs} {e : CE} {env : Env} {S : Sto} {ys : List α} {g : List (Nat × List W)} (hi : evI P C it env S = .ok (ys.map wy, g) S) (hg : ∀ acc, gOk (S ++ [.lst acc]) g) (hl : ys.length ≤ sizeLine)
    (hf : ∀ y ∈ ys, ∀ acc, ∃ env', asgT t (wy y) (wipeE env own) = some env' ∧ ∃ b, evAll P C tst env' (S ++ [.lst acc]) = .ok b (S ++ [.lst acc]) ∧ ((b = false ∧ h y = none) ∨ ∃ w, b = true ∧ h y = some w ∧ evE P C e env' (S ++ [.lst acc]) = .ok w (S ++ [.lst acc]) ∧ below S.length w = true)) :
    evE P C (.comp true own t it tst e) env S = .ok (.lst (ys.filterMap h)) S := by
  rw [evE, hi]
  simp only [R.bind_ok_]
  rw [compL_ty (h := h) hg ys [] (fun y hy acc => ?_) (by simpa using hl)]
  · simp only [R.bind_ok_, List.nil_append, if_true]
    have hb : belows S.length (ys.filterMap h) = true := by
      refine belows_iff.mpr fun w hw => ?_
      obtain ⟨y, hy, e1⟩ := List.mem_filterMap.mp hw
      obtain ⟨env', _, b, _, q⟩ := hf y hy []
      rcases q with ⟨_, q⟩ | ⟨w', _, q, _, hb⟩
      · rw [e1] at q; cases q
      · rw [e1] at q; cases q; exact hb
    refine exit_same ?_
    rw [resW_ref (Nat.le_refl _)]
    exact deref_lst (by simp) hb
  · obtain ⟨env', e1, b, e2, q⟩ := hf y hy acc
    rw [e1]
    dsimp only
    rw [e2]
    simp only [R.bind_ok_]
    rcases q with ⟨rfl, q⟩ | ⟨w', rfl, q, e3, hb⟩
    · rw [q]; rfl
    · rw [if_pos rfl, e3, q]; rfl
/-- .. every item is taken -/
theorem comp_map {α : Type} {wy h : α → W} {P : Prog} {C : Cl} {own : List Nat} {t : CT} {it : CI} {e : CE} {env : Env} {S : Sto} {ys : List α} {g : List (Nat × List W)} (hi : evI P C it env S = .ok (ys.map wy, g) S) (hg : ∀ acc, gOk (S ++ [.lst acc]) g) (hl : ys.length ≤ sizeLine)
    (hf : ∀ y ∈ ys, ∀ acc, ∃ env', asgT t (wy y) (wipeE env own) = some env' ∧ evE P C e env' (S ++ [.lst acc]) = .ok (h y) (S ++ [.lst acc]) ∧ below S.length (h y) = true) :
    evE P C (.comp true own t it .nil e) env S = .ok (.lst (ys.map h)) S := by
  have := comp_ty (h := fun y => some (h y)) (P := P) (C := C) (own := own) (t := t) (it := it) (tst := .nil) (e := e) (env := env) (S := S) (ys := ys) (g := g) hi hg hl (fun y hy acc => by
    obtain ⟨env', e1, e2, e3⟩ := hf y hy acc
    exact ⟨env', e1, true, by rw [evAll], .inr ⟨_, rfl, rfl, e2, e3⟩⟩)
  rwa [List.filterMap_eq_map'] at this
/-- Walker(p) is made -/
def MkOk (P : Prog) (p : Pg) (m : Mp) (k0 : Nat) : Prop := ∀ k, k0 ≤ k → ∀ S, mkR P (clOf P k) true 4 [p.w] S = .ok (wkw p m) S
section
variable {P : Prog} {S : Sto} {k : Nat}
theorem after_ok (L : LMean P) (h : P.fn 9 = some d_after) {p : Pg} {m : Mp} {k0 : Nat} (hm : MkOk P p m k0) {gs : List Bool} {f : Fr} {r : List Fr} {t : Pt} (ht : m.pts[f.1]? = some t) (ho : t.ok gs.length f.2.length)
    (hc : ∀ q, t.st = some (.call q) → q < m.ents.length ∧ q < p.procs.length ∧ (p.procs.getD q (0, [])).1 ≤ 1000) (hr : r.length ≤ 1000) (hk : 20 ≤ k) (hk0 : k0 ≤ k) :
    run P (k + 1) 9 [p.w, aw (gs, f :: r)] S = .ok (.lst ((m.after p gs f).map fun x => aw (x.1, x.2 ++ r))) S := by
  obtain ⟨k, rfl⟩ : ∃ k', k = k' + 1 := ⟨k - 1, by omega⟩
  have hal : (m.after p gs f).length ≤ 2 ∧ ∀ x ∈ m.after p gs f, x.2.length ≤ 2 := by
    unfold Mp.after
    rw [ht]
    dsimp only
    split
    · simp
    · simp
    · simp
    · refine ⟨?_, fun x hx => ?_⟩
      · rw [List.length_map]
        unfold Pt.go
        split <;> simp
      · simp only [List.mem_map] at hx
        obtain ⟨y, _, rfl⟩ := hx
        simp
  have hz : ¬ ((r.length : Int) + 1 = 0) := by omega
  have l2 : (2 : Nat) ≤ sizeLine := by decide
  have l1002 : (1002 : Nat) ≤ sizeLine := by decide
  have hwa := fun S => wafter_ok (S := S) (k := k) L (p := p) ht ho hc (by omega)
  have hmk := hm (k + 1) (by omega)
  refine run_ret h rfl rfl (w := .lst _) (S1 := S) ?_ (fin_pu0 (lst_pu (map_pu fun x => aw_pu _)))
  unfold d_after
  dsimp only
  rw [ss_nx (env' := [some p.w, some (aw (gs, f :: r)), some (bw gs), some (.tup ((f :: r).map fw)), none, none]) (S' := S) (by simp [exS, evE, aw])]
  rw [ss_nx (env' := [some p.w, some (aw (gs, f :: r)), some (bw gs), some (.tup ((f :: r).map fw)), none, none]) (S' := S) (by simp [exS, exSs, evE, evEs, hz])]
  refine ss_ret ?_
  rw [exS, comp_map (ys := m.after p gs f) (wy := aw) (h := fun x => aw (x.1, x.2 ++ r)) (g := []) ?_ (fun _ => gOk_nil) (Nat.le_trans hal.1 l2) ?_]
  · rfl
  · rw [evI, evE, evE]
    simp only [evE, evEs, List.getElem?_cons_succ, List.getElem?_cons_zero, Option.join_some, R.of_some_, R.bind_ok_, hmk]
    simp only [wkw, asIns_ins, L.m9, List.map_cons, idxW_tup, atI_0, R.of_some_, R.bind_ok_, clOf, clG, full_no L.toLib (f := 25) (by decide)]
    rw [if_neg (by decide)]
    have := hwa S
    simp only [wkw] at this
    rw [this]
    simp
  · intro x hx acc
    obtain ⟨g1, fs⟩ := x
    have hfs := hal.2 _ hx
    dsimp only at hfs
    have hcut : cut (fw f :: r.map fw) (some 1) none = r.map fw := by
      have : HT.sIx (fw f :: r.map fw).length 0 (some 1) = 1 := by
        have := HT.sIx_nat (fw f :: r.map fw).length 0 1
        rw [show ((1 : Nat) : Int) = 1 from rfl] at this
        rw [this]
        simp
      unfold cut
      rw [this, HT.sIx_none]
      simp
      rw [← List.map_take, List.take_length]
    refine ⟨_, rfl, ?_, (aw_pu _).at _⟩
    have hs : fs.length + r.length ≤ sizeLine := by omega
    simp [evE, evEs, wipeE, aw, isOmit, toI, hcut, l2, hs]
end
end Eng

set_option Elab.async false
set_option linter.all false
set_option maxHeartbeats 4000000
set_option maxRecDepth 100000
/-! E28: begin; letters of frames (compiled.py). -/
namespace Eng
open PySem L2
/-- the letters: how many locals each place has -/
structure Co where
  firsts : List Nat
  frames : List Fr
def Co.w (c : Co) (p : Pg) (m : Mp) : W := .ins 2 [15, 16, 17, 3] [p.w, wkw p m, .lst (c.firsts.map iw), .lst (c.frames.map fw)]
def Co.letter (c : Co) (f : Fr) : Nat := c.firsts.getD f.1 0 + num f.2
/-- a configuration -/
def cw (x : Nat × List Nat) : W := .tup [.int x.1, .tup (x.2.map iw)]
structure LComp (P : Prog) : Prop extends LMean P where
  f22 : P.fn 22 = some d_number_of
  f26 : P.fn 26 = some d_values_of
  f33 : P.fn 33 = some d_Coder_letter
  f23 : P.fn 23 = some d_Coder_pile
  m24 : P.meth 2 24 = some 33
  m6 : P.meth 2 6 = some 23
theorem iw_pu (n : Nat) : Pu (iw n) := rfl
theorem cw_pu (x : Nat × List Nat) : Pu (cw x) := by
  have h2 := tup_pu (map_pu iw_pu (xs := x.2))
  unfold Pu at h2
  simp [cw, Pu, below, belows] at h2 ⊢
  exact h2
/-- Coder(p) is made -/
def CoOk (P : Prog) (p : Pg) (m : Mp) (c : Co) (k0 : Nat) : Prop := ∀ k, k0 ≤ k → ∀ S, mkR P (clOf P k) true 2 [p.w] S = .ok (c.w p m) S
section
variable {P : Prog} {S : Sto} {k : Nat} {p : Pg} {m : Mp} {c : Co}
theorem begin_ok (L : LMean P) (f5 : P.fn 5 = some d_begin) {k0 : Nat} (hm : MkOk P p m k0) (h1 : 0 < m.ents.length) (h2 : 0 < p.procs.length) (h3 : (p.procs.getD 0 (0, [])).1 ≤ 1000) (hg : p.g ≤ 1000) (hk : 4 ≤ k) (hk0 : k0 ≤ k) :
    run P (k + 1) 5 [p.w] S = .ok (aw (List.replicate p.g false, [(m.ents.getD 0 0, List.replicate (p.procs.getD 0 (0, [])).1 false)])) S := by
  obtain ⟨k, rfl⟩ : ∃ k', k = k' + 1 := ⟨k - 1, by omega⟩
  have hmk := hm (k + 1) hk0
  have l2 : (2 : Nat) ≤ sizeLine := by decide
  have l1 : (1 : Nat) ≤ sizeLine := by decide
  have e1 := fun S => no_values_ok (S := S) (k := k) L.f20 hg
  have e2 := fun S => entry_frame_ok (S := S) (k := k) L (p := p) (m := m) (q := 0) h1 h2 h3 (by omega)
  refine run_ret f5 rfl rfl (w := aw _) (S1 := S) ?_ (fin_pu0 (aw_pu _))
  unfold d_begin
  dsimp only
  rw [ss_nx (env' := [some p.w, some (wkw p m)]) (S' := S) (by simp [exS, evE, evEs, hmk])]
  simp [exSs, exS, evE, evEs, Pg.w, wkw, L.m5, clOf, clG, full_no L.toLib (f := 20) (by decide), full_no L.toLib (f := 21) (by decide), e1, l1, l2] at e2 ⊢
  rw [e2]
  simp [l1, l2, aw]
theorem letter_ok (L : LComp P) {f : Fr} (hf : f.1 < c.firsts.length) (hk : 1 ≤ k) : run P (k + 1) 33 [c.w p m, fw f] S = .ok (iw (c.letter f)) S := by
  obtain ⟨k, rfl⟩ : ∃ k', k = k' + 1 := ⟨k - 1, by omega⟩
  refine run_ret L.f33 rfl rfl (w := iw _) (S1 := S) ?_ (fin_pu0 rfl)
  have e1 : L2.atI (c.firsts.map iw) (f.1 : Int) = some (.int (c.firsts.getD f.1 0 : Nat)) := atI_nat (by simp [hf, iw])
  have e2 := fun S => number_of_ok (S := S) (k := k) L.f22 (bs := f.2)
  simp only [List.getD_eq_getElem?_getD] at e1
  unfold d_Coder_letter
  simp [exSs, exS, evE, evEs, Co.w, fw, e1, clOf, clG, full_no L.toLib (f := 22) (by decide), e2, iw, Co.letter]
theorem pile_ok (L : LComp P) {fs : List Fr} (hf : ∀ f ∈ fs, f.1 < c.firsts.length) (hl : fs.length ≤ 10000) (hk : 2 ≤ k) : run P (k + 1) 23 [c.w p m, .tup (fs.map fw)] S = .ok (.tup ((fs.map c.letter).map iw)) S := by
  obtain ⟨k, rfl⟩ : ∃ k', k = k' + 1 := ⟨k - 1, by omega⟩
  refine run_ret L.f23 rfl rfl (w := .tup _) (S1 := S) ?_ (fin_pu0 (tup_pu (map_pu iw_pu)))
  unfold d_Coder_pile
  dsimp only
  refine ss_ret ?_
  rw [exS, evE, evEs]
  rw [comp_map (ys := fs) (wy := fw) (h := fun f => iw (c.letter f)) (g := []) (by simp [evI, evE]) (fun _ => gOk_nil) (Nat.le_trans hl (by decide)) ?_]
  · simp [evEs]
  · intro f hfm acc
    have e1 := letter_ok (P := P) (S := S ++ [.lst acc]) (k := k) (p := p) (m := m) (c := c) L (hf f hfm) (by omega)
    refine ⟨_, rfl, ?_, (iw_pu _).at _⟩
    simp [evE, evEs, wipeE, Co.w, L.m24, clOf, clG, full_no L.toLib (f := 33) (by decide)] at e1 ⊢
    rw [e1]
end
end Eng

set_option Elab.async false
set_option linter.all false
set_option maxHeartbeats 4000000
set_option maxRecDepth 100000
/-! E29: configurations of situations, and back. -/
namespace Eng
open PySem L2
theorem clOf_fn {P : Prog} {k : Nat} : (clOf P k).fn = run P k := rfl
/-- the configuration of a situation -/
def Co.conf (c : Co) (x : List Bool × List Fr) : Nat × List Nat := (num x.1, x.2.map c.letter)
/-- every frame has its letter -/
structure Co.Ok (c : Co) (cs : List Nat) : Prop where
  len : c.firsts.length = cs.length
  at_ : ∀ f : Fr, f.1 < cs.length → f.2.length = cs.getD f.1 0 → c.frames[c.letter f]? = some f
section
variable {P : Prog} {S : Sto} {k : Nat} {p : Pg} {m : Mp} {c : Co}
theorem conf_ok (L : LComp P) (f6 : P.fn 6 = some d_configuration_of) {k0 : Nat} (hc : CoOk P p m c k0) {x : List Bool × List Fr} (hf : ∀ f ∈ x.2, f.1 < c.firsts.length) (hl : x.2.length ≤ 10000) (hk : 4 ≤ k) (hk0 : k0 ≤ k) :
    run P (k + 1) 6 [p.w, aw x] S = .ok (cw (c.conf x)) S := by
  obtain ⟨k, rfl⟩ : ∃ k', k = k' + 1 := ⟨k - 1, by omega⟩
  have hco := hc (k + 1) hk0
  have l2 : (2 : Nat) ≤ sizeLine := by decide
  have e1 := fun S => number_of_ok (S := S) (k := k) L.f22 (bs := x.1)
  have e2 := fun S => pile_ok (P := P) (S := S) (k := k) (p := p) (m := m) (c := c) L hf hl (by omega)
  refine run_ret f6 rfl rfl (w := cw _) (S1 := S) ?_ (fin_pu0 (cw_pu _))
  unfold d_configuration_of
  have hce : ∀ env S, env[0]? = some (some p.w) → evE P (clOf P (k + 1)) (.make true 2 (.cons (.var 0) .nil)) env S = .ok (c.w p m) S := fun env S h => by
    simp [evE, evEs, h, hco]
  generalize (CE.make true 2 (.cons (.var 0) .nil)) = ce at hce ⊢
  simp [exSs, exS, evE, evEs, hce, aw, Co.w, L.m6, clOf_fn, full_no L.toLib (f := 22) (by decide), full_no L.toLib (f := 23) (by decide), e1, l2] at e2 ⊢
  rw [e2]
  simp [l2, cw, Co.conf, iw]
theorem situ_ok (L : LComp P) (f10 : P.fn 10 = some d_situation_of) {k0 : Nat} (hc : CoOk P p m c k0) {cs : List Nat} (ok : c.Ok cs) {x : List Bool × List Fr} (hg : x.1.length = p.g) (hg2 : p.g ≤ 60) (hf : ∀ f ∈ x.2, f.1 < cs.length ∧ f.2.length = cs.getD f.1 0) (hl : x.2.length ≤ 10000) (hk : 4 ≤ k) (hk0 : k0 ≤ k) :
    run P (k + 1) 10 [p.w, cw (c.conf x)] S = .ok (aw x) S := by
  obtain ⟨k, rfl⟩ : ∃ k', k = k' + 1 := ⟨k - 1, by omega⟩
  have hco := hc (k + 1) hk0
  have l2 : (2 : Nat) ≤ sizeLine := by decide
  have e1 := fun S => values_of_ok (S := S) (k := k) L.f26 (n := num x.1) (c := p.g) hg2
  have e3 : bits (num x.1) p.g = x.1 := by rw [← hg, bits_num]
  rw [e3] at e1
  refine run_ret f10 rfl rfl (w := aw _) (S1 := S) ?_ (fin_pu0 (aw_pu _))
  unfold d_situation_of
  dsimp only
  rw [ss_nx (env' := [some p.w, some (cw (c.conf x)), some (c.w p m), none, none, none]) (S' := S) (by simp [exS, evE, evEs, hco])]
  rw [ss_nx (env' := [some p.w, some (cw (c.conf x)), some (c.w p m), some (.int (num x.1)), some (.tup ((x.2.map c.letter).map iw)), none]) (S' := S) (by simp [exS, evE, cw, Co.conf])]
  have ec : evE P (clOf P (k + 1)) (.comp true [5] (.nm 5) (.seq (.var 4)) .nil (.idx (.fld (.var 2) 3) (.var 5))) [some p.w, some (cw (c.conf x)), some (c.w p m), some (.int (num x.1)), some (.tup ((x.2.map c.letter).map iw)), none] S = .ok (.lst (x.2.map fw)) S := by
    refine comp_map (ys := x.2) (wy := fun f => iw (c.letter f)) (h := fw) (g := []) (by simp [evI, evE]) (fun _ => gOk_nil) (Nat.le_trans hl (by decide)) fun f hfm acc => ⟨_, rfl, ?_, (fw_pu _).at _⟩
    have := ok.at_ f (hf f hfm).1 (hf f hfm).2
    have e4 : L2.atI (c.frames.map fw) (c.letter f : Int) = some (fw f) := atI_nat (by simp [this])
    simp [evE, wipeE, Co.w, iw, e4]
  refine ss_ret ?_
  generalize (CE.comp true [5] (.nm 5) (.seq (.var 4)) .nil (.idx (.fld (.var 2) 3) (.var 5))) = ce at ec ⊢
  simp only [cw, Co.w] at ec
  simp [exS, evE, evEs, Pg.w, cw, Co.w, clOf_fn, full_no L.toLib (f := 26) (by decide)] at ec e1 ⊢
  rw [e1]
  simp
  rw [ec]
  simp [l2, aw]
end
end Eng

set_option Elab.async false
set_option linter.all false
set_option maxHeartbeats 4000000
set_option maxRecDepth 100000
/-! E30: steps of a machine that are possible, and taken (runs.py). -/
namespace Eng
open PySem L2
structure Stp where
  s : Nat
  l : Nat
  g : Nat
  laid : List Nat
def Stp.w (x : Stp) : W := .ins 5 [25, 24, 7, 8, 41] [.int x.s, .int x.l, .int x.g, .tup (x.laid.map iw), .int 1]
def mw (st lt : Nat) (ss : List Stp) : W := .ins 3 [21, 22, 4] [.int st, .int lt, .tup (ss.map Stp.w)]
def Stp.can (x : Stp) (c : Nat × List Nat) : Bool := match c.2 with
  | [] => false
  | y :: _ => decide (x.s = c.1) && decide (x.l = y)
/-- the places of a list's items that fit -/
def places {α : Type} (f : α → Bool) : Nat → List α → List Nat
  | _, [] => []
  | n, x :: xs => if f x then n :: places f (n + 1) xs else places f (n + 1) xs
theorem places_map {α β : Type} (f : α → Bool) (g : Nat → β) (h : α → β) (all : List α) : ∀ (xs : List α) (n : Nat), (∀ i x, xs[i]? = some x → all[n + i]? = some x) → (∀ i x, all[i]? = some x → g i = h x) → (places f n xs).map g = (xs.filter f).map h
  | [], _, _, _ => rfl
  | x :: xs, n, ha, hg => by
    have i1 := places_map f g h all xs (n + 1) (fun i y hy => by
      have := ha (i + 1) y (by simpa using hy)
      rwa [show n + 1 + i = n + (i + 1) by omega]) hg
    unfold places
    have h0 := hg n x (by simpa using ha 0 x rfl)
    by_cases c : f x = true
    · rw [if_pos c, List.map_cons, i1, List.filter_cons_of_pos c, List.map_cons, h0]
    · rw [if_neg c, i1, List.filter_cons_of_neg c]
theorem places_mem {α : Type} {f : α → Bool} : ∀ {xs : List α} {n i : Nat}, i ∈ places f n xs → ∃ j x, i = n + j ∧ xs[j]? = some x ∧ f x = true
  | [], _, _, h => by cases h
  | x :: xs, n, i, h => by
    unfold places at h
    by_cases c : f x = true
    · rw [if_pos c] at h
      rcases List.mem_cons.mp h with rfl | h
      · exact ⟨0, x, rfl, rfl, c⟩
      · obtain ⟨j, y, e1, e2, e3⟩ := places_mem h
        exact ⟨j + 1, y, by omega, by simpa using e2, e3⟩
    · rw [if_neg c] at h
      obtain ⟨j, y, e1, e2, e3⟩ := places_mem h
      exact ⟨j + 1, y, by omega, by simpa using e2, e3⟩
theorem places_len {α : Type} {f : α → Bool} : ∀ {xs : List α} {n : Nat}, (places f n xs).length ≤ xs.length
  | [], _ => by simp [places]
  | x :: xs, n => by
    have := places_len (f := f) (xs := xs) (n := n + 1)
    unfold places
    split <;> simp <;> omega
def withIx {α : Type} (n : Nat) : List α → List (Nat × α)
  | [] => []
  | x :: xs => (n, x) :: withIx (n + 1) xs
theorem enumW_ix {α : Type} {f : α → W} : ∀ {xs : List α} {n : Nat}, enumW n (xs.map f) = (withIx n xs).map fun p => .tup [.int p.1, f p.2]
  | [], _ => rfl
  | x :: xs, n => by simp [enumW, withIx, enumW_ix]
theorem withIx_filter {α : Type} {f : α → Bool} : ∀ {xs : List α} {n : Nat}, (withIx n xs).filterMap (fun p => if f p.2 then some (iw p.1) else none) = (places f n xs).map iw
  | [], _ => rfl
  | x :: xs, n => by
    unfold withIx places
    rw [List.filterMap_cons]
    by_cases c : f x = true
    · simp [c, withIx_filter]
    · simp [c, withIx_filter]
theorem withIx_len {α : Type} : ∀ {xs : List α} {n : Nat}, (withIx n xs).length = xs.length
  | [], _ => rfl
  | x :: xs, n => by simp [withIx, withIx_len]
structure LRun (P : Prog) : Prop extends LComp P where
  f24 : P.fn 24 = some d_is_possible
  f7 : P.fn 7 = some d_possible
  f8 : P.fn 8 = some d_take
section
variable {P : Prog} {S : Sto} {k : Nat}
theorem is_possible_ok (L : LRun P) {x : Stp} {c : Nat × List Nat} : run P (k + 1) 24 [x.w, cw c] S = .ok (.bl (x.can c)) S := by
  refine run_ret L.f24 rfl rfl (w := .bl _) (S1 := S) ?_ (fin_pu0 rfl)
  obtain ⟨s, pile⟩ := c
  unfold d_is_possible
  cases pile with
  | nil => simp [exSs, exS, evE, evEs, evAnd, cw, Stp.can]
  | cons y ys =>
    have hz : (0 : Int) < (ys.length : Int) + 1 := by omega
    by_cases h1 : x.s = s
    · subst h1
      by_cases h2 : x.l = y
      · subst h2
        simp [exSs, exS, evE, evEs, evAnd, cw, Stp.can, Stp.w, iw, hz]
      · have h2' : ¬ ((x.l : Int) = (y : Int)) := by omega
        simp [exSs, exS, evE, evEs, evAnd, cw, Stp.can, Stp.w, iw, hz, h2, h2']
    · have h1' : ¬ ((x.s : Int) = (s : Int)) := by omega
      simp [exSs, exS, evE, evEs, evAnd, cw, Stp.can, Stp.w, iw, hz, h1, h1']
theorem possible_ok (L : LRun P) {st lt : Nat} {ss : List Stp} {c : Nat × List Nat} (hl : ss.length ≤ sizeLine) (hk : 1 ≤ k) : run P (k + 1) 7 [mw st lt ss, cw c] S = .ok (.lst ((places (fun x => x.can c) 0 ss).map iw)) S := by
  obtain ⟨k, rfl⟩ : ∃ k', k = k' + 1 := ⟨k - 1, by omega⟩
  refine run_ret L.f7 rfl rfl (w := .lst _) (S1 := S) ?_ (fin_pu0 (lst_pu (map_pu iw_pu)))
  unfold d_possible
  dsimp only
  refine ss_ret ?_
  rw [exS, comp_ty (ys := withIx 0 ss) (wy := fun p => .tup [.int p.1, p.2.w]) (h := fun p => if p.2.can c then some (iw p.1) else none) (g := []) (by simp [evI, evE, mw, enumW_ix]) (fun _ => gOk_nil) (by rw [withIx_len]; exact hl) ?_]
  · rw [withIx_filter (f := fun x : Stp => x.can c)]
    rfl
  · intro p hp acc
    have e1 := is_possible_ok (P := P) (S := S ++ [.lst acc]) (k := k) L (x := p.2) (c := c)
    refine ⟨_, rfl, p.2.can c, ?_, ?_⟩
    · simp [evAll, evE, evEs, wipeE, clOf_fn, full_no L.toLib (f := 24) (by decide), e1]
    · cases h : p.2.can c with
      | false => exact .inl ⟨rfl, by simp⟩
      | true => exact .inr ⟨iw p.1, rfl, by simp, by simp [evE, wipeE, iw], rfl⟩
theorem take_ok (L : LRun P) {st lt : Nat} {ss : List Stp} {s : Nat} {y : Nat} {ys : List Nat} {i : Nat} {x : Stp} (hx : ss[i]? = some x) (hc : x.can (s, y :: ys) = true) (hl : x.laid.length + ys.length ≤ sizeLine) (hk : 1 ≤ k) :
    run P (k + 1) 8 [mw st lt ss, cw (s, y :: ys), iw i] S = .ok (cw (x.g, x.laid ++ ys)) S := by
  obtain ⟨k, rfl⟩ : ∃ k', k = k' + 1 := ⟨k - 1, by omega⟩
  have hi := (List.getElem?_eq_some_iff.mp hx).1
  have e1 : L2.atI (ss.map Stp.w) (i : Int) = some x.w := atI_nat (by simp [hx])
  have e2 := fun S => is_possible_ok (P := P) (S := S) (k := k) L (x := x) (c := (s, y :: ys))
  rw [hc] at e2
  have h0 : (0 : Int) ≤ (i : Int) := by omega
  have h1 : (i : Int) < (ss.length : Int) := by omega
  have l2 : (2 : Nat) ≤ sizeLine := by decide
  have hcut : cut (iw y :: ys.map iw) (some 1) none = ys.map iw := by
    have : HT.sIx (iw y :: ys.map iw).length 0 (some 1) = 1 := by
      have := HT.sIx_nat (iw y :: ys.map iw).length 0 1
      rw [show ((1 : Nat) : Int) = 1 from rfl] at this
      rw [this]
      simp
    unfold cut
    rw [this, HT.sIx_none]
    simp
    rw [← List.map_take, List.take_length]
  refine run_ret L.f8 rfl rfl (w := cw _) (S1 := S) ?_ (fin_pu0 (cw_pu _))
  unfold d_take
  dsimp only
  rw [ss_nx (env' := [some (mw st lt ss), some (cw (s, y :: ys)), some (iw i), none]) (S' := S) (by
    simp [exS, exSs, evE, evEs, evOr, mw, iw, h0, h1, e1, clOf_fn, full_no L.toLib (f := 24) (by decide), e2])]
  rw [ss_nx (env' := [some (mw st lt ss), some (cw (s, y :: ys)), some (iw i), some x.w]) (S' := S) (by simp [exS, evE, mw, iw, e1])]
  simp [exSs, exS, evE, evEs, Stp.w, cw, isOmit, toI, hcut, hl, l2]
end
end Eng

set_option Elab.async false
set_option linter.all false
set_option maxHeartbeats 4000000
set_option maxRecDepth 100000
/-! E31: steps and machines are made (machine.py). -/
namespace Eng
open PySem L2
theorem setF_self {P : Prog} {S : Sto} {c f : Nat} {ns : List Nat} {ws : List W} {v : W} (h : P.isF c f = true) (hn : ns.length < 1000) : setFW P (S ++ [.ins c ns ws]) (.ref S.length) f v = some (S ++ [.ins c (putW ns ws f v).1 (putW ns ws f v).2]) := by
  simp [setFW, hn, h]
theorem ini_eq {P : Prog} {k : Nat} : (clOf P (k + 1)).ini = run P k := rfl
/-- an instance is made whose fields hold no new thing -/
theorem mk_pu {P : Prog} {k c f : Nat} {ws ws' vs : List W} {ns : List Nat} {S : Sto} (hi : P.init c = some f) (hf : full P f (.ref S.length :: ws) = ws') (hr : run P k f ws' (S ++ [.ins c [] []]) = .ok .non (S ++ [.ins c ns vs])) (hp : ∀ v ∈ vs, Pu v) :
    mkR P (clOf P (k + 1)) true c ws S = .ok (.ins c ns vs) S := by
  unfold mkR
  rw [hi]
  dsimp only
  rw [hf, ini_eq, hr]
  simp only [R.bind_ok_, if_true]
  refine exit_same ?_
  rw [resW_ref (Nat.le_refl _)]
  exact deref_ins (by simp) (pus_at hp _)
structure LMach (P : Prog) : Prop extends LComp P where
  f30 : P.fn 30 = some d_Step___init__
  f31 : P.fn 31 = some d_fits
  f18 : P.fn 18 = some d_Machine___init__
  i5 : P.init 5 = some 30
  i3 : P.init 3 = some 18
  dfl30 : P.dfl 30 = [.tup [], .int 1]
  sF : ∀ f ∈ [25, 24, 7, 8, 41], P.isF 5 f = true
  mF : ∀ f ∈ [21, 22, 4], P.isF 3 f = true
section
variable {P : Prog} {S : Sto} {k : Nat}
theorem mk_step (L : LMach P) {x : Stp} : mkR P (clOf P (k + 2)) true 5 [.int x.s, .int x.l, .int x.g, .tup (x.laid.map iw)] S = .ok x.w S := by
  have hfull : full P 30 (.ref S.length :: [.int x.s, .int x.l, .int x.g, .tup (x.laid.map iw)]) = [.ref S.length, .int x.s, .int x.l, .int x.g, .tup (x.laid.map iw), .int 1] := by
    unfold full
    rw [L.f30, L.dfl30]
    rfl
  refine mk_pu (k := k + 1) L.i5 hfull (ns := [25, 24, 7, 8, 41]) (vs := [.int x.s, .int x.l, .int x.g, .tup (x.laid.map iw), .int 1]) ?_ ?_
  · have b := fun f hf => L.sF f hf
    refine run_nx L.f30 rfl rfl (env1 := [some (.ref S.length), some (.int x.s), some (.int x.l), some (.int x.g), some (.tup (x.laid.map iw)), some (.int 1)]) (S1 := S ++ [.ins 5 [25, 24, 7, 8, 41] [.int x.s, .int x.l, .int x.g, .tup (x.laid.map iw), .int 1]]) ?_ rfl
    unfold d_Step___init__
    simp [exSs, exS, evE, evEs, setF_self (b 25 (by simp)), setF_self (b 24 (by simp)), setF_self (b 7 (by simp)), setF_self (b 8 (by simp)), setF_self (b 41 (by simp)), putW]
  · intro v hv
    simp at hv
    rcases hv with rfl | rfl | rfl | rfl | rfl <;> first | rfl | exact tup_pu (map_pu iw_pu)
/-- a step fits -/
def Stp.fits (x : Stp) (st lt : Nat) : Prop := x.s < st ∧ x.g < st ∧ x.l < lt ∧ x.laid.length ≤ 2 ∧ ∀ y ∈ x.laid, y < lt
theorem bools_true : ∀ {α : Type} (xs : List α), boolsW (xs.map fun _ => W.bl true) = some (xs.map fun _ => true)
  | _, [] => rfl
  | _, x :: xs => by simp [boolsW, bools_true xs]
theorem fits_ok (L : LMach P) {x : Stp} {st lt : Nat} (h : x.fits st lt) : run P (k + 1) 31 [x.w, .int st, .int lt] S = .ok (.bl true) S := by
  obtain ⟨h1, h2, h3, h4, h5⟩ := h
  have a1 : (x.s : Int) < (st : Int) := by omega
  have a2 : (x.g : Int) < (st : Int) := by omega
  have a3 : (x.l : Int) < (lt : Int) := by omega
  have b1 : (0 : Int) ≤ (x.s : Int) := by omega
  have b2 : (0 : Int) ≤ (x.g : Int) := by omega
  have b3 : (0 : Int) ≤ (x.l : Int) := by omega
  have c1 : ¬ ((2 : Int) < (x.laid.length : Int)) := by omega
  have ec : evE P (clOf P k) (.comp true [3] (.nm 3) (.seq (.fld (.var 0) 8)) .nil (.chain .le .lt (.int 0) (.var 3) (.var 2))) [some x.w, some (.int st), some (.int lt), none] S = .ok (.lst (x.laid.map fun _ => W.bl true)) S := by
    refine comp_map (ys := x.laid) (wy := iw) (h := fun _ => W.bl true) (g := []) (by simp [evI, evE, Stp.w]) (fun _ => gOk_nil) (Nat.le_trans h4 (by decide)) fun y hy acc => ⟨_, rfl, ?_, rfl⟩
    have d1 : (0 : Int) ≤ (y : Int) := by omega
    have d2 : (y : Int) < (lt : Int) := by
      have := h5 y hy
      omega
    simp [evE, wipeE, iw, d1, d2]
  refine run_ret L.f31 rfl rfl (w := .bl true) (S1 := S) ?_ (fin_pu0 rfl)
  unfold d_fits
  dsimp only
  generalize (CE.comp true [3] (.nm 3) (.seq (.fld (.var 0) 8)) .nil (.chain .le .lt (.int 0) (.var 3) (.var 2))) = ce at ec ⊢
  rw [ss_nx (env' := [some x.w, some (.int st), some (.int lt), none]) (S' := S) (by simp [exS, exSs, evE, evOr, Stp.w, a1, a2, a3, b1, b2, b3])]
  rw [ss_nx (env' := [some x.w, some (.int st), some (.int lt), none]) (S' := S) (by simp [exS, exSs, evE, evEs, evOr, Stp.w, c1])]
  refine ss_ret ?_
  rw [exS, evE, evEs, ec]
  simp only [R.bind_ok_, evEs, bltW_all_lst, bools_true]
  simp
end
end Eng

set_option Elab.async false
set_option linter.all false
set_option maxHeartbeats 4000000
set_option maxRecDepth 100000
/-! E32: a machine is made; the steps of a letter and a state. -/
namespace Eng
open PySem L2
theorem get_app {S : Sto} {l : Nat} {o x : Ob} (h : S[l]? = some o) : (S ++ [x])[l]? = some o := by
  rw [List.getElem?_append_left (List.getElem?_eq_some_iff.mp h).1]; exact h
theorem stw_pu (x : Stp) : Pu x.w := by
  have h2 := tup_pu (map_pu iw_pu (xs := x.laid))
  unfold Pu at h2
  simp [Stp.w, Pu, below, belows] at h2 ⊢
  exact h2
section
variable {P : Prog} {S : Sto} {k : Nat}
theorem mk_machine (L : LMach P) {l st lt : Nat} {ss : List Stp} (h : S[l]? = some (.lst (ss.map Stp.w))) (hf : ∀ x ∈ ss, x.fits st lt) (hs : 1 ≤ st) (ht : 1 ≤ lt) (hl : ss.length ≤ sizeLine) :
    mkR P (clOf P (k + 3)) true 3 [.int st, .int lt, .ref l] S = .ok (mw st lt ss) S := by
  have hfull : full P 18 (.ref S.length :: [.int st, .int lt, .ref l]) = [.ref S.length, .int st, .int lt, .ref l] := full_no L.toLib (by decide)
  have b := fun f hf => L.mF f hf
  have n1 : ¬ ((st : Int) < 1) := by omega
  have n2 : ¬ ((lt : Int) < 1) := by omega
  have hS := fun (x : Ob) => get_app (x := x) h
  have ec : evE P (clOf P (k + 1)) (.comp true [4] (.nm 4) (.seq (.var 3)) .nil (.call 31 (.cons (.var 4) (.cons (.var 1) (.cons (.var 2) .nil))))) [some (.ref S.length), some (.int st), some (.int lt), some (.ref l), none] (S ++ [.ins 3 [] []]) = .ok (.lst (ss.map fun _ => W.bl true)) (S ++ [.ins 3 [] []]) := by
    refine comp_map (ys := ss) (wy := Stp.w) (h := fun _ => W.bl true) (g := [(l, ss.map Stp.w)]) ?_ (fun acc p hp => ?_) hl fun y hy acc => ⟨_, rfl, ?_, rfl⟩
    · rw [evI, evE]
      simp only [List.getElem?_cons_succ, List.getElem?_cons_zero, Option.join_some, R.of_some_, R.bind_ok_, asSeq_ref, seqG_ref, hS]
    · have : p = (l, ss.map Stp.w) := by simpa using hp
      subst this
      exact get_app (hS _)
    · have e1 := fits_ok (P := P) (S := S ++ [.ins 3 [] []] ++ [.lst acc]) (k := k) L (hf y hy)
      simp [evE, evEs, wipeE, clOf_fn, full_no L.toLib (f := 31) (by decide)] at e1 ⊢
      rw [e1]
  refine mk_pu (k := k + 2) L.i3 hfull (ns := [21, 22, 4]) (vs := [.int st, .int lt, .tup (ss.map Stp.w)]) ?_ ?_
  · refine run_nx L.f18 rfl rfl (env0 := [some (.ref S.length), some (.int st), some (.int lt), some (.ref l), none]) (env1 := [some (.ref S.length), some (.int st), some (.int lt), some (.ref l), none]) (S1 := S ++ [.ins 3 [21, 22, 4] [.int st, .int lt, .tup (ss.map Stp.w)]]) ?_ rfl
    unfold d_Machine___init__
    dsimp only
    generalize (CE.comp true [4] (.nm 4) (.seq (.var 3)) .nil (.call 31 (.cons (.var 4) (.cons (.var 1) (.cons (.var 2) .nil))))) = ce at ec ⊢
    have e1 : evE P (clOf P (k + 1)) (.or_ (.cons (.cmp .lt (.var 1) (.int 1)) (.cons (.cmp .lt (.var 2) (.int 1)) (.cons (.not_ (.blt .all (.cons ce .nil))) .nil)))) [some (.ref S.length), some (.int st), some (.int lt), some (.ref l), none] (S ++ [.ins 3 [] []]) = .ok (.bl false) (S ++ [.ins 3 [] []]) := by
      have e2 : evE P (clOf P (k + 1)) (.blt .all (.cons ce .nil)) [some (.ref S.length), some (.int st), some (.int lt), some (.ref l), none] (S ++ [.ins 3 [] []]) = .ok (.bl true) (S ++ [.ins 3 [] []]) := by
        rw [evE, evEs, ec]
        simp only [R.bind_ok_, evEs, bltW_all_lst, bools_true]
        simp
      generalize (CE.blt .all (.cons ce .nil)) = be at e2 ⊢
      simp [evE, evOr, n1, n2, e2]
    generalize (CE.or_ (.cons (.cmp .lt (.var 1) (.int 1)) (.cons (.cmp .lt (.var 2) (.int 1)) (.cons (.not_ (.blt .all (.cons ce .nil))) .nil)))) = oe at e1 ⊢
    rw [ss_nx (env' := [some (.ref S.length), some (.int st), some (.int lt), some (.ref l), none]) (S' := S ++ [.ins 3 [] []]) (by rw [exS, e1]; simp [exSs])]
    have hq : ∀ x : Ob, (S ++ [x])[l]? = some (.lst (ss.map Stp.w)) := hS
    simp [exSs, exS, evE, evEs, setF_self (b 21 (by simp)), setF_self (b 22 (by simp)), setF_self (b 4 (by simp)), putW, hq]
  · intro v hv
    simp at hv
    rcases hv with rfl | rfl | rfl <;> first | rfl | exact tup_pu (map_pu stw_pu)
end
end Eng

set_option Elab.async false
set_option linter.all false
set_option maxHeartbeats 4000000
set_option maxRecDepth 100000
/-! E33: Coder.steps. -/
namespace Eng
open PySem L2
def Co.steps (c : Co) (p : Pg) (m : Mp) (l s : Nat) (f : Fr) : List Stp := (m.after p (bits s p.g) f).map fun x => ⟨s, l, num x.1, x.2.map c.letter⟩
structure LCode (P : Prog) : Prop extends LMach P where
  f17 : P.fn 17 = some d_Coder_steps
section
variable {P : Prog} {S : Sto} {k : Nat} {p : Pg} {m : Mp} {c : Co}
theorem steps_ok (L : LCode P) {l s : Nat} {f : Fr} {t : Pt} (hfr : c.frames[l]? = some f) (hg : p.g ≤ 60) (ht : m.pts[f.1]? = some t) (ho : t.ok p.g f.2.length)
    (hc : ∀ q, t.st = some (.call q) → q < m.ents.length ∧ q < p.procs.length ∧ (p.procs.getD q (0, [])).1 ≤ 1000)
    (hp : ∀ x ∈ m.after p (bits s p.g) f, x.2.length ≤ 2 ∧ ∀ y ∈ x.2, y.1 < c.firsts.length) (hn : (m.after p (bits s p.g) f).length ≤ 2) (hk : 20 ≤ k) :
    run P (k + 1) 17 [c.w p m, .int l, .int s] S = .ok (.lst ((c.steps p m l s f).map Stp.w)) S := by
  obtain ⟨k, rfl⟩ : ∃ k', k = k' + 3 := ⟨k - 3, by omega⟩
  have l2 : (2 : Nat) < sizeLine := by decide
  have ef : L2.atI (c.frames.map fw) (l : Int) = some (fw f) := atI_nat (by simp [hfr])
  have e1 := fun S => values_of_ok (S := S) (k := k + 2) L.f26 (n := s) (c := p.g) hg
  have e2 := fun S => wafter_ok (S := S) (k := k + 2) L.toLMean (p := p) (m := m) (gs := bits s p.g) (f := f) (t := t) ht (by rw [bits_len]; exact ho) hc (by omega)
  have hgen : ∀ i, i ≤ 2 → i < sizeLine := fun i h => Nat.lt_of_le_of_lt h l2
  unfold Co.steps
  generalize hgos : m.after p (bits s p.g) f = gos at hp hn e2 ⊢
  obtain ⟨env', S', e, v5, v6, he, hS⟩ := for_go (P := P) (C := clOf P (k + 3)) (t := .tp [(.nm 5), (.nm 6)]) (it := .seq (.meth (.fld (.var 0) 16) 9 (.cons (.var 4) (.cons (.idx (.fld (.var 0) 3) (.var 1)) .nil))))
    (b := .cons (.expr (.bm .append (.var 3) (.cons (.make true 5 (.cons (.var 2) (.cons (.var 1) (.cons (.call 22 (.cons (.var 5) .nil)) (.cons (.meth (.var 0) 6 (.cons (.var 6) .nil)) .nil))))) .nil))) .nil)
    (env := [some (c.w p m), some (.int l), some (.int s), some (.ref S.length), some (bw (bits s p.g)), none, none]) (S := S ++ [.lst []]) (S0 := S ++ [.lst []]) (xs := gos.map aw) (g := [])
    (fun i env S1 => ∃ v5 v6, env = [some (c.w p m), some (.int l), some (.int s), some (.ref S.length), some (bw (bits s p.g)), v5, v6] ∧ S ++ [.lst (((gos.take i).map fun x => (⟨s, l, num x.1, x.2.map c.letter⟩ : Stp)).map Stp.w)] = S1)
    (by
      have e3 := e2 (S ++ [.lst []])
      simp only [wkw] at e3
      rw [evI, evE]
      simp [evE, evEs, Co.w, wkw, L.m9, clOf_fn, full_no L.toLib (f := 25) (by decide), ef, e3]) (fun _ _ _ _ _ => gOk_nil) ⟨none, none, rfl, by simp⟩ (fun i x env S1 hx ⟨v5, v6, e1, e2⟩ => by
      subst e1 e2
      rw [List.getElem?_map] at hx
      cases cc : gos[i]? with
      | none => rw [cc] at hx; cases hx
      | some y =>
        rw [cc] at hx
        simp only [Option.map_some, Option.some.injEq] at hx
        subst hx
        have hil : i < gos.length := (List.getElem?_eq_some_iff.mp cc).1
        have hy := hp y (List.mem_of_getElem? cc)
        have htk : gos.take (i + 1) = gos.take i ++ [y] := by
          rw [List.take_add_one, cc]
          rfl
        generalize hT : ((gos.take i).map fun x => (⟨s, l, num x.1, x.2.map c.letter⟩ : Stp)).map Stp.w = T
        have hTl : T.length < sizeLine := by
          rw [← hT]
          exact hgen _ (by simp; omega)
        have q1 := number_of_ok (P := P) (S := S ++ [.lst T]) (k := k + 2) L.f22 (bs := y.1)
        have q2 := pile_ok (P := P) (S := S ++ [.lst T]) (k := k + 2) (p := p) (m := m) (c := c) L.toLComp hy.2 (by omega) (by omega)
        have q3 := mk_step (P := P) (S := S ++ [.lst T]) (k := k + 1) L.toLMach (x := ⟨s, l, num y.1, y.2.map c.letter⟩)
        have q4 := append_ref (S := S ++ [.lst T]) (l := S.length) (x := Stp.w ⟨s, l, num y.1, y.2.map c.letter⟩) (xs := T) (by simp) hTl
        refine ⟨_, _, S ++ [.lst (((gos.take (i + 1)).map fun x => (⟨s, l, num x.1, x.2.map c.letter⟩ : Stp)).map Stp.w)], by simp [aw]; rfl, .inl ?_, some (bw y.1), some (.tup (y.2.map fw)), rfl, rfl⟩
        have hfin : (S ++ [Ob.lst T]).set S.length (.lst (T ++ [Stp.w ⟨s, l, num y.1, y.2.map c.letter⟩])) = S ++ [.lst (((gos.take (i + 1)).map fun x => (⟨s, l, num x.1, x.2.map c.letter⟩ : Stp)).map Stp.w)] := by
          rw [htk, List.map_append, List.map_append, hT]
          simp
        rw [hfin] at q4
        have em : evE P (clOf P (k + 3)) (.make true 5 (.cons (.var 2) (.cons (.var 1) (.cons (.call 22 (.cons (.var 5) .nil)) (.cons (.meth (.var 0) 6 (.cons (.var 6) .nil)) .nil))))) [some (c.w p m), some (.int l), some (.int s), some (.ref S.length), some (bw (bits s p.g)), some (bw y.1), some (.tup (y.2.map fw))] (S ++ [.lst T]) = .ok (Stp.w ⟨s, l, num y.1, y.2.map c.letter⟩) (S ++ [.lst T]) := by
          simp only [Co.w] at q2
          simp [evE, evEs, Co.w, L.m6, clOf_fn, full_no L.toLib (f := 22) (by decide), full_no L.toLib (f := 23) (by decide), q1] at q2 ⊢
          rw [q2]
          simp at q3 ⊢
          exact q3
        generalize (CE.make true 5 (.cons (.var 2) (.cons (.var 1) (.cons (.call 22 (.cons (.var 5) .nil)) (.cons (.meth (.var 0) 6 (.cons (.var 6) .nil)) .nil))))) = me at em ⊢
        simp [exSs, exS, evE, evEs, bmK, em]
        rw [q4]
        simp)
  subst he hS
  rw [List.length_map, List.take_length] at e
  refine run_ret L.f17 rfl rfl (w := .ref S.length) (env0 := [some (c.w p m), some (.int l), some (.int s), none, none, none, none]) (S1 := S ++ [.lst ((gos.map fun x => (⟨s, l, num x.1, x.2.map c.letter⟩ : Stp)).map Stp.w)]) ?_ ?_
  · unfold d_Coder_steps
    dsimp only
    rw [ss_nx (env' := [some (c.w p m), some (.int l), some (.int s), some (.ref S.length), none, none, none]) (S' := S ++ [.lst []]) (by simp [exS, evE, evL, evEs])]
    rw [ss_nx (env' := [some (c.w p m), some (.int l), some (.int s), some (.ref S.length), some (bw (bits s p.g)), none, none]) (S' := S ++ [.lst []]) (by simp [exS, evE, evEs, Co.w, Pg.w, clOf_fn, full_no L.toLib (f := 26) (by decide), e1])]
    rw [ss_nx e]
    simp [exSs, exS, evE]
  · refine exit_same ?_
    rw [resW_ref (Nat.le_refl _)]
    exact deref_lst (by simp) (pus_at (map_pu stw_pu) _)
end
end Eng

set_option Elab.async false
set_option linter.all false
set_option maxHeartbeats 4000000
set_option maxRecDepth 100000
/-! E34: machine_of. -/
namespace Eng
open PySem L2
/-- what is known of a program's points and letters -/
structure Good (p : Pg) (m : Mp) (c : Co) (cs : List Nat) : Prop where
  g60 : p.g ≤ 12
  ok : c.Ok cs
  /-- every letter's frame stands at a point that is complete -/
  fr : ∀ f ∈ c.frames, f.1 < cs.length ∧ f.2.length = cs.getD f.1 0
  pts : m.pts.length = cs.length
  pt : ∀ (i : Nat) (t : Pt), m.pts[i]? = some t → t.ok p.g (cs.getD i 0) ∧ (∀ q, t.st = some (.call q) → q < m.ents.length ∧ q < p.procs.length ∧ (p.procs.getD q (0, [])).1 ≤ 1000)
  /-- what a frame leads to is a frame again -/
  next : ∀ (gs : List Bool) (f : Fr) x, gs.length = p.g → f.1 < cs.length → f.2.length = cs.getD f.1 0 → x ∈ m.after p gs f → x.1.length = p.g ∧ x.2.length ≤ 2 ∧ ∀ y ∈ x.2, y.1 < cs.length ∧ y.2.length = cs.getD y.1 0
  few : ∀ (gs : List Bool) (f : Fr), (m.after p gs f).length ≤ 2
  size : c.frames.length ≤ 2000
def Co.all (c : Co) (p : Pg) (m : Mp) : List Stp := (List.range c.frames.length).flatMap fun l => (List.range (2 ^ p.g)).flatMap fun s => c.steps p m l s (c.frames.getD l (0, []))
structure LOf (P : Prog) : Prop extends LCode P where
  f16 : P.fn 16 = some d_twos
  f4 : P.fn 4 = some d_machine_of
  m4 : P.meth 2 4 = some 17
section
variable {P : Prog} {S : Sto} {k : Nat} {p : Pg} {m : Mp} {c : Co} {cs : List Nat}
theorem steps_good (L : LOf P) (G : Good p m c cs) {l s : Nat} (hl : l < c.frames.length) (hk : 20 ≤ k) : run P (k + 1) 17 [c.w p m, .int l, .int s] S = .ok (.lst ((c.steps p m l s (c.frames.getD l (0, []))).map Stp.w)) S := by
  have hf : c.frames[l]? = some (c.frames.getD l (0, [])) := by simp [hl]
  obtain ⟨f1, f2⟩ := G.fr _ (List.mem_of_getElem? hf)
  obtain ⟨t, ht⟩ : ∃ t, m.pts[(c.frames.getD l (0, [])).1]? = some t := ⟨m.pts[(c.frames.getD l (0, [])).1]'(by rw [G.pts]; exact f1), by simp⟩
  obtain ⟨t1, t2⟩ := G.pt _ t ht
  refine steps_ok L.toLCode hf (by have := G.g60; omega) ht (by rw [f2]; exact t1) t2 (fun x hx => ?_) (G.few _ _) hk
  obtain ⟨_, n2, n3⟩ := G.next _ _ x (bits_len _ _) f1 f2 hx
  exact ⟨n2, fun y hy => by rw [G.ok.len]; exact (n3 y hy).1⟩
theorem steps_few (G : Good p m c cs) (l s : Nat) (f : Fr) : (c.steps p m l s f).length ≤ 2 := by
  unfold Co.steps
  rw [List.length_map]
  exact G.few _ _
end
theorem extend_ref {S : Sto} {l : Nat} {xs ys : List W} (h : S[l]? = some (.lst xs)) (hl : xs.length + ys.length ≤ sizeLine) : bmW S .extend (.ref l) [.lst ys] = .ok .non (S.set l (.lst (xs ++ ys))) := by simp [bmW, h, hl]
theorem len_flat {α β : Type} {f : α → List β} {n : Nat} (h : ∀ a, (f a).length ≤ n) : ∀ xs : List α, (xs.flatMap f).length ≤ n * xs.length
  | [] => by simp
  | x :: xs => by
    have := len_flat h xs
    have := h x
    rw [List.flatMap_cons, List.length_append, List.length_cons, Nat.mul_add]
    omega
theorem upTo_at {n i : Nat} {x : W} (h : (upTo 0 n)[i]? = some x) : x = .int i ∧ i < n := by
  have hi := (List.getElem?_eq_some_iff.mp h).1
  rw [upTo_len] at hi
  rw [upTo_get hi] at h
  simp at h
  exact ⟨h.symm, hi⟩
theorem range_take {α : Type} {f : Nat → List α} (i : Nat) : (List.range (i + 1)).flatMap f = (List.range i).flatMap f ++ f i := by
  rw [List.range_succ, List.flatMap_append]
  simp
end Eng

set_option Elab.async false
set_option linter.all false
set_option maxHeartbeats 4000000
set_option maxRecDepth 100000
/-! E35: machine_of, the inner loop. -/
namespace Eng
open PySem L2
section
variable {P : Prog} {S : Sto} {k : Nat} {p : Pg} {m : Mp} {c : Co} {cs : List Nat}
abbrev inner : CS := .for_ (.nm 5) (.rng1 (.var 2)) (.cons (.expr (.bm .extend (.var 3) (.cons (.meth (.var 1) 4 (.cons (.var 4) (.cons (.var 5) .nil))) .nil))) .nil)
theorem inner_ok (L : LOf P) (G : Good p m c cs) {l : Nat} (hl : l < c.frames.length) (hk : 21 ≤ k) {T : List W} (hT : T.length + 2 * 2 ^ p.g ≤ sizeLine) {v5 : Option W} :
    ∃ v, exS P (clOf P k) inner [some p.w, some (c.w p m), some (.int (2 ^ p.g : Nat)), some (.ref S.length), some (.int l), v5] (S ++ [.lst T]) = .ok (.nx [some p.w, some (c.w p m), some (.int (2 ^ p.g : Nat)), some (.ref S.length), some (.int l), v])
      (S ++ [.lst (T ++ ((List.range (2 ^ p.g)).flatMap fun s => c.steps p m l s (c.frames.getD l (0, []))).map Stp.w)]) := by
  obtain ⟨k, rfl⟩ : ∃ k', k = k' + 1 := ⟨k - 1, by omega⟩
  have hg : 2 ^ p.g ≤ 2 ^ 12 := Nat.pow_le_pow_right (by decide) G.g60
  obtain ⟨env', S', e, v, he, hS⟩ := for_go (P := P) (C := clOf P (k + 1)) (t := .nm 5) (it := .rng1 (.var 2)) (b := .cons (.expr (.bm .extend (.var 3) (.cons (.meth (.var 1) 4 (.cons (.var 4) (.cons (.var 5) .nil))) .nil))) .nil)
    (env := [some p.w, some (c.w p m), some (.int (2 ^ p.g : Nat)), some (.ref S.length), some (.int l), v5]) (S := S ++ [.lst T]) (S0 := S ++ [.lst T]) (xs := upTo 0 (2 ^ p.g)) (g := [])
    (fun i env S1 => ∃ v, env = [some p.w, some (c.w p m), some (.int (2 ^ p.g : Nat)), some (.ref S.length), some (.int l), v] ∧ S ++ [.lst (T ++ ((List.range i).flatMap fun s => c.steps p m l s (c.frames.getD l (0, []))).map Stp.w)] = S1)
    (evI_rngN (by simp [evE]) (by omega)) (fun _ _ _ _ _ => gOk_nil) ⟨v5, rfl, by simp⟩ (fun i x env S1 hx ⟨v, e1, e2⟩ => by
      subst e1 e2
      obtain ⟨rfl, hi⟩ := upTo_at hx
      generalize hT2 : T ++ ((List.range i).flatMap fun s => c.steps p m l s (c.frames.getD l (0, []))).map Stp.w = T2
      have hlen : T2.length + ((c.steps p m l i (c.frames.getD l (0, []))).map Stp.w).length ≤ sizeLine := by
        have h1 := len_flat (fun s => steps_few G l s (c.frames.getD l (0, []))) (List.range i)
        have h2 := steps_few G l i (c.frames.getD l (0, []))
        rw [← hT2, List.length_append, List.length_map, List.length_map]
        rw [List.length_range] at h1
        omega
      have q1 := steps_good (P := P) (S := S ++ [.lst T2]) (k := k) (s := i) L G hl (by omega)
      have q2 := extend_ref (S := S ++ [.lst T2]) (l := S.length) (xs := T2) (ys := (c.steps p m l i (c.frames.getD l (0, []))).map Stp.w) (by simp) hlen
      refine ⟨_, _, S ++ [.lst (T ++ ((List.range (i + 1)).flatMap fun s => c.steps p m l s (c.frames.getD l (0, []))).map Stp.w)], rfl, .inl ?_, some (.int i), rfl, rfl⟩
      have hfin : (S ++ [Ob.lst T2]).set S.length (.lst (T2 ++ (c.steps p m l i (c.frames.getD l (0, []))).map Stp.w)) = S ++ [.lst (T ++ ((List.range (i + 1)).flatMap fun s => c.steps p m l s (c.frames.getD l (0, []))).map Stp.w)] := by
        rw [range_take, List.map_append, ← List.append_assoc, hT2]
        simp
      rw [hfin] at q2
      have em : evE P (clOf P (k + 1)) (.meth (.var 1) 4 (.cons (.var 4) (.cons (.var 5) .nil))) [some p.w, some (c.w p m), some (.int (2 ^ p.g : Nat)), some (.ref S.length), some (.int l), some (.int i)] (S ++ [.lst T2]) = .ok (.lst ((c.steps p m l i (c.frames.getD l (0, []))).map Stp.w)) (S ++ [.lst T2]) := by
        simp only [Co.w] at q1
        simp [evE, evEs, Co.w, L.m4, clOf_fn, full_no L.toLib (f := 17) (by decide)] at q1 ⊢
        rw [q1]
      generalize (CE.meth (.var 1) 4 (.cons (.var 4) (.cons (.var 5) .nil))) = me at em ⊢
      simp only [List.set_cons_succ, List.set_cons_zero]
      rw [exSs, exS, evE]
      simp only [evE, evEs, List.getElem?_cons_succ, List.getElem?_cons_zero, Option.join_some, R.of_some_, R.bind_ok_]
      have hb : bmK (S ++ [Ob.lst T2]) .extend (.ref S.length) = true := by simp [bmK]
      rw [if_pos hb, em]
      simp only [R.bind_ok_]
      rw [q2]
      simp [exSs])
  subst he hS
  exact ⟨v, by rw [e, upTo_len]⟩
end
end Eng

set_option Elab.async false
set_option linter.all false
set_option maxHeartbeats 4000000
set_option maxRecDepth 100000
/-! E36: machine_of. -/
namespace Eng
open PySem L2
section
variable {P : Prog} {S : Sto} {k : Nat} {p : Pg} {m : Mp} {c : Co} {cs : List Nat}
theorem mw_pu (st lt : Nat) (ss : List Stp) : Pu (mw st lt ss) := by
  have h2 := tup_pu (map_pu stw_pu (xs := ss))
  unfold Pu at h2
  simp [mw, Pu, below, belows] at h2 ⊢
  exact h2
theorem machine_ok (L : LOf P) (G : Good p m c cs) {k0 : Nat} (hc : CoOk P p m c k0) (hfit : ∀ x ∈ c.all p m, x.fits (2 ^ p.g) c.frames.length) (h1 : 1 ≤ c.frames.length) (hk : 24 ≤ k) (hk0 : k0 ≤ k) :
    run P (k + 1) 4 [p.w] S = .ok (mw (2 ^ p.g) c.frames.length (c.all p m)) S := by
  obtain ⟨k, rfl⟩ : ∃ k', k = k' + 3 := ⟨k - 3, by omega⟩
  have hco := hc (k + 3) hk0
  have hg : 2 ^ p.g ≤ 2 ^ 12 := Nat.pow_le_pow_right (by decide) G.g60
  have hsz := G.size
  have hline : 16500000 ≤ sizeLine := by decide
  have hF : ∀ l, ((List.range (2 ^ p.g)).flatMap fun s => c.steps p m l s (c.frames.getD l (0, []))).length ≤ 8192 := fun l => by
    have := len_flat (fun s => steps_few G l s (c.frames.getD l (0, []))) (List.range (2 ^ p.g))
    rw [List.length_range] at this
    omega
  obtain ⟨env', S', e, v4, v5, he, hS⟩ := for_go (P := P) (C := clOf P (k + 3)) (t := .nm 4) (it := .rng1 (.blt .len (.cons (.fld (.var 1) 3) .nil))) (b := .cons inner .nil)
    (env := [some p.w, some (c.w p m), some (.int (2 ^ p.g : Nat)), some (.ref S.length), none, none]) (S := S ++ [.lst []]) (S0 := S ++ [.lst []]) (xs := upTo 0 c.frames.length) (g := [])
    (fun i env S1 => ∃ v4 v5, env = [some p.w, some (c.w p m), some (.int (2 ^ p.g : Nat)), some (.ref S.length), v4, v5] ∧ S ++ [.lst (((List.range i).flatMap fun l => (List.range (2 ^ p.g)).flatMap fun s => c.steps p m l s (c.frames.getD l (0, []))).map Stp.w)] = S1)
    (evI_rngN (by simp [evE, evEs, Co.w]) (by omega)) (fun _ _ _ _ _ => gOk_nil) ⟨none, none, rfl, by simp⟩ (fun i x env S1 hx ⟨v4, v5, e1, e2⟩ => by
      subst e1 e2
      obtain ⟨rfl, hi⟩ := upTo_at hx
      generalize hT2 : ((List.range i).flatMap fun l => (List.range (2 ^ p.g)).flatMap fun s => c.steps p m l s (c.frames.getD l (0, []))).map Stp.w = T2
      have hlen : T2.length + 2 * 2 ^ p.g ≤ sizeLine := by
        have h1 := len_flat hF (List.range i)
        rw [List.length_range] at h1
        rw [← hT2, List.length_map]
        omega
      obtain ⟨v, ev⟩ := inner_ok (P := P) (S := S) (k := k + 3) L G hi (by omega) hlen (v5 := v5)
      refine ⟨_, _, S ++ [.lst (((List.range (i + 1)).flatMap fun l => (List.range (2 ^ p.g)).flatMap fun s => c.steps p m l s (c.frames.getD l (0, []))).map Stp.w)], rfl, .inl ?_, some (.int i), v, rfl, rfl⟩
      simp only [List.set_cons_succ, List.set_cons_zero]
      rw [ss_nx ev, range_take (f := fun l => (List.range (2 ^ p.g)).flatMap fun s => c.steps p m l s (c.frames.getD l (0, []))), List.map_append, hT2]
      rw [exSs])
  subst he hS
  rw [upTo_len] at e
  have hall : ((List.range c.frames.length).flatMap fun l => (List.range (2 ^ p.g)).flatMap fun s => c.steps p m l s (c.frames.getD l (0, []))) = c.all p m := rfl
  rw [hall] at e
  have hlen : (c.all p m).length ≤ sizeLine := by
    have h1 := len_flat hF (List.range c.frames.length)
    rw [List.length_range] at h1
    rw [← hall]
    omega
  have e2 := fun S => twos_ok (P := P) (S := S) (k := k + 2) L.f16 (n := p.g) (by have := G.g60; omega)
  have e3 := mk_machine (P := P) (S := S ++ [.lst ((c.all p m).map Stp.w)]) (k := k) L.toLMach (l := S.length) (st := 2 ^ p.g) (lt := c.frames.length) (ss := c.all p m) (by simp) hfit (Nat.one_le_two_pow) h1 hlen
  refine run_ret L.f4 rfl rfl (w := mw _ _ _) (env0 := [some p.w, none, none, none, none, none]) (S1 := S ++ [.lst ((c.all p m).map Stp.w)]) ?_ (fin_pu (mw_pu _ _ _))
  unfold d_machine_of
  dsimp only
  rw [ss_nx (env' := [some p.w, some (c.w p m), none, none, none, none]) (S' := S) (by simp [exS, evE, evEs, hco])]
  rw [ss_nx (env' := [some p.w, some (c.w p m), some (.int (2 ^ p.g : Nat)), none, none, none]) (S' := S) (by simp [exS, evE, evEs, Pg.w, clOf_fn, full_no L.toLib (f := 16) (by decide), e2])]
  rw [ss_nx (env' := [some p.w, some (c.w p m), some (.int (2 ^ p.g : Nat)), some (.ref S.length), none, none]) (S' := S ++ [.lst []]) (by simp [exS, evE, evL, evEs])]
  rw [ss_nx e]
  simp [exSs, exS, evE, evEs, Co.w] at e3 ⊢
  rw [e3]
  simp
end
end Eng

set_option Elab.async false
set_option linter.all false
set_option maxHeartbeats 4000000
set_option maxRecDepth 100000
/-! E37: all steps fit; the steps that a configuration can take. -/
namespace Eng
open PySem L2
section
variable {p : Pg} {m : Mp} {c : Co} {cs : List Nat}
theorem steps_mem {l s : Nat} {f : Fr} {x : Stp} (h : x ∈ c.steps p m l s f) : ∃ y ∈ m.after p (bits s p.g) f, x = ⟨s, l, num y.1, y.2.map c.letter⟩ := by
  unfold Co.steps at h
  obtain ⟨y, hy, rfl⟩ := List.mem_map.mp h
  exact ⟨y, hy, rfl⟩
theorem all_fits (G : Good p m c cs) : ∀ x ∈ c.all p m, x.fits (2 ^ p.g) c.frames.length := by
  intro x hx
  unfold Co.all at hx
  simp only [List.mem_flatMap, List.mem_range] at hx
  obtain ⟨l, hl, s, hs, hx⟩ := hx
  obtain ⟨y, hy, rfl⟩ := steps_mem hx
  have hf : c.frames[l]? = some (c.frames.getD l (0, [])) := by simp [hl]
  obtain ⟨f1, f2⟩ := G.fr _ (List.mem_of_getElem? hf)
  obtain ⟨n1, n2, n3⟩ := G.next _ _ y (bits_len _ _) f1 f2 hy
  refine ⟨hs, ?_, hl, by simpa using n2, fun z hz => ?_⟩
  · have := num_lt y.1
    rw [n1] at this
    exact this
  · obtain ⟨u, hu, rfl⟩ := List.mem_map.mp hz
    obtain ⟨a, b⟩ := n3 u hu
    exact (List.getElem?_eq_some_iff.mp (G.ok.at_ u a b)).1
theorem filter_flat {α β : Type} {f : α → List β} {q : β → Bool} : ∀ xs : List α, (xs.flatMap f).filter q = xs.flatMap fun x => (f x).filter q
  | [] => rfl
  | x :: xs => by rw [List.flatMap_cons, List.filter_append, filter_flat xs, List.flatMap_cons]
theorem flat_one {β : Type} {f : Nat → List β} {n i : Nat} (hi : i < n) (h : ∀ j, j ≠ i → f j = []) : (List.range n).flatMap f = f i := by
  induction n with
  | zero => omega
  | succ n ih =>
    rw [range_take]
    by_cases e : i = n
    · subst e
      have : (List.range i).flatMap f = [] := by
        rw [List.flatMap_eq_nil_iff]
        intro j hj
        exact h j (by have := List.mem_range.mp hj; omega)
      rw [this, List.nil_append]
    · rw [ih (by omega), h n (by omega), List.append_nil]
theorem block (G : Good p m c cs) {s l : Nat} {ys : List Nat} (hs : s < 2 ^ p.g) (hl : l < c.frames.length) : (c.all p m).filter (fun x => x.can (s, l :: ys)) = c.steps p m l s (c.frames.getD l (0, [])) := by
  unfold Co.all
  rw [filter_flat]
  have no : ∀ (l' s' : Nat) (f : Fr), (l' ≠ l ∨ s' ≠ s) → (c.steps p m l' s' f).filter (fun x => x.can (s, l :: ys)) = [] := fun l' s' f h => by
    rw [List.filter_eq_nil_iff]
    intro x hx
    obtain ⟨y, _, rfl⟩ := steps_mem hx
    simp only [Stp.can, Bool.and_eq_true, decide_eq_true_eq]
    omega
  rw [flat_one hl fun j hj => by
    rw [filter_flat, List.flatMap_eq_nil_iff]
    intro s' _
    exact no j s' _ (.inl hj)]
  rw [filter_flat, flat_one hs fun j hj => no l j _ (.inr hj)]
  rw [List.filter_eq_self]
  intro x hx
  obtain ⟨y, _, rfl⟩ := steps_mem hx
  simp [Stp.can]
end
end Eng

set_option Elab.async false
set_option linter.all false
set_option maxHeartbeats 4000000
set_option maxRecDepth 100000
/-! E38: a datum equals itself. -/
namespace Eng
open PySem L2
mutual
theorem eqv_refl : ∀ {w : W}, isD w = true → PyData.eqv (toD w) (toD w) = true
  | .non, _ => by simp [toD, PyData.eqv]
  | .bl b, _ => by simp [toD, PyData.eqv]
  | .int i, _ => by simp [toD, PyData.eqv]
  | .str s, _ => by simp [toD, PyData.eqv]
  | .tup xs, h => by simp only [isD] at h; simp only [toD, PyData.eqv]; exact eqvs_refl h
  | .lst xs, h => by simp only [isD] at h; simp only [toD, PyData.eqv]; exact eqvs_refl h
  | .fro xs, h => by simp only [isD] at h; simp only [toD, PyData.eqv]; exact eqvs_refl h
  | .ins _ _ _, h => by simp [isD] at h
  | .dct _ _, h => by simp [isD] at h
  | .ref _, h => by simp [isD] at h
theorem eqvs_refl : ∀ {ws : List W}, isDs ws = true → PyData.eqvAll (toDs ws) (toDs ws) = true
  | [], _ => by simp [toDs, PyData.eqvAll]
  | w :: ws, h => by
    simp only [isDs, Bool.and_eq_true] at h
    simp only [toDs, PyData.eqvAll, Bool.and_eq_true]
    exact ⟨eqv_refl h.1, eqvs_refl h.2⟩
end
theorem eqW_self {S : Sto} {xs : List W} (h : isD (.lst xs) = true) (hs : SeqAt.shaped (toD (.lst xs)) = true) : eqW S (.lst xs) (.lst xs) = some true := by
  unfold eqW eqS
  dsimp only
  unfold eqDeep readW
  rw [if_pos h]
  dsimp only
  rw [if_pos ⟨h, h, hs, hs⟩, eqv_refl h]
end Eng

set_option Elab.async false
set_option linter.all false
set_option maxHeartbeats 4000000
set_option maxRecDepth 100000
/-! E39: data of ints, bools, tuples, lists: small depth. -/
namespace Eng
open PySem L2
/-- a datum without texts, at most n deep -/
def Dat (n : Nat) (w : W) : Prop := isD w = true ∧ PyData.canLay0 (toD w) = true ∧ PyData.depth (toD w) ≤ n
theorem dat_all {n : Nat} : ∀ {ws : List W}, (∀ w ∈ ws, Dat n w) → isDs ws = true ∧ PyData.canLayAll0 (toDs ws) = true ∧ PyData.depthAll (toDs ws) ≤ n
  | [], _ => ⟨by simp [isDs], by simp [toDs, PyData.canLayAll0], by simp [toDs, PyData.depthAll]⟩
  | w :: ws, h => by
    obtain ⟨a1, a2, a3⟩ := h w List.mem_cons_self
    obtain ⟨b1, b2, b3⟩ := dat_all fun v hv => h v (List.mem_cons_of_mem _ hv)
    refine ⟨by simp [isDs, a1, b1], by simp [toDs, PyData.canLayAll0, a2, b2], ?_⟩
    simp only [toDs, PyData.depthAll]
    omega
theorem dat_tup {n : Nat} {ws : List W} (h : ∀ w ∈ ws, Dat n w) : Dat (n + 1) (.tup ws) := by
  obtain ⟨b1, b2, b3⟩ := dat_all h
  exact ⟨by simpa [isD] using b1, by simpa [toD, PyData.canLay0] using b2, by simpa [toD, PyData.depth] using b3⟩
theorem dat_lst {n : Nat} {ws : List W} (h : ∀ w ∈ ws, Dat n w) : Dat (n + 1) (.lst ws) := by
  obtain ⟨b1, b2, b3⟩ := dat_all h
  exact ⟨by simpa [isD] using b1, by simpa [toD, PyData.canLay0] using b2, by simpa [toD, PyData.depth] using b3⟩
theorem Dat.up {n k : Nat} {w : W} (h : Dat n w) (hk : n ≤ k) : Dat k w := ⟨h.1, h.2.1, Nat.le_trans h.2.2 hk⟩
theorem dat_int {i : Int} : Dat 0 (.int i) := ⟨rfl, rfl, Nat.le_refl _⟩
theorem dat_bl {b : Bool} : Dat 0 (.bl b) := ⟨rfl, rfl, Nat.le_refl _⟩
theorem dat_bw {bs : List Bool} : Dat 1 (bw bs) := dat_tup fun w hw => by
  obtain ⟨b, _, rfl⟩ := List.mem_map.mp hw
  exact dat_bl
theorem dat_fw {f : Fr} : Dat 2 (fw f) := dat_tup fun w hw => by
  simp at hw
  rcases hw with rfl | rfl
  · exact dat_int.up (by omega)
  · exact dat_bw
theorem dat_aw {x : List Bool × List Fr} : Dat 4 (aw x) := dat_tup fun w hw => by
  simp at hw
  rcases hw with rfl | rfl
  · exact dat_bw.up (by omega)
  · exact dat_tup fun w hw => by
      obtain ⟨f, _, rfl⟩ := List.mem_map.mp hw
      exact dat_fw
theorem dat_cw {x : Nat × List Nat} : Dat 2 (cw x) := dat_tup fun w hw => by
  simp at hw
  rcases hw with rfl | rfl
  · exact dat_int.up (by omega)
  · exact dat_tup fun w hw => by
      obtain ⟨f, _, rfl⟩ := List.mem_map.mp hw
      exact dat_int
theorem eq_dat {S : Sto} {n : Nat} {xs : List W} (h : ∀ w ∈ xs, Dat n w) (hn : n ≤ 60) : eqW S (.lst xs) (.lst xs) = some true := by
  obtain ⟨a, b, c⟩ := dat_lst h
  refine eqW_self a ?_
  unfold SeqAt.shaped
  simp only [Bool.and_eq_true, decide_eq_true_eq]
  exact ⟨b, by omega⟩
end Eng

set_option Elab.async false
set_option linter.all false
set_option maxHeartbeats 4000000
set_option maxRecDepth 100000
/-! E40: one turn of the law k75. -/
namespace Eng
open PySem L2
/-- a situation of the program -/
structure Sit (p : Pg) (cs : List Nat) (n : Nat) (x : List Bool × List Fr) : Prop where
  g : x.1.length = p.g
  fr : ∀ f ∈ x.2, f.1 < cs.length ∧ f.2.length = cs.getD f.1 0
  few : x.2.length ≤ n
/-- where a situation leads -/
def follow (p : Pg) (m : Mp) (x : List Bool × List Fr) : List (List Bool × List Fr) := match x.2 with
  | [] => []
  | f :: r => (m.after p x.1 f).map fun y => (y.1, y.2 ++ r)
section
variable {P : Prog} {S : Sto} {k : Nat} {p : Pg} {m : Mp} {c : Co} {cs : List Nat}
theorem follow_sit (G : Good p m c cs) {n : Nat} {x : List Bool × List Fr} (h : Sit p cs n x) : ∀ y ∈ follow p m x, Sit p cs (n + 1) y := by
  obtain ⟨gs, frs⟩ := x
  intro y hy
  unfold follow at hy
  cases frs with
  | nil => cases hy
  | cons f r =>
    obtain ⟨z, hz, rfl⟩ := List.mem_map.mp hy
    obtain ⟨f1, f2⟩ := h.fr f List.mem_cons_self
    obtain ⟨n1, n2, n3⟩ := G.next gs f z h.g f1 f2 hz
    refine ⟨n1, fun u hu => ?_, ?_⟩
    · rcases List.mem_append.mp hu with hu | hu
      · exact n3 u hu
      · exact h.fr u (List.mem_cons_of_mem _ hu)
    · have := h.few
      simp only [List.length_cons, List.length_append] at this ⊢
      omega
theorem follow_few (G : Good p m c cs) (x : List Bool × List Fr) : (follow p m x).length ≤ 2 := by
  unfold follow
  split
  · simp
  · rw [List.length_map]; exact G.few _ _
/-- what the machine's steps make of a situation's configuration -/
theorem found_eq (G : Good p m c cs) {n : Nat} {x : List Bool × List Fr} (h : Sit p cs n x) :
    (places (fun s => s.can (c.conf x)) 0 (c.all p m)).map (fun i => cw (((c.all p m).getD i ⟨0, 0, 0, []⟩).g, ((c.all p m).getD i ⟨0, 0, 0, []⟩).laid ++ (c.conf x).2.tail)) = (follow p m x).map fun y => cw (c.conf y) := by
  obtain ⟨gs, frs⟩ := x
  rw [places_map _ _ (fun s => cw (s.g, s.laid ++ (c.conf (gs, frs)).2.tail)) (c.all p m) (c.all p m) 0 (fun i x hx => by simpa using hx) (fun i x hx => by simp [List.getD_eq_getElem?_getD, hx])]
  cases frs with
  | nil =>
    have : (c.all p m).filter (fun s => s.can (c.conf (gs, []))) = [] := by
      rw [List.filter_eq_nil_iff]
      intro s _
      simp [Co.conf, Stp.can]
    rw [this]
    rfl
  | cons f r =>
    obtain ⟨f1, f2⟩ := h.fr f List.mem_cons_self
    have hl := G.ok.at_ f f1 f2
    have hll : c.letter f < c.frames.length := (List.getElem?_eq_some_iff.mp hl).1
    have hn : num gs < 2 ^ p.g := by
      have := num_lt gs
      rwa [h.g] at this
    have hb := block (ys := r.map c.letter) G hn hll
    have e : c.frames.getD (c.letter f) (0, []) = f := by simp [List.getD_eq_getElem?_getD, hl]
    rw [e] at hb
    have e2 : bits (num gs) p.g = gs := by rw [← h.g, bits_num]
    show ((c.all p m).filter (fun s => s.can (num gs, c.letter f :: r.map c.letter))).map _ = _
    rw [hb]
    unfold Co.steps follow
    rw [e2]
    simp [Co.conf, Function.comp_def]
end
end Eng

set_option Elab.async false
set_option linter.all false
set_option maxHeartbeats 4000000
set_option maxRecDepth 100000
/-! E41: the lists that the law k75 compares. -/
namespace Eng
open PySem L2
abbrev ce1 : CE := .comp true [9] (.nm 9) (.seq (.call 7 (.cons (.var 4) (.cons (.var 7) .nil)))) .nil (.call 8 (.cons (.var 4) (.cons (.var 7) (.cons (.var 9) .nil))))
section
variable {P : Prog} {S : Sto} {k : Nat} {p : Pg} {m : Mp} {c : Co} {cs : List Nat}
theorem found_ok (L : LOf P) (LR : LRun P) (G : Good p m c cs) {n : Nat} {x : List Bool × List Fr} (h : Sit p cs n x) (hn : n ≤ 5000) {env : Env} (e4 : env[4]? = some (some (mw (2 ^ p.g) c.frames.length (c.all p m)))) (e7 : env[7]? = some (some (cw (c.conf x)))) (e9 : 9 < env.length)
    (hlen : (c.all p m).length ≤ sizeLine) (hk : 3 ≤ k) : evE P (clOf P k) ce1 env S = .ok (.lst ((follow p m x).map fun y => cw (c.conf y))) S := by
  obtain ⟨k, rfl⟩ : ∃ k', k = k' + 1 := ⟨k - 1, by omega⟩
  have hp := possible_ok (P := P) (S := S) (k := k) LR (st := 2 ^ p.g) (lt := c.frames.length) (ss := c.all p m) (c := c.conf x) hlen (by omega)
  rw [← found_eq G h]
  refine comp_map (ys := places (fun s => s.can (c.conf x)) 0 (c.all p m)) (wy := iw) (g := []) ?_ (fun _ => gOk_nil) (Nat.le_trans places_len hlen) fun i hi acc => ?_
  · rw [evI, evE]
    simp only [evE, evEs, e4, e7, Option.join_some, R.of_some_, R.bind_ok_, clOf_fn, full_no L.toLib (f := 7) (by decide), hp, asSeq_lst, seqG_lst]
  · obtain ⟨j, s, rfl, hs, hc⟩ := places_mem hi
    rw [Nat.zero_add]
    have hd : (c.all p m).getD j ⟨0, 0, 0, []⟩ = s := by simp [List.getD_eq_getElem?_getD, hs]
    rw [hd]
    cases q : (c.conf x).2 with
    | nil => simp [Stp.can, q] at hc
    | cons y ys =>
      have hx : c.conf x = ((c.conf x).1, y :: ys) := by rw [← q]
      have hfit := all_fits G s (List.mem_of_getElem? hs)
      have hys : ys.length ≤ n := by
        have h1 : (c.conf x).2.length = x.2.length := by simp [Co.conf]
        rw [q] at h1
        have := h.few
        simp at h1
        omega
      have ht := take_ok (P := P) (S := S ++ [.lst acc]) (k := k) LR (st := 2 ^ p.g) (lt := c.frames.length) (ss := c.all p m) (s := (c.conf x).1) (y := y) (ys := ys) hs (by rw [← hx]; exact hc) (by
        have := hfit.2.2.2.1
        have : (6000 : Nat) ≤ sizeLine := by decide
        omega) (by omega)
      rw [← hx] at ht
      refine ⟨env.set 9 (some (iw j)) |>.set 9 (some (iw j)), ?_, ?_, ?_⟩
      · simp [wipeE, List.set_set]
      · have g4 : (env.set 9 (some (iw j)))[4]? = some (some (mw (2 ^ p.g) c.frames.length (c.all p m))) := by rw [List.getElem?_set_ne (by decide)]; exact e4
        have g7 : (env.set 9 (some (iw j)))[7]? = some (some (cw (c.conf x))) := by rw [List.getElem?_set_ne (by decide)]; exact e7
        have g9 : (env.set 9 (some (iw j)))[9]? = some (some (iw j)) := List.getElem?_set_self e9
        rw [List.set_set]
        simp only [evE, evEs, g4, g7, g9, Option.join_some, R.of_some_, R.bind_ok_, clOf_fn, full_no L.toLib (f := 8) (by decide), ht, List.tail_cons]
      · exact (cw_pu _).at _
end
end Eng

set_option Elab.async false
set_option linter.all false
set_option maxHeartbeats 4000000
set_option maxRecDepth 100000
/-! E42: the other lists that the law k75 compares. -/
namespace Eng
open PySem L2
abbrev ce2 : CE := .comp true [11] (.nm 11) (.seq (.var 10)) .nil (.call 6 (.cons (.var 3) (.cons (.var 11) .nil)))
abbrev ce3 : CE := .comp true [11] (.nm 11) (.seq (.var 8)) .nil (.call 10 (.cons (.var 3) (.cons (.var 11) .nil)))
section
variable {P : Prog} {S : Sto} {k : Nat} {p : Pg} {m : Mp} {c : Co} {cs : List Nat}
theorem confs_ok (L : LOf P) (f6 : P.fn 6 = some d_configuration_of) (G : Good p m c cs) {k0 : Nat} (hc : CoOk P p m c k0) {n : Nat} {xs : List (List Bool × List Fr)} (h : ∀ x ∈ xs, Sit p cs n x) (hx : xs.length ≤ 2) (hn : n ≤ 5000) {env : Env} (e3 : env[3]? = some (some p.w)) (e10 : env[10]? = some (some (.lst (xs.map aw)))) (e11 : 11 < env.length) (hk : 6 ≤ k) (hk0 : k0 + 1 ≤ k) :
    evE P (clOf P k) ce2 env S = .ok (.lst (xs.map fun y => cw (c.conf y))) S := by
  obtain ⟨k, rfl⟩ : ∃ k', k = k' + 1 := ⟨k - 1, by omega⟩
  refine comp_map (ys := xs) (wy := aw) (g := []) ?_ (fun _ => gOk_nil) (Nat.le_trans hx (by decide)) fun y hy acc => ?_
  · rw [evI, evE]
    simp only [e10, Option.join_some, R.of_some_, R.bind_ok_, asSeq_lst, seqG_lst]
  · have s := h y hy
    have q := conf_ok (P := P) (S := S ++ [.lst acc]) (k := k) L.toLComp f6 hc (x := y) (fun f hf => by rw [G.ok.len]; exact (s.fr f hf).1) (by have := s.few; omega) (by omega) (by omega)
    refine ⟨env.set 11 (some (aw y)), by simp [wipeE, List.set_set], ?_, (cw_pu _).at _⟩
    have g3 : (env.set 11 (some (aw y)))[3]? = some (some p.w) := by rw [List.getElem?_set_ne (by decide)]; exact e3
    have g11 : (env.set 11 (some (aw y)))[11]? = some (some (aw y)) := List.getElem?_set_self e11
    simp only [evE, evEs, g3, g11, Option.join_some, R.of_some_, R.bind_ok_, clOf_fn, full_no L.toLib (f := 6) (by decide), q]
theorem sits_ok (L : LOf P) (f10 : P.fn 10 = some d_situation_of) (G : Good p m c cs) {k0 : Nat} (hc : CoOk P p m c k0) {n : Nat} {xs : List (List Bool × List Fr)} (h : ∀ x ∈ xs, Sit p cs n x) (hx : xs.length ≤ 2) (hn : n ≤ 5000) {env : Env} (e3 : env[3]? = some (some p.w)) (e8 : env[8]? = some (some (.lst (xs.map fun y => cw (c.conf y))))) (e11 : 11 < env.length) (hk : 6 ≤ k) (hk0 : k0 + 1 ≤ k) :
    evE P (clOf P k) ce3 env S = .ok (.lst (xs.map aw)) S := by
  obtain ⟨k, rfl⟩ : ∃ k', k = k' + 1 := ⟨k - 1, by omega⟩
  refine comp_map (ys := xs) (wy := fun y => cw (c.conf y)) (g := []) ?_ (fun _ => gOk_nil) (Nat.le_trans hx (by decide)) fun y hy acc => ?_
  · rw [evI, evE]
    simp only [e8, Option.join_some, R.of_some_, R.bind_ok_, asSeq_lst, seqG_lst]
  · have s := h y hy
    have q := situ_ok (P := P) (S := S ++ [.lst acc]) (k := k) L.toLComp f10 hc G.ok (x := y) s.g (by have := G.g60; omega) s.fr (by have := s.few; omega) (by omega) (by omega)
    refine ⟨env.set 11 (some (cw (c.conf y))), by simp [wipeE, List.set_set], ?_, (aw_pu _).at _⟩
    have g3 : (env.set 11 (some (cw (c.conf y))))[3]? = some (some p.w) := by rw [List.getElem?_set_ne (by decide)]; exact e3
    have g11 : (env.set 11 (some (cw (c.conf y))))[11]? = some (some (cw (c.conf y))) := List.getElem?_set_self e11
    simp only [evE, evEs, g3, g11, Option.join_some, R.of_some_, R.bind_ok_, clOf_fn, full_no L.toLib (f := 10) (by decide), q]
end
end Eng

set_option Elab.async false
set_option linter.all false
set_option maxHeartbeats 4000000
set_option maxRecDepth 100000
/-! E43: after, of any situation. -/
namespace Eng
open PySem L2
section
variable {P : Prog} {S : Sto} {k : Nat} {p : Pg} {m : Mp} {c : Co} {cs : List Nat}
theorem after_all (L : LMean P) (f9 : P.fn 9 = some d_after) (G : Good p m c cs) {k0 : Nat} (hm : MkOk P p m k0) {n : Nat} {x : List Bool × List Fr} (h : Sit p cs n x) (hn : n ≤ 1000) (hk : 20 ≤ k) (hk0 : k0 ≤ k) :
    run P (k + 1) 9 [p.w, aw x] S = .ok (.lst ((follow p m x).map aw)) S := by
  obtain ⟨gs, frs⟩ := x
  cases frs with
  | nil =>
    refine run_ret f9 rfl rfl (w := .lst []) (S1 := S) ?_ (fin_pu0 (lst_pu (by intro x hx; cases hx)))
    unfold d_after
    simp [exSs, exS, evE, evEs, evL, aw]
  | cons f r =>
    obtain ⟨f1, f2⟩ := h.fr f List.mem_cons_self
    obtain ⟨t, ht⟩ : ∃ t, m.pts[f.1]? = some t := ⟨m.pts[f.1]'(by rw [G.pts]; exact f1), by simp⟩
    obtain ⟨t1, t2⟩ := G.pt _ t ht
    have hg : gs.length = p.g := h.g
    have hfew := h.few
    simp only [List.length_cons] at hfew
    have := after_ok (P := P) (S := S) (k := k) L f9 hm (gs := gs) (f := f) (r := r) ht (by rw [hg, f2]; exact t1) t2 (by omega) hk hk0
    rw [this]
    simp [follow, Function.comp_def]
end
end Eng

set_option Elab.async false
set_option linter.all false
set_option maxHeartbeats 4000000
set_option maxRecDepth 100000
/-! E44: the turn of the law k75. -/
namespace Eng
open PySem L2
abbrev turn : CSs := (.cons (.asg (.nm 7) (.call 6 (.cons (.var 3) (.cons (.var 5) .nil)))) (.cons (.asg (.nm 8) ce1) (.cons (.asg (.nm 10) (.call 9 (.cons (.var 3) (.cons (.var 5) .nil)))) (.cons (.if_ (.cmp .ne (.var 8) ce2) (.cons (.ret (.bl false)) .nil) .nil) (.cons (.if_ (.cmp .ne ce3 (.var 10)) (.cons (.ret (.bl false)) .nil) .nil) (.cons (.if_ (.cmp .gt (.blt .len (.cons (.var 10) .nil)) (.int 0)) (.cons (.asg (.nm 5) (.idx (.var 10) (.bin .mod (.idx (.var 1) (.bin .add (.int 27) (.var 6))) (.blt .len (.cons (.var 10) .nil))))) .nil) .nil) .nil))))))
section
variable {P : Prog} {S : Sto} {k : Nat} {p : Pg} {m : Mp} {c : Co} {cs : List Nat}
theorem turn_ok (L : LOf P) (LR : LRun P) (f6 : P.fn 6 = some d_configuration_of) (f9 : P.fn 9 = some d_after) (f10 : P.fn 10 = some d_situation_of) (G : Good p m c cs) {k0 : Nat} (hm : MkOk P p m k0) (hc : CoOk P p m c k0) {n : Nat} {x : List Bool × List Fr} (h : Sit p cs n x) (hn : n ≤ 500) (hlen : (c.all p m).length ≤ sizeLine) (hk : 30 ≤ k) (hk0 : k0 + 2 ≤ k) {a0 a2 : W} {ns : List Int} {i : Nat} {z : Int} (hz : L2.atI (ns.map W.int) (27 + (i : Int)) = some (.int z)) {v7 v8 v9 v10 v11 : Option W} :
    ∃ x' w7 w8 w9 w10 w11, Sit p cs (n + 1) x' ∧ exSs P (clOf P k) turn [some a0, some (.lst (ns.map W.int)), some a2, some p.w, some (mw (2 ^ p.g) c.frames.length (c.all p m)), some (aw x), some (.int i), v7, v8, v9, v10, v11] S =
      .ok (.nx [some a0, some (.lst (ns.map W.int)), some a2, some p.w, some (mw (2 ^ p.g) c.frames.length (c.all p m)), some (aw x'), some (.int i), w7, w8, w9, w10, w11]) S := by
  obtain ⟨k, rfl⟩ : ∃ k', k = k' + 1 := ⟨k - 1, by omega⟩
  have q1 := conf_ok (P := P) (S := S) (k := k) L.toLComp f6 hc (x := x) (fun f hf => by rw [G.ok.len]; exact (h.fr f hf).1) (by have := h.few; omega) (by omega) (by omega)
  have q3 := after_all (P := P) (S := S) (k := k) L.toLMean f9 G hm h (by omega) (by omega) (by omega)
  have hs := follow_sit G h
  have hf := follow_few G x
  have l0 : (3 : Nat) ≤ k + 1 := by omega
  rw [ss_nx (env' := [some a0, some (.lst (ns.map W.int)), some a2, some p.w, some (mw (2 ^ p.g) c.frames.length (c.all p m)), some (aw x), some (.int i), some (cw (c.conf x)), v8, v9, v10, v11]) (S' := S) (by simp [exS, evE, evEs, clOf_fn, full_no L.toLib (f := 6) (by decide), q1])]
  have f1 := found_ok (P := P) (S := S) (k := k + 1) L LR G h (by omega) (env := [some a0, some (.lst (ns.map W.int)), some a2, some p.w, some (mw (2 ^ p.g) c.frames.length (c.all p m)), some (aw x), some (.int i), some (cw (c.conf x)), v8, v9, v10, v11]) rfl rfl (by simp) hlen l0
  rw [ss_nx (env' := [some a0, some (.lst (ns.map W.int)), some a2, some p.w, some (mw (2 ^ p.g) c.frames.length (c.all p m)), some (aw x), some (.int i), some (cw (c.conf x)), some (.lst ((follow p m x).map fun y => cw (c.conf y))), v9, v10, v11]) (S' := S) (by rw [exS, f1]; simp)]
  rw [ss_nx (env' := [some a0, some (.lst (ns.map W.int)), some a2, some p.w, some (mw (2 ^ p.g) c.frames.length (c.all p m)), some (aw x), some (.int i), some (cw (c.conf x)), some (.lst ((follow p m x).map fun y => cw (c.conf y))), v9, some (.lst ((follow p m x).map aw)), v11]) (S' := S) (by simp [exS, evE, evEs, clOf_fn, full_no L.toLib (f := 9) (by decide), q3])]
  have f2 := confs_ok (P := P) (S := S) (k := k + 1) L f6 G hc hs hf (by omega) (env := [some a0, some (.lst (ns.map W.int)), some a2, some p.w, some (mw (2 ^ p.g) c.frames.length (c.all p m)), some (aw x), some (.int i), some (cw (c.conf x)), some (.lst ((follow p m x).map fun y => cw (c.conf y))), v9, some (.lst ((follow p m x).map aw)), v11]) rfl rfl (by simp) (by omega) (by omega)
  have f3 := sits_ok (P := P) (S := S) (k := k + 1) L f10 G hc hs hf (by omega) (env := [some a0, some (.lst (ns.map W.int)), some a2, some p.w, some (mw (2 ^ p.g) c.frames.length (c.all p m)), some (aw x), some (.int i), some (cw (c.conf x)), some (.lst ((follow p m x).map fun y => cw (c.conf y))), v9, some (.lst ((follow p m x).map aw)), v11]) rfl rfl (by simp) (by omega) (by omega)
  have d1 : eqW S (.lst ((follow p m x).map fun y => cw (c.conf y))) (.lst ((follow p m x).map fun y => cw (c.conf y))) = some true := eq_dat (n := 2) (by intro w hw; obtain ⟨y, _, rfl⟩ := List.mem_map.mp hw; exact dat_cw) (by decide)
  have d2 : eqW S (.lst ((follow p m x).map aw)) (.lst ((follow p m x).map aw)) = some true := eq_dat (n := 4) (by intro w hw; obtain ⟨y, _, rfl⟩ := List.mem_map.mp hw; exact dat_aw) (by decide)
  generalize (ce2) = x2 at f2 ⊢
  generalize (ce3) = x3 at f3 ⊢
  rw [ss_nx (env' := [some a0, some (.lst (ns.map W.int)), some a2, some p.w, some (mw (2 ^ p.g) c.frames.length (c.all p m)), some (aw x), some (.int i), some (cw (c.conf x)), some (.lst ((follow p m x).map fun y => cw (c.conf y))), v9, some (.lst ((follow p m x).map aw)), v11]) (S' := S) (by simp [exS, exSs, evE, f2, d1])]
  rw [ss_nx (env' := [some a0, some (.lst (ns.map W.int)), some a2, some p.w, some (mw (2 ^ p.g) c.frames.length (c.all p m)), some (aw x), some (.int i), some (cw (c.conf x)), some (.lst ((follow p m x).map fun y => cw (c.conf y))), v9, some (.lst ((follow p m x).map aw)), v11]) (S' := S) (by simp [exS, exSs, evE, f3, d2])]
  generalize hfo : follow p m x = fo at hs hf
  cases fo with
  | nil => exact ⟨x, some (cw (c.conf x)), some (.lst []), v9, some (.lst []), v11, ⟨h.g, h.fr, by have := h.few; omega⟩, by simp [exSs, exS, evE, evEs]⟩
  | cons y ys =>
    obtain ⟨j, hj, hjl⟩ : ∃ j : Nat, z.fmod ((y :: ys).length : Int) = (j : Int) ∧ j < (y :: ys).length := by
      have hpos : (0 : Int) < ((y :: ys).length : Int) := by simp
      have h1 := Int.fmod_nonneg_of_pos z hpos
      have h2 := Int.fmod_lt_of_pos z hpos
      exact ⟨(z.fmod ((y :: ys).length : Int)).toNat, by omega, by omega⟩
    have e1 : L2.atI ((y :: ys).map aw) (j : Int) = some (aw ((y :: ys)[j])) := atI_nat (by rw [List.getElem?_map, List.getElem?_eq_getElem hjl]; rfl)
    refine ⟨(y :: ys)[j], some (cw (c.conf x)), some (.lst ((y :: ys).map fun y => cw (c.conf y))), v9, some (.lst ((y :: ys).map aw)), v11, hs _ (List.getElem_mem hjl), ?_⟩
    have h0 : (0 : Int) < (ys.length : Int) + 1 := by omega
    have h0' : ¬ ((ys.length : Int) + 1 = 0) := by omega
    simp only [List.length_cons, Int.natCast_add, Int.cast_ofNat_Int, List.map_cons] at hj e1
    simp [exSs, exS, evE, evEs, h0, h0', hz] at hj e1 ⊢
    rw [hj, e1]
    simp
end
end Eng

set_option Elab.async false
set_option linter.all false
set_option maxHeartbeats 4000000
set_option maxRecDepth 100000
/-! E45: the letters that Coder lays, as lists. -/
namespace Eng
open PySem L2
/-- the frames of the place n with c locals -/
def framesAt (n c : Nat) : List Fr := (List.range (2 ^ c)).map fun i => (n, bits i c)
def framesTo (cs : List Nat) (n : Nat) : List Fr := (List.range n).flatMap fun i => framesAt i (cs.getD i 0)
def coOf (cs : List Nat) : Co := ⟨(List.range cs.length).map fun i => (framesTo cs i).length, framesTo cs cs.length⟩
theorem framesTo_succ (cs : List Nat) (n : Nat) : framesTo cs (n + 1) = framesTo cs n ++ framesAt n (cs.getD n 0) := range_take n
theorem framesTo_at (cs : List Nat) : ∀ (n : Nat) (f : Fr), f.1 < n → f.2.length = cs.getD f.1 0 → (framesTo cs n)[(framesTo cs f.1).length + num f.2]? = some f
  | 0, f, h, _ => by omega
  | n + 1, f, h, hl => by
    rw [framesTo_succ]
    have hn := num_lt f.2
    by_cases e : f.1 = n
    · rw [List.getElem?_append_right (by rw [e]; omega), e, Nat.add_sub_cancel_left]
      unfold framesAt
      rw [hl, e] at hn
      rw [List.getElem?_map, List.getElem?_range hn]
      have : bits (num f.2) (cs.getD n 0) = f.2 := by rw [← e, ← hl, bits_num]
      simp only [Option.map_some, this]
      rw [← e]
    · have ih := framesTo_at cs n f (by omega) hl
      rw [List.getElem?_append_left (List.getElem?_eq_some_iff.mp ih).1]
      exact ih
theorem co_ok (cs : List Nat) : (coOf cs).Ok cs := by
  refine ⟨by simp [coOf], fun f h1 h2 => ?_⟩
  have := framesTo_at cs cs.length f h1 h2
  unfold Co.letter coOf
  dsimp only
  have e : ((List.range cs.length).map fun i => (framesTo cs i).length).getD f.1 0 = (framesTo cs f.1).length := by simp [List.getD_eq_getElem?_getD, h1]
  rw [e]
  exact this
theorem co_fr (cs : List Nat) : ∀ f ∈ (coOf cs).frames, f.1 < cs.length ∧ f.2.length = cs.getD f.1 0 := by
  intro f hf
  unfold coOf framesTo framesAt at hf
  simp only [List.mem_flatMap, List.mem_range, List.mem_map] at hf
  obtain ⟨i, hi, j, hj, rfl⟩ := hf
  exact ⟨hi, bits_len _ _⟩
end Eng

set_option Elab.async false
set_option linter.all false
set_option maxHeartbeats 4000000
set_option maxRecDepth 100000
/-! E46: Coder.__init__, the inner loop. -/
namespace Eng
open PySem L2
structure LCo (P : Prog) : Prop extends LComp P where
  f16 : P.fn 16 = some d_twos
  f15 : P.fn 15 = some d_Coder___init__
  i2 : P.init 2 = some 15
  coF : ∀ f ∈ [15, 16, 17, 3], P.isF 2 f = true
section
variable {P : Prog} {S : Sto} {k : Nat} {p : Pg} {m : Mp} {cs : List Nat}
abbrev coIns (p : Pg) (m : Mp) (n : Nat) : Ob := .ins 2 [15, 16, 17, 3] [p.w, wkw p m, .ref (n + 1), .ref (n + 2)]
abbrev coS (S : Sto) (p : Pg) (m : Mp) (A B : List W) : Sto := S ++ [coIns p m S.length, .lst A, .lst B]
theorem coS_0 {A B : List W} : (coS S p m A B)[S.length]? = some (coIns p m S.length) := by simp
theorem coS_1 {A B : List W} : (coS S p m A B)[S.length + 1]? = some (.lst A) := by simp
theorem coS_2 {A B : List W} : (coS S p m A B)[S.length + 2]? = some (.lst B) := by simp
abbrev coInner : CS := .for_ (.nm 5) (.rng1 (.call 16 (.cons (.var 4) .nil))) (.cons (.expr (.bm .append (.fld (.var 0) 3) (.cons (.tup (.cons (.var 2) (.cons (.call 26 (.cons (.var 5) (.cons (.var 4) .nil))) .nil))) .nil))) .nil)
theorem co_inner (L : LCo P) {c i : Nat} (hc : c ≤ 10) {A B : List W} (hB : B.length + 2 ^ c ≤ sizeLine) {v3 v5 : Option W} (hk : 2 ≤ k) :
    ∃ v, exS P (clOf P k) coInner [some (.ref S.length), some p.w, some (.int i), v3, some (.int c), v5] (coS S p m A B) = .ok (.nx [some (.ref S.length), some p.w, some (.int i), v3, some (.int c), v]) (coS S p m A (B ++ (framesAt i c).map fw)) := by
  obtain ⟨k, rfl⟩ : ∃ k', k = k' + 1 := ⟨k - 1, by omega⟩
  have hp : 2 ^ c ≤ 2 ^ 10 := Nat.pow_le_pow_right (by decide) hc
  have l2 : (2 : Nat) ≤ sizeLine := by decide
  have q1 := twos_ok (P := P) (S := coS S p m A B) (k := k) L.f16 (n := c) (by omega)
  obtain ⟨env', S', e, v, he, hS⟩ := for_go (P := P) (C := clOf P (k + 1)) (t := .nm 5) (it := .rng1 (.call 16 (.cons (.var 4) .nil))) (b := .cons (.expr (.bm .append (.fld (.var 0) 3) (.cons (.tup (.cons (.var 2) (.cons (.call 26 (.cons (.var 5) (.cons (.var 4) .nil))) .nil))) .nil))) .nil)
    (env := [some (.ref S.length), some p.w, some (.int i), v3, some (.int c), v5]) (S := coS S p m A B) (S0 := coS S p m A B) (xs := upTo 0 (2 ^ c)) (g := [])
    (fun j env S1 => ∃ v, env = [some (.ref S.length), some p.w, some (.int i), v3, some (.int c), v] ∧ coS S p m A (B ++ (((List.range j).map fun j => (i, bits j c)).map fw)) = S1)
    (evI_rngN (by simp [evE, evEs, clOf_fn, full_no L.toLib (f := 16) (by decide)] at q1 ⊢; exact q1) (by omega)) (fun _ _ _ _ _ => gOk_nil) ⟨v5, rfl, by simp⟩ (fun j x env S1 hx ⟨v, e1, e2⟩ => by
      subst e1 e2
      obtain ⟨rfl, hj⟩ := upTo_at hx
      generalize hB2 : B ++ (((List.range j).map fun j => (i, bits j c)).map fw) = B2
      have hlen : B2.length < sizeLine := by
        rw [← hB2]
        simp
        omega
      have q2 := values_of_ok (P := P) (S := coS S p m A B2) (k := k) L.f26 (n := j) (c := c) (by omega)
      have q3 := append_ref (S := coS S p m A B2) (l := S.length + 2) (x := fw (i, bits j c)) (xs := B2) coS_2 hlen
      have hset : (coS S p m A B2).set (S.length + 2) (.lst (B2 ++ [fw (i, bits j c)])) = coS S p m A (B ++ (((List.range (j + 1)).map fun j => (i, bits j c)).map fw)) := by
        rw [List.range_succ, List.map_append, List.map_append, ← List.append_assoc, hB2]
        simp
      rw [hset] at q3
      refine ⟨_, _, coS S p m A (B ++ (((List.range (j + 1)).map fun j => (i, bits j c)).map fw)), rfl, .inl ?_, some (.int j), rfl, rfl⟩
      have g1 : getF (coS S p m A B2) (.ref S.length) 3 = some (.ref (S.length + 2)) := by rw [getF_ref coS_0]; simp
      have hb : bmK (coS S p m A B2) .append (.ref (S.length + 2)) = true := bmK_ref coS_2
      generalize coS S p m A B2 = SS at *
      simp only [List.set_cons_succ, List.set_cons_zero]
      simp [exSs, exS, evE, evEs, g1, hb, clOf_fn, full_no L.toLib (f := 26) (by decide), q2, l2]
      simp only [fw] at q3
      rw [q3]
      simp)
  subst he hS
  refine ⟨v, ?_⟩
  rw [e, upTo_len]
  rfl
end
end Eng

set_option Elab.async false
set_option linter.all false
set_option maxHeartbeats 4000000
set_option maxRecDepth 100000
/-! E47: Coder is made. -/
namespace Eng
open PySem L2
/-- how many locals each place has -/
def csOf (p : Pg) (m : Mp) : List Nat := m.pts.map fun t => (p.procs.getD t.pr (0, [])).1
theorem framesAt_len (n c : Nat) : (framesAt n c).length = 2 ^ c := by simp [framesAt]
section
variable {P : Prog} {S : Sto} {k : Nat} {p : Pg} {m : Mp}
abbrev coOuter : CS := .for_ (.tp [(.nm 2), (.nm 3)]) (.enm (.fld (.fld (.fld (.var 0) 16) 18) 19)) (.cons (.expr (.bm .append (.fld (.var 0) 17) (.cons (.blt .len (.cons (.fld (.var 0) 3) .nil)) .nil))) (.cons (.asg (.nm 4) (.idx (.idx (.fld (.var 1) 2) (.fld (.var 3) 20)) (.int 0))) (.cons coInner .nil)))
abbrev firstsTo (cs : List Nat) (i : Nat) : List Nat := (List.range i).map fun i => (framesTo cs i).length
theorem co_outer (L : LCo P) (hpr : ∀ t ∈ m.pts, t.pr < p.procs.length) (hc : ∀ c ∈ csOf p m, c ≤ 10) (hl : m.pts.length ≤ 1000) (hB : ∀ i, i ≤ m.pts.length → (framesTo (csOf p m) i).length ≤ 1000000) (hk : 3 ≤ k) :
    ∃ v2 v3 v4 v5, exS P (clOf P k) coOuter [some (.ref S.length), some p.w, none, none, none, none] (coS S p m [] []) = .ok (.nx [some (.ref S.length), some p.w, v2, v3, v4, v5])
      (coS S p m ((firstsTo (csOf p m) m.pts.length).map iw) ((framesTo (csOf p m) m.pts.length).map fw)) := by
  have l1 : (1100000 : Nat) ≤ sizeLine := by decide
  obtain ⟨env', S', e, v2, v3, v4, v5, he, hS⟩ := for_go (P := P) (C := clOf P k) (t := .tp [(.nm 2), (.nm 3)]) (it := .enm (.fld (.fld (.fld (.var 0) 16) 18) 19)) (b := .cons (.expr (.bm .append (.fld (.var 0) 17) (.cons (.blt .len (.cons (.fld (.var 0) 3) .nil)) .nil))) (.cons (.asg (.nm 4) (.idx (.idx (.fld (.var 1) 2) (.fld (.var 3) 20)) (.int 0))) (.cons coInner .nil)))
    (env := [some (.ref S.length), some p.w, none, none, none, none]) (S := coS S p m [] []) (S0 := coS S p m [] []) (xs := enumW 0 (m.pts.map Pt.w)) (g := [])
    (fun i env S1 => ∃ v2 v3 v4 v5, env = [some (.ref S.length), some p.w, v2, v3, v4, v5] ∧ coS S p m ((firstsTo (csOf p m) i).map iw) ((framesTo (csOf p m) i).map fw) = S1)
    (by
      have g1 : getF (coS S p m [] []) (.ref S.length) 16 = some (wkw p m) := by rw [getF_ref coS_0]; simp
      generalize coS S p m [] [] = SS at *
      simp [evI, evE, g1, wkw, Mp.w]) (fun _ _ _ _ _ => gOk_nil) ⟨none, none, none, none, rfl, by simp [framesTo]⟩ (fun i x env S1 hx ⟨v2, v3, v4, v5, e1, e2⟩ => by
      subst e1 e2
      have hi : i < m.pts.length := by
        have := (List.getElem?_eq_some_iff.mp hx).1
        rwa [enumW_len, List.length_map] at this
      obtain ⟨t, ht⟩ : ∃ t, m.pts[i]? = some t := ⟨m.pts[i], by simp⟩
      have hx2 := enumW_get (k := 0) (xs := m.pts.map Pt.w) (i := i) (w := t.w) (by simp [ht])
      rw [hx, Nat.zero_add] at hx2
      cases hx2
      have htm := List.mem_of_getElem? ht
      have hcs : (csOf p m).getD i 0 = (p.procs.getD t.pr (0, [])).1 := by simp [csOf, List.getD_eq_getElem?_getD, ht]
      have hc10 : (p.procs.getD t.pr (0, [])).1 ≤ 10 := hc _ (by
        unfold csOf
        exact List.mem_map.mpr ⟨t, htm, rfl⟩)
      have e2 : L2.atI (p.procs.map prw) (t.pr : Int) = some (prw (p.procs.getD t.pr (0, []))) := atI_nat (by simp [hpr t htm])
      generalize hcc : (p.procs.getD t.pr (0, [])).1 = cc at hcs hc10
      generalize hA : (firstsTo (csOf p m) i).map iw = A
      generalize hBB : (framesTo (csOf p m) i).map fw = B
      have hAl : A.length < sizeLine := by rw [← hA]; simp; omega
      have hBl : B.length = (framesTo (csOf p m) i).length := by rw [← hBB]; simp
      have hBb := hB i (by omega)
      have hpw : 2 ^ cc ≤ 2 ^ 10 := Nat.pow_le_pow_right (by decide) hc10
      have g17 : getF (coS S p m A B) (.ref S.length) 17 = some (.ref (S.length + 1)) := by rw [getF_ref coS_0]; simp
      have g3 : getF (coS S p m A B) (.ref S.length) 3 = some (.ref (S.length + 2)) := by rw [getF_ref coS_0]; simp
      have gl : bltW (coS S p m A B) .len [.ref (S.length + 2)] = some (.int B.length) := bltW_len_ref coS_2
      have hb : bmK (coS S p m A B) .append (.ref (S.length + 1)) = true := bmK_ref coS_1
      have q3 := append_ref (S := coS S p m A B) (l := S.length + 1) (x := .int B.length) (xs := A) coS_1 hAl
      have hset : (coS S p m A B).set (S.length + 1) (.lst (A ++ [.int B.length])) = coS S p m (A ++ [.int B.length]) B := by simp
      rw [hset] at q3
      obtain ⟨v, ev⟩ := co_inner (P := P) (S := S) (k := k) (p := p) (m := m) L hc10 (i := i) (A := A ++ [.int B.length]) (B := B) (by omega) (v3 := some t.w) (v5 := v5) (by omega)
      refine ⟨_, _, coS S p m ((firstsTo (csOf p m) (i + 1)).map iw) ((framesTo (csOf p m) (i + 1)).map fw), rfl, .inl ?_, some (.int i), some t.w, some (.int cc), v, rfl, rfl⟩
      have hA2 : (firstsTo (csOf p m) (i + 1)).map iw = A ++ [.int B.length] := by
        rw [firstsTo, List.range_succ, List.map_append, List.map_append, hA, hBl]
        rfl
      have hB2 : (framesTo (csOf p m) (i + 1)).map fw = B ++ (framesAt i cc).map fw := by
        rw [framesTo_succ, List.map_append, hBB, hcs]
      rw [hA2, hB2]
      simp only [List.set_cons_succ, List.set_cons_zero]
      have s1 : exS P (clOf P k) (.expr (.bm .append (.fld (.var 0) 17) (.cons (.blt .len (.cons (.fld (.var 0) 3) .nil)) .nil))) [some (.ref S.length), some p.w, some (.int i), some t.w, v4, v5] (coS S p m A B) = .ok (.nx [some (.ref S.length), some p.w, some (.int i), some t.w, v4, v5]) (coS S p m (A ++ [.int B.length]) B) := by
        generalize coS S p m A B = SS at *
        simp [exS, evE, evEs, g17, g3, gl, hb, q3]
      rw [ss_nx s1, ss_nx (env' := [some (.ref S.length), some p.w, some (.int i), some t.w, some (.int cc), v5]) (S' := coS S p m (A ++ [.int B.length]) B) (by
        have : prw (p.procs.getD t.pr (0, [])) = .tup [.int cc, .tup (Sts.w (p.procs.getD t.pr (0, [])).2)] := by rw [prw, hcc]
        rw [this] at e2
        generalize coS S p m (A ++ [.int B.length]) B = SS at *
        simp [exS, evE, Pg.w, Pt.w, e2]), ss_nx ev]
      rw [exSs])
  subst he hS
  refine ⟨v2, v3, v4, v5, ?_⟩
  rw [e, enumW_len, List.length_map]
end
end Eng

set_option Elab.async false
set_option linter.all false
set_option maxHeartbeats 4000000
set_option maxRecDepth 100000
/-! E48: Coder is made. -/
namespace Eng
open PySem L2
theorem vw_pu (g : Bool) (i : Nat) : Pu (vw g i) := rfl
theorem Ex.pu : ∀ e : Ex, Pu e.w
  | .tr _ => rfl
  | .of _ _ => rfl
  | .nt a => by have := Ex.pu a; simp [Pu, Ex.w, below, belows] at this ⊢; exact this
  | .an a b => by have h1 := Ex.pu a; have h2 := Ex.pu b; simp [Pu, Ex.w, below, belows] at h1 h2 ⊢; exact ⟨h1, h2⟩
  | .orr a b => by have h1 := Ex.pu a; have h2 := Ex.pu b; simp [Pu, Ex.w, below, belows] at h1 h2 ⊢; exact ⟨h1, h2⟩
  | .sm a b => by have h1 := Ex.pu a; have h2 := Ex.pu b; simp [Pu, Ex.w, below, belows] at h1 h2 ⊢; exact ⟨h1, h2⟩
mutual
theorem St.pu : ∀ s : St, Pu s.w
  | .set g i e => by have := Ex.pu e; simp [Pu, St.w, below, belows] at this ⊢; exact this
  | .free g i => by simp [Pu, St.w, below, belows]
  | .call p => by simp [Pu, St.w, below, belows]
  | .pass n => by simp [Pu, St.w, below, belows]
  | .ret => by simp [Pu, St.w, below, belows]
  | .ifs e a b => by have h0 := Ex.pu e; have h1 := Sts.pu a; have h2 := Sts.pu b; simp [Pu, St.w, below, belows] at h0 h1 h2 ⊢; exact ⟨h0, h1, h2⟩
  | .either a b => by have h1 := Sts.pu a; have h2 := Sts.pu b; simp [Pu, St.w, below, belows] at h1 h2 ⊢; exact ⟨h1, h2⟩
  | .wh e a => by have h0 := Ex.pu e; have h1 := Sts.pu a; simp [Pu, St.w, below, belows] at h0 h1 ⊢; exact ⟨h0, h1⟩
  | .rep a => by have h1 := Sts.pu a; simp [Pu, St.w, below, belows] at h1 ⊢; exact h1
theorem Sts.pu : ∀ ss : List St, belows 0 (Sts.w ss) = true
  | [] => rfl
  | s :: ss => by have h1 := St.pu s; have h2 := Sts.pu ss; simp [Pu, Sts.w, below, belows] at h1 h2 ⊢; exact ⟨h1, h2⟩
end
theorem prw_pu (x : Nat × List St) : Pu (prw x) := by
  have := Sts.pu x.2
  simp [Pu, prw, below, belows] at this ⊢
  exact this
theorem pgw_pu (p : Pg) : Pu p.w := by
  have h2 := tup_pu (map_pu prw_pu (xs := p.procs))
  simp [Pu, Pg.w, below, belows] at h2 ⊢
  exact h2
theorem Pt.pu (t : Pt) : Pu t.w := by
  have h1 := lst_pu (map_pu iw_pu (xs := t.en))
  have h2 : Pu t.stw := by
    unfold Pt.stw
    split
    · exact St.pu _
    · rfl
  have h3 : Pu t.fow := by
    unfold Pt.fow
    split <;> rfl
  simp [Pu, Pt.w, below, belows] at h1 h2 h3 ⊢
  exact ⟨h2, h1, h3⟩
theorem mpw_pu (m : Mp) : Pu m.w := by
  have h1 := lst_pu (map_pu Pt.pu (xs := m.pts))
  have h2 := lst_pu (map_pu iw_pu (xs := m.ents))
  simp [Pu, Mp.w, below, belows] at h1 h2 ⊢
  exact ⟨h1, h2⟩
theorem wkw_pu (p : Pg) (m : Mp) : Pu (wkw p m) := by
  have h1 := pgw_pu p
  have h2 := mpw_pu m
  simp [Pu, wkw, below, belows] at h1 h2 ⊢
  exact ⟨h1, h2⟩
theorem setF_in {P : Prog} {S T : Sto} {c f : Nat} {ns : List Nat} {ws : List W} {v : W} (h : P.isF c f = true) (hn : ns.length < 1000) : setFW P (S ++ .ins c ns ws :: T) (.ref S.length) f v = some (S ++ .ins c (putW ns ws f v).1 (putW ns ws f v).2 :: T) := by
  have e : (S ++ Ob.ins c ns ws :: T)[S.length]? = some (.ins c ns ws) := by simp
  unfold setFW
  dsimp only
  rw [e]
  dsimp only
  rw [if_pos ⟨hn, h⟩]
  simp
section
variable {P : Prog} {S : Sto} {k : Nat} {p : Pg} {m : Mp}
theorem co_made (L : LCo P) {k0 : Nat} (hm : MkOk P p m k0) (hpr : ∀ t ∈ m.pts, t.pr < p.procs.length) (hc : ∀ c ∈ csOf p m, c ≤ 10) (hl : m.pts.length ≤ 1000) (hB : ∀ i, i ≤ m.pts.length → (framesTo (csOf p m) i).length ≤ 1000000) :
    CoOk P p m (coOf (csOf p m)) (k0 + 5) := by
  intro k hk S
  obtain ⟨k, rfl⟩ : ∃ k', k = k' + 2 := ⟨k - 2, by omega⟩
  have b := fun f hf => L.coF f hf
  have hfull : full P 15 (.ref S.length :: [p.w]) = [.ref S.length, p.w] := full_no L.toLib (by decide)
  obtain ⟨v2, v3, v4, v5, e⟩ := co_outer (P := P) (S := S) (k := k) L hpr hc hl hB (by omega)
  have hlen : (csOf p m).length = m.pts.length := by simp [csOf]
  have r : run P (k + 1) 15 [.ref S.length, p.w] (S ++ [.ins 2 [] []]) = .ok .non (coS S p m ((coOf (csOf p m)).firsts.map iw) ((coOf (csOf p m)).frames.map fw)) := by
    refine run_nx L.f15 rfl rfl (env0 := [some (.ref S.length), some p.w, none, none, none, none]) (env1 := [some (.ref S.length), some p.w, v2, v3, v4, v5]) (S1 := coS S p m ((firstsTo (csOf p m) m.pts.length).map iw) ((framesTo (csOf p m) m.pts.length).map fw)) ?_ ?_
    · unfold d_Coder___init__
      dsimp only
      rw [ss_nx (env' := [some (.ref S.length), some p.w, none, none, none, none]) (S' := S ++ [.ins 2 [15] [p.w]]) (by simp [exS, evE, setF_in (b 15 (by simp)), putW])]
      rw [ss_nx (env' := [some (.ref S.length), some p.w, none, none, none, none]) (S' := S ++ [.ins 2 [15, 16] [p.w, wkw p m]]) (by
        have := hm k (by omega) (S ++ [.ins 2 [15] [p.w]])
        simp [exS, evE, evEs, this, setF_in (b 16 (by simp)), putW])]
      rw [ss_nx (env' := [some (.ref S.length), some p.w, none, none, none, none]) (S' := S ++ [.ins 2 [15, 16, 17] [p.w, wkw p m, .ref (S.length + 1)], .lst []]) (by
        simp [exS, evE, evL, evEs, setF_in (b 17 (by simp)), putW])]
      rw [ss_nx (env' := [some (.ref S.length), some p.w, none, none, none, none]) (S' := coS S p m [] []) (by
        simp [exS, evE, evL, evEs, setF_in (b 3 (by simp)), putW])]
      rw [ss_nx e, exSs]
    · unfold coOf
      rw [hlen]
      rfl
  unfold mkR
  rw [L.i2]
  dsimp only
  rw [hfull, ini_eq, r]
  simp only [R.bind_ok_, if_true]
  refine exit_same ?_
  rw [resW_ref (Nat.le_refl _)]
  generalize hA : (coOf (csOf p m)).firsts.map iw = A
  generalize hBB : (coOf (csOf p m)).frames.map fw = B
  have hAp : ∀ w ∈ A, Pu w := by rw [← hA]; exact map_pu iw_pu
  have hBp : ∀ w ∈ B, Pu w := by rw [← hBB]; exact map_pu fw_pu
  have e0 : ([coIns p m S.length, Ob.lst A, Ob.lst B] : List Ob)[S.length - S.length]? = some (coIns p m S.length) := by simp
  unfold deref
  rw [e0]
  dsimp only
  have d1 : deref S.length [coIns p m S.length, Ob.lst A, Ob.lst B] 7 (S.length + 1) = some (.lst A) := deref_lst (by simp) (pus_at hAp _)
  have d2 : deref S.length [coIns p m S.length, Ob.lst A, Ob.lst B] 7 (S.length + 2) = some (.lst B) := deref_lst (by simp) (pus_at hBp _)
  have r3 : resWs S.length (deref S.length [coIns p m S.length, Ob.lst A, Ob.lst B] 7) [p.w, wkw p m, .ref (S.length + 1), .ref (S.length + 2)] = some [p.w, wkw p m, .lst A, .lst B] := by
    simp only [resWs, res_below ((pgw_pu p).at _), res_below ((wkw_pu p m).at _), resW_ref (show S.length ≤ S.length + 1 by omega), resW_ref (show S.length ≤ S.length + 2 by omega), d1, d2]
  rw [r3]
  unfold Co.w
  rw [hA, hBB]
  rfl
end
end Eng

set_option Elab.async false
set_option linter.all false
set_option maxHeartbeats 4000000
set_option maxRecDepth 100000
/-! E49: sizes of bodies; points that are laid, then linked (plain). -/
namespace Eng
open PySem L2
def bods : St → List (List St)
  | .ifs _ a b => [a, b]
  | .either a b => [a, b]
  | .wh _ a => [a]
  | .rep a => [a]
  | _ => []
mutual
def St.sz : St → Nat
  | .ifs _ a b => 1 + (Sts.sz a + Sts.sz b)
  | .either a b => 1 + (Sts.sz a + Sts.sz b)
  | .wh _ a => 1 + Sts.sz a
  | .rep a => 1 + Sts.sz a
  | .set _ _ _ => 1 | .free _ _ => 1 | .call _ => 1 | .pass _ => 1 | .ret => 1
def Sts.sz : List St → Nat
  | [] => 0
  | s :: ss => s.sz + Sts.sz ss
end
def Bods.sz : List (List St) → Nat
  | [] => 0
  | b :: bs => Sts.sz b + Bods.sz bs
theorem sz_bods (s : St) : s.sz = 1 + Bods.sz (bods s) := by cases s <;> simp [St.sz, bods, Bods.sz]
theorem szs_append : ∀ (a b : List St), Sts.sz (a ++ b) = Sts.sz a + Sts.sz b
  | [], b => by simp [Sts.sz]
  | s :: ss, b => by simp [Sts.sz, szs_append ss b, Nat.add_assoc]
theorem szb_append : ∀ (a b : List (List St)), Bods.sz (a ++ b) = Bods.sz a + Bods.sz b
  | [], b => by simp [Bods.sz]
  | s :: ss, b => by simp [Bods.sz, szb_append ss b, Nat.add_assoc]
theorem szs_take {ss : List St} {i : Nat} {s : St} (h : ss[i]? = some s) : Sts.sz (ss.take (i + 1)) = Sts.sz (ss.take i) + s.sz := by
  have : ss.take (i + 1) = ss.take i ++ [s] := by rw [List.take_add_one, h]; rfl
  rw [this, szs_append]
  simp [Sts.sz]
theorem szb_take {ss : List (List St)} {i : Nat} {s : List St} (h : ss[i]? = some s) : Bods.sz (ss.take (i + 1)) = Bods.sz (ss.take i) + Sts.sz s := by
  have : ss.take (i + 1) = ss.take i ++ [s] := by rw [List.take_add_one, h]; rfl
  rw [this, szb_append]
  simp [Bods.sz]
theorem sz_pos (s : St) : 1 ≤ s.sz := by rw [sz_bods]; omega
/-! how deep bodies stand in one another -/
mutual
def St.nd : St → Nat
  | .ifs _ a b => max (Sts.nd a) (Sts.nd b) + 1
  | .either a b => max (Sts.nd a) (Sts.nd b) + 1
  | .wh _ a => Sts.nd a + 1
  | .rep a => Sts.nd a + 1
  | .set _ _ _ => 0 | .free _ _ => 0 | .call _ => 0 | .pass _ => 0 | .ret => 0
def Sts.nd : List St → Nat
  | [] => 0
  | s :: ss => max s.nd (Sts.nd ss)
end
theorem nd_mem : ∀ {ss : List St} {s : St}, s ∈ ss → s.nd ≤ Sts.nd ss
  | x :: xs, s, h => by
    simp only [Sts.nd]
    rcases List.mem_cons.mp h with rfl | h
    · exact Nat.le_max_left _ _
    · exact Nat.le_trans (nd_mem h) (Nat.le_max_right _ _)
theorem nd_bods {s : St} {b : List St} (h : b ∈ bods s) : Sts.nd b < s.nd := by
  cases s <;> simp [bods] at h <;> simp only [St.nd]
  · rcases h with rfl | rfl <;> omega
  · rcases h with rfl | rfl <;> omega
  · subst h; omega
  · subst h; omega
/-! ### the points as they are laid -/
mutual
def raw (pr : Nat) : St → List Pt
  | .ifs e a b => ⟨pr, some (.ifs e a b), [], none⟩ :: (raws pr a ++ raws pr b)
  | .either a b => ⟨pr, some (.either a b), [], none⟩ :: (raws pr a ++ raws pr b)
  | .wh e a => ⟨pr, some (.wh e a), [], none⟩ :: raws pr a
  | .rep a => ⟨pr, some (.rep a), [], none⟩ :: raws pr a
  | .set g i e => [⟨pr, some (.set g i e), [], none⟩]
  | .free g i => [⟨pr, some (.free g i), [], none⟩]
  | .call p => [⟨pr, some (.call p), [], none⟩]
  | .pass n => [⟨pr, some (.pass n), [], none⟩]
  | .ret => [⟨pr, some .ret, [], none⟩]
def raws (pr : Nat) : List St → List Pt
  | [] => []
  | s :: ss => raw pr s ++ raws pr ss
end
def rawB (pr : Nat) : List (List St) → List Pt
  | [] => []
  | b :: bs => raws pr b ++ rawB pr bs
theorem raw_bods (pr : Nat) (s : St) : raw pr s = ⟨pr, some s, [], none⟩ :: rawB pr (bods s) := by cases s <;> simp [raw, bods, rawB]
mutual
theorem raw_len (pr : Nat) : ∀ s : St, (raw pr s).length = s.sz
  | .ifs e a b => by simp [raw, St.sz, raws_len pr a, raws_len pr b]; omega
  | .either a b => by simp [raw, St.sz, raws_len pr a, raws_len pr b]; omega
  | .wh e a => by simp [raw, St.sz, raws_len pr a]; omega
  | .rep a => by simp [raw, St.sz, raws_len pr a]; omega
  | .set _ _ _ => by simp [raw, St.sz]
  | .free _ _ => by simp [raw, St.sz]
  | .call _ => by simp [raw, St.sz]
  | .pass _ => by simp [raw, St.sz]
  | .ret => by simp [raw, St.sz]
theorem raws_len (pr : Nat) : ∀ ss : List St, (raws pr ss).length = Sts.sz ss
  | [] => rfl
  | s :: ss => by simp [raws, Sts.sz, raw_len pr s, raws_len pr ss]
end
theorem rawB_len (pr : Nat) : ∀ bs : List (List St), (rawB pr bs).length = Bods.sz bs
  | [] => rfl
  | b :: bs => by simp [rawB, Bods.sz, raws_len, rawB_len pr bs]
theorem raws_append (pr : Nat) : ∀ (a b : List St), raws pr (a ++ b) = raws pr a ++ raws pr b
  | [], b => rfl
  | s :: ss, b => by simp [raws, raws_append pr ss b]
theorem rawB_append (pr : Nat) : ∀ (a b : List (List St)), rawB pr (a ++ b) = rawB pr a ++ rawB pr b
  | [], b => rfl
  | s :: ss, b => by simp [rawB, rawB_append pr ss b]
/-- the point to which a body's run goes back -/
def backS (s : St) (base f : Nat) : Nat := match s with
  | .wh _ _ => base
  | .rep _ => base
  | _ => f
def entB (b : List St) (base back : Nat) : Nat := if b.isEmpty then back else base
/-! ### the points as they stand in the end -/
mutual
def lay (pr base f : Nat) : St → List Pt
  | .ifs e a b => ⟨pr, some (.ifs e a b), [entB a (base + 1) f, entB b (base + 1 + Sts.sz a) f], some f⟩ :: (lays pr (base + 1) f a ++ lays pr (base + 1 + Sts.sz a) f b)
  | .either a b => ⟨pr, some (.either a b), [entB a (base + 1) f, entB b (base + 1 + Sts.sz a) f], some f⟩ :: (lays pr (base + 1) f a ++ lays pr (base + 1 + Sts.sz a) f b)
  | .wh e a => ⟨pr, some (.wh e a), [entB a (base + 1) base], some f⟩ :: lays pr (base + 1) base a
  | .rep a => ⟨pr, some (.rep a), [entB a (base + 1) base], some f⟩ :: lays pr (base + 1) base a
  | .set g i e => [⟨pr, some (.set g i e), [], some f⟩]
  | .free g i => [⟨pr, some (.free g i), [], some f⟩]
  | .call p => [⟨pr, some (.call p), [], some f⟩]
  | .pass n => [⟨pr, some (.pass n), [], some f⟩]
  | .ret => [⟨pr, some .ret, [], some f⟩]
def lays (pr base behind : Nat) : List St → List Pt
  | [] => []
  | s :: ss => lay pr base (if ss.isEmpty then behind else base + s.sz) s ++ lays pr (base + s.sz) behind ss
end
mutual
theorem lay_len (pr : Nat) : ∀ (s : St) (base f : Nat), (lay pr base f s).length = s.sz
  | .ifs e a b, base, f => by simp [lay, St.sz, lays_len pr a, lays_len pr b]; omega
  | .either a b, base, f => by simp [lay, St.sz, lays_len pr a, lays_len pr b]; omega
  | .wh e a, base, f => by simp [lay, St.sz, lays_len pr a]; omega
  | .rep a, base, f => by simp [lay, St.sz, lays_len pr a]; omega
  | .set _ _ _, base, f => by simp [lay, St.sz]
  | .free _ _, base, f => by simp [lay, St.sz]
  | .call _, base, f => by simp [lay, St.sz]
  | .pass _, base, f => by simp [lay, St.sz]
  | .ret, base, f => by simp [lay, St.sz]
theorem lays_len (pr : Nat) : ∀ (ss : List St) (base behind : Nat), (lays pr base behind ss).length = Sts.sz ss
  | [], _, _ => rfl
  | s :: ss, base, behind => by simp [lays, Sts.sz, lay_len pr s, lays_len pr ss]
end
def layB (pr base back : Nat) : List (List St) → List Pt
  | [] => []
  | b :: bs => lays pr base back b ++ layB pr (base + Sts.sz b) back bs
def entsB (base back : Nat) : List (List St) → List Nat
  | [] => []
  | b :: bs => entB b base back :: entsB (base + Sts.sz b) back bs
theorem lay_eq (pr base f : Nat) (s : St) : lay pr base f s = ⟨pr, some s, entsB (base + 1) (backS s base f) (bods s), some f⟩ :: layB pr (base + 1) (backS s base f) (bods s) := by
  cases s <;> simp [lay, bods, layB, entsB, backS]
/-- the points of procedures from one on, the entries -/
def ptsFrom (pr base : Nat) : List (Nat × List St) → List Pt
  | [] => []
  | x :: xs => lays pr base (base + Sts.sz x.2) x.2 ++ ⟨pr, none, [], none⟩ :: ptsFrom (pr + 1) (base + Sts.sz x.2 + 1) xs
def entsFrom (base : Nat) : List (Nat × List St) → List Nat
  | [] => []
  | x :: xs => base :: entsFrom (base + Sts.sz x.2 + 1) xs
def mpOf (procs : List (Nat × List St)) : Mp := ⟨ptsFrom 0 0 procs, entsFrom 0 procs⟩
theorem ptsFrom_append (ys : List (Nat × List St)) : ∀ (xs : List (Nat × List St)) (pr base : Nat), ptsFrom pr base (xs ++ ys) = ptsFrom pr base xs ++ ptsFrom (pr + xs.length) (base + (ptsFrom pr base xs).length) ys
  | [], pr, base => by simp [ptsFrom]
  | x :: xs, pr, base => by
    simp only [List.cons_append, ptsFrom, ptsFrom_append ys xs, List.length_append, List.length_cons, lays_len, List.append_assoc]
    congr 2
    congr 1
    congr 1 <;> omega
theorem entsFrom_append (ys : List (Nat × List St)) : ∀ (xs : List (Nat × List St)) (pr base : Nat), entsFrom base (xs ++ ys) = entsFrom base xs ++ entsFrom (base + (ptsFrom pr base xs).length) ys
  | [], pr, base => by simp [ptsFrom, entsFrom]
  | x :: xs, pr, base => by
    simp only [List.cons_append, ptsFrom, entsFrom, entsFrom_append ys xs (pr + 1), List.length_append, List.length_cons, lays_len]
    congr 2
    congr 1
    omega
end Eng

set_option Elab.async false
set_option linter.all false
set_option maxHeartbeats 4000000
set_option maxRecDepth 100000
/-! E50: points in the store. -/
namespace Eng
open PySem L2
/-- an address that no point has -/
def OkA (lo : Nat) (qs : List Nat) (x : Nat) : Prop := lo < x ∧ ∀ q ∈ qs, x ≠ q ∧ x ≠ q + 1
structure PR (S : Sto) (a0 PA EA : Nat) (qs : List Nat) (pts : List Pt) : Prop where
  self : S[a0]? = some (.ins 6 [19, 23] [.ref PA, .ref EA])
  pa : S[PA]? = some (.lst (qs.map W.ref))
  len : qs.length = pts.length
  at_ : ∀ (i : Nat) (t : Pt), pts[i]? = some t → ∃ q, qs[i]? = some q ∧ S[q]? = some (.ins 7 [20, 26, 23, 29] [.int t.pr, t.stw, .ref (q + 1), t.fow]) ∧ S[q + 1]? = some (.lst (t.en.map iw))
  gap : qs.Pairwise fun a b => a + 2 ≤ b
  lo : ∀ q ∈ qs, EA < q
  o1 : a0 < PA
  o2 : PA < EA
  ea : EA < S.length
def FRb (S : Sto) (ok : Nat → Prop) (F : List W → Nat → List St → Prop) : List W → Nat → List (List St) → Prop
  | xs, _, [] => xs = []
  | xs, base, B :: Bs => ∃ a its xs', xs = .ref a :: xs' ∧ ok a ∧ S[a]? = some (.lst its) ∧ F its base B ∧ FRb S ok F xs' (base + Sts.sz B) Bs
def FRs (S : Sto) (ok : Nat → Prop) (F : List W → Nat → List St → Prop) : List W → Nat → List St → Prop
  | its, _, [] => its = []
  | its, base, s :: ss => ∃ b xs its', its = .tup [.int base, .ref b] :: its' ∧ ok b ∧ S[b]? = some (.lst xs) ∧ FRb S ok F xs (base + 1) (bods s) ∧ FRs S ok F its' (base + s.sz) ss
/-- the statements of bodies at most n deep, as add_body returns them -/
def FR (S : Sto) (ok : Nat → Prop) : Nat → List W → Nat → List St → Prop
  | 0 => FRs S ok fun _ _ _ => False
  | n + 1 => FRs S ok (FR S ok n)
def FI (S : Sto) (ok : Nat → Prop) : Nat → List W → Nat → List St → Prop
  | 0 => fun _ _ _ => False
  | n + 1 => FR S ok n
theorem FR_eq (S : Sto) (ok : Nat → Prop) (n : Nat) : FR S ok n = FRs S ok (FI S ok n) := by cases n <;> rfl
section
variable {S S' : Sto} {ok ok' : Nat → Prop} {F F' : List W → Nat → List St → Prop}
theorem FRb_mono (h : ∀ x o, ok x → S[x]? = some o → S'[x]? = some o ∧ ok' x) (hF : ∀ a b c, F a b c → F' a b c) : ∀ (Bs : List (List St)) (xs : List W) (base : Nat), FRb S ok F xs base Bs → FRb S' ok' F' xs base Bs
  | [], xs, base, r => r
  | B :: Bs, xs, base, ⟨a, its, xs', e, o, q, f, r⟩ => ⟨a, its, xs', e, (h a _ o q).2, (h a _ o q).1, hF _ _ _ f, FRb_mono h hF Bs xs' _ r⟩
theorem FRs_mono (h : ∀ x o, ok x → S[x]? = some o → S'[x]? = some o ∧ ok' x) (hF : ∀ a b c, F a b c → F' a b c) : ∀ (ss : List St) (its : List W) (base : Nat), FRs S ok F its base ss → FRs S' ok' F' its base ss
  | [], xs, base, r => r
  | s :: ss, its, base, ⟨b, xs, its', e, o, q, f, r⟩ => ⟨b, xs, its', e, (h b _ o q).2, (h b _ o q).1, FRb_mono h hF _ _ _ f, FRs_mono h hF ss its' _ r⟩
theorem FR_mono (h : ∀ x o, ok x → S[x]? = some o → S'[x]? = some o ∧ ok' x) : ∀ (n : Nat) (its : List W) (base : Nat) (ss : List St), FR S ok n its base ss → FR S' ok' n its base ss
  | 0, its, base, ss, r => FRs_mono h (fun _ _ _ z => z) ss its base r
  | n + 1, its, base, ss, r => FRs_mono h (fun a b c z => FR_mono h n a b c z) ss its base r
theorem FI_mono (h : ∀ x o, ok x → S[x]? = some o → S'[x]? = some o ∧ ok' x) : ∀ (n : Nat) (its : List W) (base : Nat) (ss : List St), FI S ok n its base ss → FI S' ok' n its base ss
  | 0, its, base, ss, r => r
  | n + 1, its, base, ss, r => FR_mono h n its base ss r
theorem FRb_snoc {a : Nat} {its : List W} {B : List St} : ∀ (Bs : List (List St)) (xs : List W) (base : Nat), FRb S ok F xs base Bs → ok a → S[a]? = some (.lst its) → F its (base + Bods.sz Bs) B → FRb S ok F (xs ++ [.ref a]) base (Bs ++ [B])
  | [], xs, base, r, o, q, f => by
    have : xs = [] := r
    subst this
    exact ⟨a, its, [], rfl, o, q, f, rfl⟩
  | C :: Bs, xs, base, ⟨a', its', xs', e, o', q', f', r⟩, o, q, f => by
    subst e
    exact ⟨a', its', xs' ++ [.ref a], rfl, o', q', f', FRb_snoc Bs xs' _ r o q (by simpa [Bods.sz, Nat.add_assoc] using f)⟩
theorem FRs_snoc {b : Nat} {xs : List W} {s : St} : ∀ (ss : List St) (its : List W) (base : Nat), FRs S ok F its base ss → ok b → S[b]? = some (.lst xs) → FRb S ok F xs (base + Sts.sz ss + 1) (bods s) → FRs S ok F (its ++ [.tup [.int (base + Sts.sz ss : Nat), .ref b]]) base (ss ++ [s])
  | [], its, base, r, o, q, f => by
    have : its = [] := r
    subst this
    exact ⟨b, xs, [], rfl, o, q, f, rfl⟩
  | t :: ss, its, base, ⟨b', xs', its', e, o', q', f', r⟩, o, q, f => by
    subst e
    have e2 : base + Sts.sz (t :: ss) = base + t.sz + Sts.sz ss := by simp [Sts.sz, Nat.add_assoc]
    rw [e2] at f ⊢
    exact ⟨b', xs', its' ++ [.tup [.int (base + t.sz + Sts.sz ss : Nat), .ref b]], rfl, o', q', f', FRs_snoc ss its' _ r o q f⟩
theorem FRs_len : ∀ (ss : List St) (its : List W) (base : Nat), FRs S ok F its base ss → its.length = ss.length
  | [], its, base, r => by rw [show its = [] from r]; rfl
  | s :: ss, its, base, ⟨b, xs, its', e, o, q, f, r⟩ => by subst e; simp [FRs_len ss its' _ r]
theorem FRb_len : ∀ (ss : List (List St)) (its : List W) (base : Nat), FRb S ok F its base ss → its.length = ss.length
  | [], its, base, r => by rw [show its = [] from r]; rfl
  | s :: ss, its, base, ⟨b, xs, its', e, o, q, f, r⟩ => by subst e; simp [FRb_len ss its' _ r]
theorem FRs_get {s : St} : ∀ (ss : List St) (its : List W) (base i : Nat), FRs S ok F its base ss → ss[i]? = some s → ∃ b xs, its[i]? = some (.tup [.int (base + Sts.sz (ss.take i) : Nat), .ref b]) ∧ ok b ∧ S[b]? = some (.lst xs) ∧ FRb S ok F xs (base + Sts.sz (ss.take i) + 1) (bods s)
  | t :: ss, its, base, 0, ⟨b, xs, its', e, o, q, f, r⟩, h => by
    cases h
    subst e
    exact ⟨b, xs, rfl, o, q, f⟩
  | t :: ss, its, base, i + 1, ⟨b', xs', its', e, o', q', f', r⟩, h => by
    subst e
    obtain ⟨b, xs, g1, g2, g3, g4⟩ := FRs_get ss its' (base + t.sz) i r (by simpa using h)
    have e2 : base + Sts.sz ((t :: ss).take (i + 1)) = base + t.sz + Sts.sz (ss.take i) := by simp [Sts.sz, Nat.add_assoc]
    rw [e2]
    exact ⟨b, xs, by simpa using g1, g2, g3, g4⟩
theorem FRb_get {B : List St} : ∀ (Bs : List (List St)) (xs : List W) (base i : Nat), FRb S ok F xs base Bs → Bs[i]? = some B → ∃ a its, xs[i]? = some (.ref a) ∧ ok a ∧ S[a]? = some (.lst its) ∧ F its (base + Bods.sz (Bs.take i)) B
  | t :: ss, its, base, 0, ⟨a, its2, xs', e, o, q, f, r⟩, h => by
    cases h
    subst e
    exact ⟨a, its2, rfl, o, q, f⟩
  | t :: ss, its, base, i + 1, ⟨a', its2, xs', e, o', q', f', r⟩, h => by
    subst e
    obtain ⟨a, its3, g1, g2, g3, g4⟩ := FRb_get ss xs' (base + Sts.sz t) i r (by simpa using h)
    have e2 : base + Bods.sz ((t :: ss).take (i + 1)) = base + Sts.sz t + Bods.sz (ss.take i) := by simp [Bods.sz, Nat.add_assoc]
    rw [e2]
    exact ⟨a, its3, by simpa using g1, g2, g3, g4⟩
end
/-- what is older stays, but for one place -/
def Kp (S S' : Sto) (PA : Nat) : Prop := S.length ≤ S'.length ∧ ∀ x, x < S.length → x ≠ PA → S'[x]? = S[x]?
theorem Kp.refl {S : Sto} {PA : Nat} : Kp S S PA := ⟨Nat.le_refl _, fun _ _ _ => rfl⟩
theorem Kp.trans {S S1 S2 : Sto} {PA : Nat} (h : Kp S S1 PA) (h' : Kp S1 S2 PA) : Kp S S2 PA := ⟨Nat.le_trans h.1 h'.1, fun x hx n => by rw [h'.2 x (Nat.lt_of_lt_of_le hx h.1) n, h.2 x hx n]⟩
theorem Kp.app {S T : Sto} {PA : Nat} : Kp S (S ++ T) PA := ⟨by simp, fun x hx _ => List.getElem?_append_left hx⟩
theorem Kp.set {S S1 : Sto} {PA l : Nat} {o : Ob} (h : Kp S S1 PA) (hl : S.length ≤ l ∨ l = PA) : Kp S (S1.set l o) PA := ⟨by simpa using h.1, fun x hx n => by
  rw [List.getElem?_set_ne (by rcases hl with hl | hl <;> omega)]
  exact h.2 x hx n⟩
section
variable {S S' : Sto} {a0 PA EA : Nat} {qs : List Nat} {pts : List Pt}
theorem PR.hi (h : PR S a0 PA EA qs pts) {q : Nat} (hq : q ∈ qs) : q + 1 < S.length := by
  obtain ⟨i, hi⟩ := List.mem_iff_getElem?.mp hq
  have hl := (List.getElem?_eq_some_iff.mp hi).1
  have hl2 : i < pts.length := by rw [← h.len]; exact hl
  obtain ⟨q', e1, e2, e3⟩ := h.at_ i pts[i] (List.getElem?_eq_getElem hl2)
  rw [hi] at e1
  cases e1
  exact (List.getElem?_eq_some_iff.mp e3).1
theorem PR.keep (h : PR S a0 PA EA qs pts) (hk : ∀ x o, S[x]? = some o → ¬ OkA EA qs x → S'[x]? = some o) : PR S' a0 PA EA qs pts where
  self := hk _ _ h.self (fun z => by have := h.o1; have := h.o2; have := z.1; omega)
  pa := hk _ _ h.pa (fun z => by have := h.o2; have := z.1; omega)
  len := h.len
  at_ := fun i t e => by
    obtain ⟨q, e1, e2, e3⟩ := h.at_ i t e
    have hq := List.mem_of_getElem? e1
    exact ⟨q, e1, hk _ _ e2 fun z => (z.2 q hq).1 rfl, hk _ _ e3 fun z => (z.2 q hq).2 rfl⟩
  gap := h.gap
  lo := h.lo
  o1 := h.o1
  o2 := h.o2
  ea := by
    have e : S[EA]? = some (S[EA]'h.ea) := List.getElem?_eq_getElem h.ea
    exact (List.getElem?_eq_some_iff.mp (hk _ _ e fun z => by have := z.1; omega)).1
theorem PR.app (h : PR S a0 PA EA qs pts) {T : Sto} : PR (S ++ T) a0 PA EA qs pts := h.keep fun x o e _ => by rw [List.getElem?_append_left (List.getElem?_eq_some_iff.mp e).1]; exact e
theorem PR.set (h : PR S a0 PA EA qs pts) {l : Nat} {o : Ob} (hl : OkA EA qs l) : PR (S.set l o) a0 PA EA qs pts := h.keep fun x o e n => by
  rw [List.getElem?_set_ne (by rintro rfl; exact n hl)]; exact e
/-- a point is added -/
abbrev addPt (S : Sto) (PA : Nat) (qs : List Nat) (pr : Nat) (stw : W) : Sto := (S ++ [Ob.ins 7 [20, 26, 23, 29] [.int pr, stw, .ref (S.length + 1), .non], Ob.lst []]).set PA (.lst (qs.map W.ref ++ [.ref S.length]))
theorem PR.add (h : PR S a0 PA EA qs pts) {pr : Nat} {st : Option St} {stw : W} (hs : stw = (⟨pr, st, [], none⟩ : Pt).stw) :
    PR (addPt S PA qs pr stw) a0 PA EA (qs ++ [S.length]) (pts ++ [⟨pr, st, [], none⟩]) := by
  subst hs
  have l1 := h.o1
  have l2 := h.o2
  have l3 := h.ea
  have keep : ∀ x o, S[x]? = some o → x ≠ PA → (addPt S PA qs pr (⟨pr, st, [], none⟩ : Pt).stw)[x]? = some o := fun x o e n => by
    rw [List.getElem?_set_ne (Ne.symm n), List.getElem?_append_left (List.getElem?_eq_some_iff.mp e).1]; exact e
  refine ⟨keep _ _ h.self (by omega), ?_, by simp [h.len], fun i t e => ?_, ?_, ?_, h.o1, h.o2, by simp; omega⟩
  · rw [List.getElem?_set_self (by simp; omega)]
    simp
  · by_cases hi : i < pts.length
    · rw [List.getElem?_append_left hi] at e
      obtain ⟨q, e1, e2, e3⟩ := h.at_ i t e
      have hq := h.lo q (List.mem_of_getElem? e1)
      refine ⟨q, ?_, keep _ _ e2 (by omega), keep _ _ e3 (by omega)⟩
      rw [List.getElem?_append_left (by rw [h.len]; exact hi)]
      exact e1
    · have hi2 : i = pts.length := by
        have := (List.getElem?_eq_some_iff.mp e).1
        simp at this
        omega
      subst hi2
      simp at e
      subst e
      refine ⟨S.length, by simp [h.len], ?_, ?_⟩
      · rw [List.getElem?_set_ne (by omega)]
        simp [Pt.fow]
      · rw [List.getElem?_set_ne (by omega)]
        simp
  · rw [List.pairwise_append]
    refine ⟨h.gap, List.pairwise_singleton _ _, fun a ha b hb => ?_⟩
    simp at hb
    subst hb
    have := h.hi ha
    omega
  · intro q hq
    rcases List.mem_append.mp hq with hq | hq
    · exact h.lo q hq
    · simp at hq
      omega
end
/-- a comprehension whose expression changes the store -/
theorem compL_inv {g : List (Nat × List W)} {n : Nat} {f : W → Sto → R (Option W)} (I : Nat → List W → Sto → Prop) (xs : List W) (hg : ∀ i acc S, i ≤ xs.length → I i acc S → gOk S g)
    (hs : ∀ i x acc S, xs[i]? = some x → I i acc S → ∃ w S1, f x S = .ok (some w) S1 ∧ S1[n]? = some (.lst acc) ∧ acc.length < sizeLine ∧ I (i + 1) (acc ++ [w]) (S1.set n (.lst (acc ++ [w])))) :
    ∀ (m i : Nat) (acc : List W) (S : Sto), m = xs.length - i → i ≤ xs.length → I i acc S → ∃ acc' S', compL g n f (xs.drop i) S = .ok () S' ∧ I xs.length acc' S'
  | 0, i, acc, S, hm, hi, h => by
    have e : i = xs.length := by omega
    subst e
    refine ⟨acc, S, ?_, h⟩
    rw [List.drop_length]
    unfold compL
    rw [if_pos (hg _ _ _ (Nat.le_refl _) h)]
  | m + 1, i, acc, S, hm, hi, h => by
    have hlt : i < xs.length := by omega
    have hx : xs[i]? = some xs[i] := by simp [hlt]
    obtain ⟨w, S1, e1, e2, e3, h'⟩ := hs i _ acc S hx h
    obtain ⟨acc2, S2, e4, h2⟩ := compL_inv I xs hg hs m (i + 1) _ _ (by omega) hlt h'
    refine ⟨acc2, S2, ?_, h2⟩
    rw [List.drop_eq_getElem_cons hlt]
    unfold compL
    rw [if_pos (hg _ _ _ hi h), e1]
    simp only [R.bind_ok_]
    rw [e2]
    dsimp only
    rw [if_pos e3]
    exact e4
theorem swAt {ss : List St} {i : Nat} {x : W} (h : (Sts.w ss)[i]? = some x) : ∃ s, ss[i]? = some s ∧ x = s.w := by
  induction ss generalizing i with
  | nil => simp [Sts.w] at h
  | cons s ss ih =>
    cases i with
    | zero => simp [Sts.w] at h; exact ⟨s, rfl, h.symm⟩
    | succ i => simp [Sts.w] at h; simpa using ih h
theorem sws_len : ∀ ss : List St, (Sts.w ss).length = ss.length
  | [] => rfl
  | s :: ss => by simp [Sts.w, sws_len ss]
structure LPts (P : Prog) : Prop extends LMean P where
  f29 : P.fn 29 = some d_bodies
  f32 : P.fn 32 = some d_Points___init__
  f39 : P.fn 39 = some d_Points_add_body
  f40 : P.fn 40 = some d_Point___init__
  f41 : P.fn 41 = some d_Points_link
  f19 : P.fn 19 = some d_Walker___init__
  i7 : P.init 7 = some 40
  i6 : P.init 6 = some 32
  i4 : P.init 4 = some 19
  m42 : P.meth 6 42 = some 39
  m43 : P.meth 6 43 = some 41
  ptF : ∀ f ∈ [20, 26, 23, 29], P.isF 7 f = true
  psF : ∀ f ∈ [19, 23], P.isF 6 f = true
  wkF : ∀ f ∈ [15, 18], P.isF 4 f = true
section
variable {P : Prog} {S : Sto} {k : Nat}
theorem bodies_ok (L : LPts P) (s : St) : run P (k + 1) 29 [s.w] S = .ok (.tup ((bods s).map fun b => .tup (Sts.w b))) S := by
  have hp : Pu (.tup ((bods s).map fun b => .tup (Sts.w b))) := tup_pu (map_pu fun b => by have := Sts.pu b; simpa [Pu, below] using this)
  have l2 : (2 : Nat) ≤ sizeLine := by decide
  have l1 : (1 : Nat) ≤ sizeLine := by decide
  have l0 : (0 : Nat) ≤ sizeLine := by decide
  refine run_ret L.f29 rfl rfl (w := .tup ((bods s).map fun b => .tup (Sts.w b))) (S1 := S) ?_ (fin_pu0 hp)
  unfold d_bodies
  cases s <;> simp [exSs, exS, evE, evEs, St.w, L.tag, bods, l0, l1, l2]
theorem mk_point (L : LPts P) {pr : Nat} {stw : W} : mkR P (clOf P (k + 2)) false 7 [.int pr, stw] S = .ok (.ref S.length) (S ++ [.ins 7 [20, 26, 23, 29] [.int pr, stw, .ref (S.length + 1), .non], .lst []]) := by
  have b := fun f hf => L.ptF f hf
  have hfull : full P 40 (.ref S.length :: [.int pr, stw]) = [.ref S.length, .int pr, stw] := full_no L.toLib (by decide)
  have r : run P (k + 1) 40 [.ref S.length, .int pr, stw] (S ++ [.ins 7 [] []]) = .ok .non (S ++ [.ins 7 [20, 26, 23, 29] [.int pr, stw, .ref (S.length + 1), .non], .lst []]) := by
    refine run_nx L.f40 rfl rfl (env0 := [some (.ref S.length), some (.int pr), some stw]) (env1 := [some (.ref S.length), some (.int pr), some stw]) (S1 := S ++ [.ins 7 [20, 26, 23, 29] [.int pr, stw, .ref (S.length + 1), .non], .lst []]) ?_ rfl
    unfold d_Point___init__
    simp [exSs, exS, evE, evL, evEs, setF_in (b 20 (by simp)), setF_in (b 26 (by simp)), setF_in (b 23 (by simp)), setF_in (b 29 (by simp)), putW]
  unfold mkR
  rw [L.i7]
  dsimp only
  rw [hfull, ini_eq, r]
  simp
end
end Eng

set_option Elab.async false
set_option linter.all false
set_option maxHeartbeats 4000000
set_option maxRecDepth 100000
/-! E51: Points.add_body. -/
namespace Eng
open PySem L2
theorem len_sz : ∀ ss : List St, ss.length ≤ Sts.sz ss
  | [] => Nat.le_refl _
  | s :: ss => by have := sz_pos s; have := len_sz ss; simp [Sts.sz]; omega
def AddSpec (P : Prog) (k a0 PA EA pr n : Nat) (ss : List St) : Prop := ∀ (S : Sto) (qs : List Nat) (pts : List Pt), PR S a0 PA EA qs pts → pts.length + Sts.sz ss ≤ 5000 →
  ∃ S' qs' items, run P k 39 [.ref a0, .int pr, .tup (Sts.w ss)] S = .ok (.ref S.length) S' ∧ PR S' a0 PA EA (qs ++ qs') (pts ++ raws pr ss) ∧ S'[S.length]? = some (.lst items) ∧ FR S' (OkA S.length (qs ++ qs')) n items pts.length ss ∧ (∀ q ∈ qs', S.length < q) ∧ Kp S S' PA
abbrev ceAdd : CE := .comp false [7] (.nm 7) (.seq (.call 29 (.cons (.var 4) .nil))) .nil (.meth (.var 0) 42 (.cons (.var 1) (.cons (.var 7) .nil)))
theorem OkA.more {lo lo' : Nat} {qs qs' : List Nat} {x n : Nat} (h : OkA lo qs x) (hl : lo' ≤ lo) (hx : x < n) (hq : ∀ q ∈ qs', n ≤ q) : OkA lo' (qs ++ qs') x := ⟨Nat.lt_of_le_of_lt hl h.1, fun q hm => by
  rcases List.mem_append.mp hm with hm | hm
  · exact h.2 q hm
  · have := hq q hm
    omega⟩
theorem fresh_ok {S : Sto} {a0 PA EA : Nat} {qs : List Nat} {pts : List Pt} (h : PR S a0 PA EA qs pts) {qs' : List Nat} (hq : ∀ q ∈ qs', S.length < q) : OkA EA (qs ++ qs') S.length := ⟨h.ea, fun q hm => by
  rcases List.mem_append.mp hm with hm | hm
  · have := h.hi hm
    omega
  · have := hq q hm
    omega⟩
section
variable {P : Prog} {k : Nat}
theorem comp_add (L : LPts P) {a0 PA EA pr n : Nat} {s : St} (hB : ∀ B ∈ bods s, ∃ n', n = n' + 1 ∧ AddSpec P (k + 1) a0 PA EA pr n' B) {S : Sto} {qs : List Nat} {pts : List Pt} (h : PR S a0 PA EA qs pts) (hz : pts.length + Bods.sz (bods s) ≤ 5000) {v2 v3 v5 v6 v7 : Option W} :
    ∃ S' qs' xs, evE P (clOf P (k + 1)) ceAdd [some (.ref a0), some (.int pr), v2, v3, some s.w, v5, v6, v7] S = .ok (.ref S.length) S' ∧ PR S' a0 PA EA (qs ++ qs') (pts ++ rawB pr (bods s)) ∧ S'[S.length]? = some (.lst xs) ∧ FRb S' (OkA S.length (qs ++ qs')) (FI S' (OkA S.length (qs ++ qs')) n) xs pts.length (bods s) ∧ (∀ q ∈ qs', S.length < q) ∧ Kp S S' PA := by
  have hb := fun S => bodies_ok (P := P) (S := S) (k := k) L s
  have hbl : (bods s).length ≤ 2 := by cases s <;> simp [bods]
  obtain ⟨acc, S', e, qs', hp, hg, hf, hn, hk, _⟩ := compL_inv (g := []) (n := S.length) (f := fun x S2 => match asgT (.nm 7) x (wipeE [some (.ref a0), some (.int pr), v2, v3, some s.w, v5, v6, v7] [7]) with
        | none => .bad
        | some env' => (evAll P (clOf P (k + 1)) .nil env' S2).bind fun b S3 => if b = true then (evE P (clOf P (k + 1)) (.meth (.var 0) 42 (.cons (.var 1) (.cons (.var 7) .nil))) env' S3).bind fun w S4 => .ok (some w) S4 else .ok none S3)
    (fun j acc S2 => ∃ qj, PR S2 a0 PA EA (qs ++ qj) (pts ++ rawB pr ((bods s).take j)) ∧ S2[S.length]? = some (.lst acc) ∧ FRb S2 (OkA S.length (qs ++ qj)) (FI S2 (OkA S.length (qs ++ qj)) n) acc pts.length ((bods s).take j) ∧ (∀ q ∈ qj, S.length < q) ∧ Kp S S2 PA ∧ acc.length = j)
    ((bods s).map fun b => .tup (Sts.w b)) (fun _ _ _ _ _ => gOk_nil) (fun j x acc S2 hx ⟨qj, p1, p2, p3, p4, p5, p6⟩ => by
      rw [List.getElem?_map] at hx
      cases hBj : (bods s)[j]? with
      | none => rw [hBj] at hx; cases hx
      | some B =>
      rw [hBj] at hx
      simp only [Option.map_some, Option.some.injEq] at hx
      subst hx
      obtain ⟨n', rfl, sp⟩ := hB B (List.mem_of_getElem? hBj)
      have hjl := (List.getElem?_eq_some_iff.mp hBj).1
      have hlen : (pts ++ rawB pr ((bods s).take j)).length = pts.length + Bods.sz ((bods s).take j) := by simp [rawB_len]
      have hle : Bods.sz ((bods s).take j) + Sts.sz B ≤ Bods.sz (bods s) := by
        rw [← szb_take hBj]
        have : Bods.sz (bods s) = Bods.sz ((bods s).take (j + 1)) + Bods.sz ((bods s).drop (j + 1)) := by rw [← szb_append, List.take_append_drop]
        omega
      obtain ⟨S3, q3, its, r1, r2, r3, r4, r5, r6⟩ := sp S2 (qs ++ qj) _ p1 (by rw [hlen]; omega)
      have hl2 : S.length < S2.length := (List.getElem?_eq_some_iff.mp p2).1
      have hl3 := r6.1
      have hS3 : S3[S.length]? = some (.lst acc) := by rw [r6.2 _ hl2 (by have := h.o1; have := h.o2; have := h.ea; omega)]; exact p2
      have hself : S2[a0]? = some (.ins 6 [19, 23] [.ref PA, .ref EA]) := p1.self
      refine ⟨.ref S2.length, S3, ?_, hS3, ?_, qj ++ q3, ?_, ?_, ?_, ?_, ?_, ?_⟩
      · simp only [wipeE, List.set_cons_succ, List.set_cons_zero, asgT_nm, evAll, R.bind_ok_, if_true]
        rw [evE]
        simp [evE, evEs, hself, L.m42, clOf_fn, full_no L.toLib (f := 39) (by decide), r1]
      · rw [p6]; exact Nat.lt_of_lt_of_le (show j < 3 by omega) (by decide)
      · have := r2.set (l := S.length) (o := .lst (acc ++ [.ref S2.length])) (by
          rw [List.append_assoc]
          refine fresh_ok h fun q hq => ?_
          rcases List.mem_append.mp hq with hq | hq
          · exact p4 q hq
          · have := r5 q hq
            omega)
        have htk : (bods s).take (j + 1) = (bods s).take j ++ [B] := by rw [List.take_add_one, hBj]; rfl
        rw [htk, rawB_append, ← List.append_assoc pts, ← List.append_assoc qs]
        simpa [rawB] using this
      · rw [List.getElem?_set_self (by omega)]
      · have htk : (bods s).take (j + 1) = (bods s).take j ++ [B] := by rw [List.take_add_one, hBj]; rfl
        rw [htk]
        have mono : ∀ x o, OkA S.length (qs ++ qj) x → S2[x]? = some o → (S3.set S.length (.lst (acc ++ [.ref S2.length])))[x]? = some o ∧ OkA S.length (qs ++ (qj ++ q3)) x := fun x o ho hx => by
          have hxl := (List.getElem?_eq_some_iff.mp hx).1
          refine ⟨?_, ?_⟩
          · rw [List.getElem?_set_ne (by have := ho.1; omega), r6.2 x hxl (by have := ho.1; have := h.o1; have := h.o2; have := h.ea; omega)]
            exact hx
          · rw [← List.append_assoc]
            exact ho.more (Nat.le_refl _) hxl fun q hq => Nat.le_of_lt (r5 q hq)
        refine FRb_snoc _ _ _ (FRb_mono mono (fun a b c z => FI_mono mono _ a b c z) _ _ _ p3) (its := its) ?_ ?_ ?_
        · refine ⟨hl2, fun q hq => ?_⟩
          rw [← List.append_assoc] at hq
          rcases List.mem_append.mp hq with hq | hq
          · have := p1.hi hq
            omega
          · have := r5 q hq
            omega
        · rw [List.getElem?_set_ne (by omega)]; exact r3
        · show FR _ _ n' its _ B
          rw [← hlen]
          refine FR_mono (fun x o ho hx => ⟨?_, ?_⟩) _ _ _ _ r4
          · rw [List.getElem?_set_ne (by have := ho.1; omega)]; exact hx
          · rw [← List.append_assoc]
            exact ⟨by have := ho.1; omega, ho.2⟩
      · intro q hq
        rcases List.mem_append.mp hq with hq | hq
        · exact p4 q hq
        · have := r5 q hq
          omega
      · have hk2 : Kp S S3 PA := p5.trans r6
        exact hk2.set (.inl (Nat.le_refl _))
      · simp [p6])
    _ 0 [] (S ++ [.lst []]) rfl (Nat.zero_le _) ⟨[], by simpa [rawB] using h.app, by simp, by rw [List.take_zero]; rfl, by simp, Kp.app, rfl⟩
  rw [List.drop_zero] at e
  rw [List.length_map] at hp hf
  rw [List.take_length] at hp hf
  refine ⟨S', qs', acc, ?_, hp, hg, hf, hn, hk⟩
  have hi : evI P (clOf P (k + 1)) (.seq (.call 29 (.cons (.var 4) .nil))) [some (.ref a0), some (.int pr), v2, v3, some s.w, v5, v6, v7] S = .ok ((bods s).map fun b => .tup (Sts.w b), []) S := by
    simp [evI, evE, evEs, clOf_fn, full_no L.toLib (f := 29) (by decide), hb]
  rw [ceAdd, evE, hi]
  have : ∀ r : R Unit, r = .ok () S' → (r.bind fun _ S5 => if false = true then exitR S (.ref S.length) S5 else .ok (.ref S.length) S5) = .ok (.ref S.length) S' := by intro r hr; rw [hr]; rfl
  exact this _ e
theorem addb_body (L : LPts P) {a0 PA EA pr : Nat} (n : Nat) (ss : List St) (k : Nat) (hd : Sts.nd ss ≤ n) (hk : n + 4 ≤ k) (ih : ∀ n' ss', n = n' + 1 → Sts.nd ss' ≤ n' → AddSpec P k a0 PA EA pr n' ss') : AddSpec P (k + 1) a0 PA EA pr n ss := by
  intro S qs pts h hz
  obtain ⟨k, rfl⟩ : ∃ k', k = k' + 2 := ⟨k - 2, by omega⟩
  have l2 : (2 : Nat) ≤ sizeLine := by decide
  have l5 : (5001 : Nat) ≤ sizeLine := by decide
  have ho1 := h.o1
  have ho2 := h.o2
  have hea := h.ea
  obtain ⟨env', S', e, v4, v5, v6, v7, qs', items, he, hp, hg, hf, hn, hkp, _⟩ := for_go (P := P) (C := clOf P (k + 2)) (t := .nm 4) (it := .seq (.var 2)) (b := (.cons (.asg (.nm 5) (.blt .len (.cons (.fld (.var 0) 19) .nil))) (.cons (.asg (.nm 6) (.make false 7 (.cons (.var 1) (.cons (.var 4) .nil)))) (.cons (.expr (.bm .append (.fld (.var 0) 19) (.cons (.var 6) .nil))) (.cons (.expr (.bm .append (.var 3) (.cons (.tup (.cons (.var 5) (.cons ceAdd .nil))) .nil))) .nil)))))
    (env := [some (.ref a0), some (.int pr), some (.tup (Sts.w ss)), some (.ref S.length), none, none, none, none]) (S := S ++ [.lst []]) (S0 := S ++ [.lst []]) (xs := Sts.w ss) (g := [])
    (fun i env S1 => ∃ v4 v5 v6 v7 qi items, env = [some (.ref a0), some (.int pr), some (.tup (Sts.w ss)), some (.ref S.length), v4, v5, v6, v7] ∧ PR S1 a0 PA EA (qs ++ qi) (pts ++ raws pr (ss.take i)) ∧ S1[S.length]? = some (.lst items) ∧ FR S1 (OkA S.length (qs ++ qi)) n items pts.length (ss.take i) ∧ (∀ q ∈ qi, S.length < q) ∧ Kp S S1 PA ∧ items.length = i)
    (by simp [evI, evE]) (fun _ _ _ _ _ => gOk_nil) ⟨none, none, none, none, [], [], rfl, by simpa [raws] using h.app, by simp, by rw [List.take_zero, FR_eq]; rfl, by simp, Kp.app, rfl⟩
    (fun i x env S1 hx ⟨v4, v5, v6, v7, qi, items, e1, p1, p2, p3, p4, p5, p6⟩ => by
      subst e1
      obtain ⟨s, hs, rfl⟩ := swAt hx
      have hil := (List.getElem?_eq_some_iff.mp hs).1
      have hlen : (pts ++ raws pr (ss.take i)).length = pts.length + Sts.sz (ss.take i) := by simp [raws_len]
      have hle : Sts.sz (ss.take i) + s.sz ≤ Sts.sz ss := by
        rw [← szs_take hs]
        have : Sts.sz ss = Sts.sz (ss.take (i + 1)) + Sts.sz (ss.drop (i + 1)) := by rw [← szs_append, List.take_append_drop]
        omega
      have hsz := sz_bods s
      have hlq := p1.len
      have hl1 : S.length < S1.length := (List.getElem?_eq_some_iff.mp p2).1
      have hadd := p1.add (pr := pr) (st := some s) (stw := s.w) rfl
      generalize hSc : addPt S1 PA (qs ++ qi) pr s.w = Sc at hadd
      have hScl : Sc.length = S1.length + 2 := by rw [← hSc]; simp
      have kc : Kp S1 Sc PA := by rw [← hSc]; exact Kp.app.set (.inr rfl)
      obtain ⟨S5, q5, xs, c1, c2, c3, c4, c5, c6⟩ := comp_add (P := P) (k := k + 1) L (n := n) (s := s) (fun B hB => by
        have h1 := nd_bods hB
        have h2 := nd_mem (List.mem_of_getElem? hs)
        obtain ⟨n', rfl⟩ : ∃ n', n = n' + 1 := ⟨n - 1, by omega⟩
        exact ⟨n', rfl, ih n' B rfl (by omega)⟩) hadd (by simp [raws_len]; omega) (v2 := some (.tup (Sts.w ss))) (v3 := some (.ref S.length)) (v5 := some (.int (pts.length + Sts.sz (ss.take i) : Nat))) (v6 := some (.ref S1.length)) (v7 := v7)
      have hSc2 : Sc[S.length]? = some (.lst items) := by rw [kc.2 _ hl1 (by omega)]; exact p2
      have hS5 : S5[S.length]? = some (.lst items) := by rw [c6.2 _ (by omega) (by omega)]; exact hSc2
      have hil2 : items.length < sizeLine := by
        have : i < ss.length := hil
        have h2 := len_sz ss
        omega
      have q3 := append_ref (S := S5) (l := S.length) (x := .tup [.int (pts.length + Sts.sz (ss.take i) : Nat), .ref Sc.length]) (xs := items) hS5 hil2
      refine ⟨_, [some (.ref a0), some (.int pr), some (.tup (Sts.w ss)), some (.ref S.length), some s.w, some (.int (pts.length + Sts.sz (ss.take i) : Nat)), some (.ref S1.length), v7], S5.set S.length (.lst (items ++ [.tup [.int (pts.length + Sts.sz (ss.take i) : Nat), .ref Sc.length]])), rfl, .inl ?_, some s.w, _, _, _, qi ++ (S1.length :: q5), _, rfl, ?_, List.getElem?_set_self (by have := c6.1; omega), ?_, ?_, ?_, by simp [p6]⟩
      · generalize hplq : pts.length + Sts.sz (ss.take i) = pl at c1 q3 hlen ⊢
        have g19 : getF S1 (.ref a0) 19 = some (.ref PA) := by rw [getF_ref p1.self]; simp
        have gl : bltW S1 .len [.ref PA] = some (.int pl) := by
          rw [bltW_len_ref p1.pa, List.length_map, hlq, hlen]
        simp only [List.set_cons_succ, List.set_cons_zero]
        rw [ss_nx (env' := [some (.ref a0), some (.int pr), some (.tup (Sts.w ss)), some (.ref S.length), some s.w, some (.int pl), v6, v7]) (S' := S1) (by simp [exS, evE, evEs, g19, gl])]
        obtain ⟨Sb, hSb⟩ : ∃ Sb : Sto, Sb = S1 ++ [Ob.ins 7 [20, 26, 23, 29] [.int pr, s.w, .ref (S1.length + 1), .non], Ob.lst []] := ⟨_, rfl⟩
        have hmk : mkR P (clOf P (k + 2)) false 7 [.int pr, s.w] S1 = .ok (.ref S1.length) Sb := by rw [hSb]; exact mk_point L
        rw [ss_nx (env' := [some (.ref a0), some (.int pr), some (.tup (Sts.w ss)), some (.ref S.length), some s.w, some (.int pl), some (.ref S1.length), v7]) (S' := Sb) (by simp [exS, evE, evEs, hmk])]
        have pb : PR Sb a0 PA EA (qs ++ qi) (pts ++ raws pr (ss.take i)) := by rw [hSb]; exact p1.app
        have g19' := getF_ref (f := 19) pb.self
        have hb := bmK_ref pb.pa
        have ha := append_ref (x := .ref S1.length) pb.pa (by rw [List.length_map, hlq, hlen]; omega)
        have hset : Sb.set PA (.lst ((qs ++ qi).map W.ref ++ [.ref S1.length])) = Sc := by rw [hSb]; exact hSc
        rw [hset] at ha
        rw [ss_nx (env' := [some (.ref a0), some (.int pr), some (.tup (Sts.w ss)), some (.ref S.length), some s.w, some (.int pl), some (.ref S1.length), v7]) (S' := Sc) (by simp [exS, evE, evEs, g19', hb, ha])]
        have hb2 := bmK_ref hSc2
        generalize ceAdd = ca at c1 ⊢
        simp [exSs, exS, evE, evEs, hb2, c1, l2]
        rw [q3]
        simp
      · have htk : ss.take (i + 1) = ss.take i ++ [s] := by rw [List.take_add_one, hs]; rfl
        have := c2.set (l := S.length) (o := .lst (items ++ [.tup [.int (pts.length + Sts.sz (ss.take i) : Nat), .ref Sc.length]])) (by
          have : qs ++ qi ++ [S1.length] ++ q5 = qs ++ (qi ++ S1.length :: q5) := by simp
          rw [this]
          refine fresh_ok h fun q hq => ?_
          rcases List.mem_append.mp hq with hq | hq
          · exact p4 q hq
          · rcases List.mem_cons.mp hq with rfl | hq
            · omega
            · have := c5 q hq
              omega)
        rw [htk, raws_append]
        simp [raws, raw_bods] at this ⊢
        exact this
      · have htk : ss.take (i + 1) = ss.take i ++ [s] := by rw [List.take_add_one, hs]; rfl
        have eq : qs ++ qi ++ [S1.length] ++ q5 = qs ++ (qi ++ S1.length :: q5) := by simp
        rw [eq] at c4
        rw [htk, FR_eq]
        rw [FR_eq] at p3
        have mono : ∀ x o, OkA S.length (qs ++ qi) x → S1[x]? = some o → (S5.set S.length (.lst (items ++ [.tup [.int (pts.length + Sts.sz (ss.take i) : Nat), .ref Sc.length]])))[x]? = some o ∧ OkA S.length (qs ++ (qi ++ S1.length :: q5)) x := fun x o hok hx => by
          have hxl := (List.getElem?_eq_some_iff.mp hx).1
          have hx1 := hok.1
          refine ⟨?_, ?_⟩
          · rw [List.getElem?_set_ne (by omega), c6.2 x (by omega) (by omega), kc.2 x hxl (by omega)]
            exact hx
          · rw [← List.append_assoc]
            refine hok.more (Nat.le_refl _) hxl fun q hq => ?_
            rcases List.mem_cons.mp hq with rfl | hq
            · omega
            · have := c5 q hq
              omega
        have mono2 : ∀ x o, OkA Sc.length (qs ++ (qi ++ S1.length :: q5)) x → S5[x]? = some o → (S5.set S.length (.lst (items ++ [.tup [.int (pts.length + Sts.sz (ss.take i) : Nat), .ref Sc.length]])))[x]? = some o ∧ OkA S.length (qs ++ (qi ++ S1.length :: q5)) x := fun x o hok hx => by
          have hx1 := hok.1
          exact ⟨by rw [List.getElem?_set_ne (by omega)]; exact hx, by omega, hok.2⟩
        refine FRs_snoc _ _ _ (FRs_mono mono (fun a b c z => FI_mono mono _ a b c z) _ _ _ p3) (xs := xs) ?_ ?_ ?_
        · refine ⟨by omega, fun q hq => ?_⟩
          rw [← eq] at hq
          rcases List.mem_append.mp hq with hq | hq
          · have := hadd.hi hq
            omega
          · have := c5 q hq
            omega
        · rw [List.getElem?_set_ne (by omega)]; exact c3
        · have := FRb_mono mono2 (fun a b c z => FI_mono mono2 _ a b c z) _ _ _ c4
          simp [raws_len] at this
          rw [Nat.add_assoc]
          exact this
      · intro q hq
        rcases List.mem_append.mp hq with hq | hq
        · exact p4 q hq
        · rcases List.mem_cons.mp hq with rfl | hq
          · omega
          · have := c5 q hq
            omega
      · exact ((p5.trans kc).trans c6).set (.inl (Nat.le_refl _)))
  subst he
  rw [sws_len, List.take_length] at hp hf
  refine ⟨S', qs', items, ?_, hp, hg, hf, hn, hkp⟩
  refine run_ret L.f39 rfl rfl (w := .ref S.length) (env0 := [some (.ref a0), some (.int pr), some (.tup (Sts.w ss)), none, none, none, none, none]) (S1 := S') ?_ rfl
  unfold d_Points_add_body
  dsimp only
  rw [ss_nx (env' := [some (.ref a0), some (.int pr), some (.tup (Sts.w ss)), some (.ref S.length), none, none, none, none]) (S' := S ++ [.lst []]) (by simp [exS, evE, evL, evEs])]
  rw [ss_nx e]
  simp [exSs, exS, evE]
theorem addb_ok (L : LPts P) {a0 PA EA pr : Nat} : ∀ (n : Nat) (ss : List St) (k : Nat), Sts.nd ss ≤ n → n + 4 ≤ k → AddSpec P (k + 1) a0 PA EA pr n ss := by
  intro n
  induction n with
  | zero =>
    exact fun ss k hd hk => addb_body L 0 ss k hd hk fun n' ss' e => by omega
  | succ n ih =>
    exact fun ss k hd hk => addb_body L (n + 1) ss k hd hk fun n' ss' e hd' => by
        obtain rfl : n = n' := by omega
        obtain ⟨k, rfl⟩ : ∃ k', k = k' + 1 := ⟨k - 1, by omega⟩
        exact ih ss' k hd' (by omega)
end
end Eng

set_option Elab.async false
set_option linter.all false
set_option maxHeartbeats 4000000
set_option maxRecDepth 100000
/-! E52: Points.link. -/
namespace Eng
open PySem L2
theorem gap_ne : ∀ {l : List Nat} {i j a b : Nat}, l.Pairwise (fun a b => a + 2 ≤ b) → l[i]? = some a → l[j]? = some b → i < j → a + 2 ≤ b := by
  intro l i j a b h hi hj hij
  obtain ⟨h1, rfl⟩ := List.getElem?_eq_some_iff.mp hi
  obtain ⟨h2, rfl⟩ := List.getElem?_eq_some_iff.mp hj
  exact List.pairwise_iff_getElem.mp h i j h1 h2 hij
/-- a point is changed -/
theorem PR.upd {S S' : Sto} {a0 PA EA q : Nat} {qs : List Nat} {pre post : List Pt} {t t' : Pt} (h : PR S a0 PA EA qs (pre ++ t :: post)) (hq : qs[pre.length]? = some q) (h1 : S'[q]? = some (.ins 7 [20, 26, 23, 29] [.int t'.pr, t'.stw, .ref (q + 1), t'.fow])) (h2 : S'[q + 1]? = some (.lst (t'.en.map iw)))
    (h3 : ∀ x, x ≠ q → x ≠ q + 1 → S'[x]? = S[x]?) (h4 : S.length ≤ S'.length) : PR S' a0 PA EA qs (pre ++ t' :: post) where
  self := by
    have := h.lo q (List.mem_of_getElem? hq); have := h.o1; have := h.o2
    rw [h3 _ (by omega) (by omega)]; exact h.self
  pa := by
    have := h.lo q (List.mem_of_getElem? hq); have := h.o2
    rw [h3 _ (by omega) (by omega)]; exact h.pa
  len := by have := h.len; simp at this ⊢; exact this
  at_ := fun i u e => by
    by_cases hi : i = pre.length
    · subst hi
      rw [List.getElem?_append_right (Nat.le_refl _)] at e
      simp at e
      subst e
      exact ⟨q, hq, h1, h2⟩
    · have e2 : (pre ++ t :: post)[i]? = some u := by
        by_cases hlt : i < pre.length
        · rw [List.getElem?_append_left hlt] at e ⊢; exact e
        · rw [List.getElem?_append_right (by omega)] at e ⊢
          obtain ⟨m, hm⟩ : ∃ m, i - pre.length = m + 1 := ⟨i - pre.length - 1, by omega⟩
          rw [hm] at e ⊢
          exact e
      obtain ⟨q', g1, g2, g3⟩ := h.at_ i u e2
      have hne : q + 2 ≤ q' ∨ q' + 2 ≤ q := by
        rcases Nat.lt_or_gt_of_ne hi with hl | hl
        · exact .inr (gap_ne h.gap g1 hq hl)
        · exact .inl (gap_ne h.gap hq g1 hl)
      refine ⟨q', g1, ?_, ?_⟩
      · rw [h3 _ (by omega) (by omega)]; exact g2
      · rw [h3 _ (by omega) (by omega)]; exact g3
  gap := h.gap
  lo := h.lo
  o1 := h.o1
  o2 := h.o2
  ea := Nat.lt_of_lt_of_le h.ea h4
def LnkSpec (P : Prog) (k a0 PA EA pr n : Nat) (ss : List St) : Prop := ∀ (S : Sto) (qs : List Nat) (pre post : List Pt) (a : Nat) (its : List W) (behind : Nat), PR S a0 PA EA qs (pre ++ (raws pr ss ++ post)) → OkA EA qs a → S[a]? = some (.lst its) → FR S (OkA EA qs) n its pre.length ss →
  ∃ S', run P k 41 [.ref a0, .ref a, .int behind] S = .ok .non S' ∧ PR S' a0 PA EA qs (pre ++ (lays pr pre.length behind ss ++ post)) ∧ S'.length = S.length ∧ ∀ x, OkA EA qs x ∨ x ≤ EA → S'[x]? = S[x]?
theorem FR_first {S : Sto} {ok : Nat → Prop} {F : List W → Nat → List St → Prop} {its : List W} {base : Nat} {ss : List St} (h : FRs S ok F its base ss) : its.length = ss.length ∧ (ss ≠ [] → ∃ b its', its = .tup [.int base, .ref b] :: its') := by
  refine ⟨FRs_len _ _ _ h, fun n => ?_⟩
  cases ss with
  | nil => exact absurd rfl n
  | cons s ss =>
    obtain ⟨b, xs, its', e, _⟩ := h
    exact ⟨b, its', e⟩
abbrev lkIn : CS := .for_ (.nm 9) (.seq (.var 5)) (.cons (.expr (.bm .append (.fld (.var 7) 23) (.cons (.ite (.cmp .gt (.blt .len (.cons (.var 9) .nil)) (.int 0)) (.idx (.idx (.var 9) (.int 0)) (.int 0)) (.var 8)) .nil))) (.cons (.expr (.meth (.var 0) 43 (.cons (.var 9) (.cons (.var 8) .nil)))) .nil))
section
variable {P : Prog} {k : Nat}
theorem link_in (L : LPts P) {a0 PA EA pr n back : Nat} {Bs : List (List St)} (hbl : Bs.length ≤ 2) (hB : ∀ B ∈ Bs, ∃ n', n = n' + 1 ∧ LnkSpec P k a0 PA EA pr n' B) {S : Sto} {qs : List Nat} {pre post : List Pt} {st : Option St} {fo : Option Nat} {q b : Nat} {xs : List W}
    (h : PR S a0 PA EA qs (pre ++ ⟨pr, st, [], fo⟩ :: (rawB pr Bs ++ post))) (hq : qs[pre.length]? = some q) (hb : OkA EA qs b) (hx : S[b]? = some (.lst xs)) (hf : FRb S (OkA EA qs) (FI S (OkA EA qs) n) xs (pre.length + 1) Bs) {v1 v2 v3 v4 v6 v9 : Option W} :
    ∃ S' v9', exS P (clOf P k) lkIn [some (.ref a0), v1, v2, v3, v4, some (.ref b), v6, some (.ref q), some (.int back), v9] S = .ok (.nx [some (.ref a0), v1, v2, v3, v4, some (.ref b), v6, some (.ref q), some (.int back), v9']) S' ∧
      PR S' a0 PA EA qs (pre ++ ⟨pr, st, entsB (pre.length + 1) back Bs, fo⟩ :: (layB pr (pre.length + 1) back Bs ++ post)) ∧ S'.length = S.length ∧ ∀ x, OkA EA qs x ∨ x ≤ EA → S'[x]? = S[x]? := by
  have hqm := List.mem_of_getElem? hq
  have hql := h.lo q hqm
  obtain ⟨env', S', e, v9', en, mid, he, hp, h1, h2, h3, h4, h5, _⟩ := for_go (P := P) (C := clOf P k) (t := .nm 9) (it := .seq (.var 5)) (b := (.cons (.expr (.bm .append (.fld (.var 7) 23) (.cons (.ite (.cmp .gt (.blt .len (.cons (.var 9) .nil)) (.int 0)) (.idx (.idx (.var 9) (.int 0)) (.int 0)) (.var 8)) .nil))) (.cons (.expr (.meth (.var 0) 43 (.cons (.var 9) (.cons (.var 8) .nil)))) .nil)))
    (env := [some (.ref a0), v1, v2, v3, v4, some (.ref b), v6, some (.ref q), some (.int back), v9]) (S := S) (S0 := S) (xs := xs) (g := [(b, xs)])
    (fun j env S2 => ∃ v9 en mid, env = [some (.ref a0), v1, v2, v3, v4, some (.ref b), v6, some (.ref q), some (.int back), v9] ∧ PR S2 a0 PA EA qs (pre ++ ⟨pr, st, en, fo⟩ :: (mid ++ (rawB pr (Bs.drop j) ++ post))) ∧ S2.length = S.length ∧ (∀ x, OkA EA qs x ∨ x ≤ EA → S2[x]? = S[x]?) ∧ mid.length = Bods.sz (Bs.take j) ∧ mid ++ layB pr (pre.length + 1 + Bods.sz (Bs.take j)) back (Bs.drop j) = layB pr (pre.length + 1) back Bs ∧ en ++ entsB (pre.length + 1 + Bods.sz (Bs.take j)) back (Bs.drop j) = entsB (pre.length + 1) back Bs ∧ en.length = j)
    (by simp [evI, evE, hx]) (fun j env S2 _ ⟨_, _, _, _, _, _, ag, _⟩ p hp => by
      have : p = (b, xs) := by simpa using hp
      subst this
      rw [ag b (.inl hb)]
      exact hx) ⟨v9, [], [], rfl, by simpa using h, rfl, fun _ _ => rfl, rfl, by simp [Bods.sz], by simp [Bods.sz], rfl⟩
    (fun j x env S2 hxj ⟨v9, en, mid, e1, p1, p2, p3, p4, p5, p6, p7⟩ => by
      subst e1
      have hjl : j < Bs.length := by
        have := (List.getElem?_eq_some_iff.mp hxj).1
        rwa [FRb_len _ _ _ hf] at this
      obtain ⟨B, hBj⟩ : ∃ B, Bs[j]? = some B := ⟨Bs[j], by simp⟩
      obtain ⟨a, its, g1, g2, g3, g4⟩ := FRb_get _ _ _ _ hf hBj
      rw [hxj] at g1
      cases g1
      obtain ⟨n', rfl, sp⟩ := hB B (List.mem_of_getElem? hBj)
      have hdr : Bs.drop j = B :: Bs.drop (j + 1) := by
        obtain ⟨h1, rfl⟩ := List.getElem?_eq_some_iff.mp hBj
        exact List.drop_eq_getElem_cons h1
      rw [hdr] at p1 p5 p6
      simp only [rawB, layB, entsB, List.append_assoc] at p1 p5 p6
      have ht := p1.at_ pre.length ⟨pr, st, en, fo⟩ (by simp)
      obtain ⟨q', t1, t2, t3⟩ := ht
      rw [hq] at t1
      cases t1
      have hfr := g4
      have g4' : FRs S (OkA EA qs) (FI S (OkA EA qs) n') its (pre.length + 1 + Bods.sz (Bs.take j)) B := by
        have : FR S (OkA EA qs) n' its (pre.length + 1 + Bods.sz (Bs.take j)) B := g4
        rwa [FR_eq] at this
      obtain ⟨f1, f2⟩ := FR_first g4'
      have hS2a : S2[a]? = some (.lst its) := by rw [p3 a (.inl g2)]; exact g3
      -- the entry
      have hent : ∀ env : Env, env[9]? = some (some (.ref a)) → env[8]? = some (some (.int back)) → evE P (clOf P k) (.ite (.cmp .gt (.blt .len (.cons (.var 9) .nil)) (.int 0)) (.idx (.idx (.var 9) (.int 0)) (.int 0)) (.var 8)) env S2 = .ok (iw (entB B (pre.length + 1 + Bods.sz (Bs.take j)) back)) S2 := fun env e9 e8 => by
        have gl := bltW_len_ref hS2a
        have gi := idxW_ref (i := 0) hS2a
        cases hBe : B with
        | nil =>
          rw [hBe] at f1
          simp at f1
          subst f1
          simp [evE, evEs, e9, e8, gl, entB, iw]
        | cons s ss =>
          obtain ⟨b', its', e'⟩ := f2 (by rw [hBe]; simp)
          subst e'
          have hz : (0 : Int) < (its'.length : Int) + 1 := by omega
          simp at gl gi
          simp [evE, evEs, e9, e8, gl, gi, hz, entB, iw]
      generalize (CE.ite (.cmp .gt (.blt .len (.cons (.var 9) .nil)) (.int 0)) (.idx (.idx (.var 9) (.int 0)) (.int 0)) (.var 8)) = ce at hent ⊢
      generalize hE : entB B (pre.length + 1 + Bods.sz (Bs.take j)) back = E at hent p6
      have ha := append_ref (x := iw E) t3 (by
        rw [List.length_map, p7]
        exact Nat.lt_of_lt_of_le (show j < 3 by omega) (by decide))
      have hb1 := bmK_ref t3
      have g23 : getF S2 (.ref q) 23 = some (.ref (q + 1)) := by rw [getF_ref t2]; simp
      have q2l := p1.hi hqm
      have p1' : PR (S2.set (q + 1) (.lst (en.map iw ++ [iw E]))) a0 PA EA qs (pre ++ ⟨pr, st, en ++ [E], fo⟩ :: (mid ++ (raws pr B ++ (rawB pr (Bs.drop (j + 1)) ++ post)))) := by
        refine p1.upd hq ?_ ?_ (fun x n1 n2 => List.getElem?_set_ne (Ne.symm n2)) (by simp)
        · rw [List.getElem?_set_ne (by omega)]
          exact t2
        · rw [List.getElem?_set_self q2l]
          simp
      have agr : ∀ x, OkA EA qs x ∨ x ≤ EA → (S2.set (q + 1) (.lst (en.map iw ++ [iw E])))[x]? = S[x]? := fun x hxx => by
        rw [List.getElem?_set_ne, p3 x hxx]
        rintro rfl
        rcases hxx with hxx | hxx
        · exact (hxx.2 q hqm).2 rfl
        · omega
      generalize hS3 : S2.set (q + 1) (.lst (en.map iw ++ [iw E])) = S3 at ha p1' agr
      have hS3l : S3.length = S.length := by rw [← hS3]; simpa using p2
      have hpl : (pre ++ ⟨pr, st, en ++ [E], fo⟩ :: mid).length = pre.length + 1 + Bods.sz (Bs.take j) := by simp [p4]; omega
      obtain ⟨S4, r1, r2, r3, r4⟩ := sp S3 qs (pre ++ ⟨pr, st, en ++ [E], fo⟩ :: mid) (rawB pr (Bs.drop (j + 1)) ++ post) a its back (by simpa using p1') g2 (by rw [agr a (.inl g2)]; exact g3) (by
        rw [hpl]
        have : FR S (OkA EA qs) n' its (pre.length + 1 + Bods.sz (Bs.take j)) B := g4
        exact FR_mono (fun x o ho hx => ⟨by rw [agr x (.inl ho)]; exact hx, ho⟩) _ _ _ _ this)
      rw [hpl] at r2
      have hself3 := p1'.self
      refine ⟨_, [some (.ref a0), v1, v2, v3, v4, some (.ref b), v6, some (.ref q), some (.int back), some (.ref a)], S4, rfl, .inl ?_, some (.ref a), en ++ [E], mid ++ lays pr (pre.length + 1 + Bods.sz (Bs.take j)) back B, rfl, ?_, by rw [r3, hS3l], ?_, ?_, ?_, ?_, by simp [p7]⟩
      · simp only [List.set_cons_succ, List.set_cons_zero]
        have hent' := hent [some (.ref a0), v1, v2, v3, v4, some (.ref b), v6, some (.ref q), some (.int back), some (.ref a)] rfl rfl
        rw [ss_nx (env' := [some (.ref a0), v1, v2, v3, v4, some (.ref b), v6, some (.ref q), some (.int back), some (.ref a)]) (S' := S3) (by simp [exS, evE, evEs, g23, hb1, hent', ha])]
        simp [exSs, exS, evE, evEs, hself3, L.m43, clOf_fn, full_no L.toLib (f := 41) (by decide), r1]
      · simpa using r2
      · intro x hxx
        rw [r4 x hxx]
        exact agr x hxx
      · rw [List.length_append, lays_len, p4, szb_take hBj]
      · rw [List.append_assoc, szb_take hBj]
        rw [← Nat.add_assoc]
        exact p5
      · rw [szb_take hBj, List.append_assoc, ← Nat.add_assoc]
        exact p6)
  subst he
  rw [FRb_len _ _ _ hf] at hp h4 h5
  simp only [List.drop_length, rawB, layB, entsB, List.append_nil, List.nil_append] at hp h4 h5
  subst h4 h5
  exact ⟨S', v9', e, hp, h1, h2⟩
end
end Eng

set_option Elab.async false
set_option linter.all false
set_option maxHeartbeats 4000000
set_option maxRecDepth 100000
/-! E53: Points.link, the outer loop. -/
namespace Eng
open PySem L2
@[simp] theorem tg_beq {i j : Nat} : (tg i == tg j) = decide (i = j) := by
  rw [Bool.eq_iff_iff]
  simp
def isLoop : St → Bool
  | .wh _ _ => true
  | .rep _ => true
  | _ => false
theorem backS_eq (s : St) (base f : Nat) : backS s base f = if isLoop s then base else f := by cases s <;> rfl
theorem setF_at {P : Prog} {S : Sto} {l c f : Nat} {ns : List Nat} {ws : List W} {v : W} (e : S[l]? = some (.ins c ns ws)) (h : P.isF c f = true) (hn : ns.length < 1000) : setFW P S (.ref l) f v = some (S.set l (.ins c (putW ns ws f v).1 (putW ns ws f v).2)) := by
  unfold setFW
  dsimp only
  rw [e]
  dsimp only
  rw [if_pos ⟨hn, h⟩]
theorem raws_cons (pr : Nat) (s : St) (ss : List St) : raws pr (s :: ss) = ⟨pr, some s, [], none⟩ :: (rawB pr (bods s) ++ raws pr ss) := by simp [raws, raw_bods]
section
variable {P : Prog} {k : Nat}
theorem link_body (L : LPts P) {a0 PA EA pr : Nat} (n : Nat) (ss : List St) (k : Nat) (hd : Sts.nd ss ≤ n) (hk : n + 2 ≤ k) (ih : ∀ n' ss', n = n' + 1 → Sts.nd ss' ≤ n' → LnkSpec P k a0 PA EA pr n' ss') : LnkSpec P (k + 1) a0 PA EA pr n ss := by
  intro S qs pre post a its behind h ha hS hf
  rw [FR_eq] at hf
  have bf := fun f hf => L.ptF f hf
  obtain ⟨env', S', e, v3, v4, v5, v6, v7, v8, v9, mid, he, hp, h1, h2, h3, h4⟩ := for_go (P := P) (C := clOf P k) (t := .tp [(.nm 3), (.tp [(.nm 4), (.nm 5)])]) (it := .enm (.var 1))
    (b := (.cons (.asg (.nm 6) (.var 2)) (.cons (.if_ (.cmp .lt (.bin .add (.var 3) (.int 1)) (.blt .len (.cons (.var 1) .nil))) (.cons (.asg (.nm 6) (.idx (.idx (.var 1) (.bin .add (.var 3) (.int 1))) (.int 0))) .nil) .nil) (.cons (.asg (.nm 7) (.idx (.fld (.var 0) 19) (.var 4))) (.cons (.fld (.var 7) 29 (.var 6)) (.cons (.asg (.nm 8) (.var 6)) (.cons (.if_ (.cmp .in_ (.idx (.fld (.var 7) 26) (.int 0)) (.tup (.cons (.str 36) (.cons (.str 37) .nil)))) (.cons (.asg (.nm 8) (.var 4)) .nil) .nil) (.cons lkIn .nil))))))))
    (env := [some (.ref a0), some (.ref a), some (.int behind), none, none, none, none, none, none, none]) (S := S) (S0 := S) (xs := enumW 0 its) (g := [(a, its)])
    (fun i env S2 => ∃ v3 v4 v5 v6 v7 v8 v9 mid, env = [some (.ref a0), some (.ref a), some (.int behind), v3, v4, v5, v6, v7, v8, v9] ∧ PR S2 a0 PA EA qs (pre ++ (mid ++ (raws pr (ss.drop i) ++ post))) ∧ S2.length = S.length ∧ (∀ x, OkA EA qs x ∨ x ≤ EA → S2[x]? = S[x]?) ∧ mid.length = Sts.sz (ss.take i) ∧ mid ++ lays pr (pre.length + Sts.sz (ss.take i)) behind (ss.drop i) = lays pr pre.length behind ss)
    (by simp [evI, evE, hS]) (fun j env S2 _ ⟨_, _, _, _, _, _, _, _, _, _, _, ag, _⟩ p hp => by
      have : p = (a, its) := by simpa using hp
      subst this
      rw [ag a (.inl ha)]
      exact hS) ⟨none, none, none, none, none, none, none, [], rfl, by simpa using h, rfl, fun _ _ => rfl, rfl, by simp [Sts.sz]⟩
    (fun i x env S2 hx ⟨v3, v4, v5, v6, v7, v8, v9, mid, e1, p1, p2, p3, p4, p5⟩ => by
      subst e1
      have hil : i < ss.length := by
        have := (List.getElem?_eq_some_iff.mp hx).1
        rwa [enumW_len, FRs_len _ _ _ hf] at this
      obtain ⟨s, hs⟩ : ∃ s, ss[i]? = some s := ⟨ss[i], by simp⟩
      obtain ⟨b, xs, g1, g2, g3, g4⟩ := FRs_get _ _ _ _ hf hs
      have hx2 := enumW_get (k := 0) g1
      rw [hx, Nat.zero_add] at hx2
      cases hx2
      have hdr : ss.drop i = s :: ss.drop (i + 1) := by
        obtain ⟨h1, rfl⟩ := List.getElem?_eq_some_iff.mp hs
        exact List.drop_eq_getElem_cons h1
      rw [hdr] at p1 p5
      rw [raws_cons] at p1
      rw [lays, lay_eq] at p5
      have hb := p3 b (.inl g2)
      rw [g3] at hb
      have hS2a : S2[a]? = some (.lst its) := by rw [p3 a (.inl ha)]; exact hS
      have hpl : (pre ++ mid).length = pre.length + Sts.sz (ss.take i) := by simp [p4]
      generalize hplace : pre.length + Sts.sz (ss.take i) = place at hpl g4 p5 ⊢
      generalize hfol : (if (ss.drop (i + 1)).isEmpty then behind else place + s.sz) = fol at p5
      -- the follower
      have hits := FRs_len _ _ _ hf
      have e6 : exSs P (clOf P k) (.cons (.asg (.nm 6) (.var 2)) (.cons (.if_ (.cmp .lt (.bin .add (.var 3) (.int 1)) (.blt .len (.cons (.var 1) .nil))) (.cons (.asg (.nm 6) (.idx (.idx (.var 1) (.bin .add (.var 3) (.int 1))) (.int 0))) .nil) .nil) .nil)) [some (.ref a0), some (.ref a), some (.int behind), some (.int i), some (.int place), some (.ref b), v6, v7, v8, v9] S2 = .ok (.nx [some (.ref a0), some (.ref a), some (.int behind), some (.int i), some (.int place), some (.ref b), some (.int fol), v7, v8, v9]) S2 := by
        have gl := bltW_len_ref hS2a
        by_cases hlt : i + 1 < ss.length
        · obtain ⟨s2, hs2⟩ : ∃ s, ss[i + 1]? = some s := ⟨ss[i + 1], by simp⟩
          obtain ⟨b2, xs2, k1, _⟩ := FRs_get _ _ _ _ hf hs2
          have gi := idxW_ref (i := ((i + 1 : Nat) : Int)) hS2a
          rw [atI_nat k1] at gi
          have hne : (ss.drop (i + 1)).isEmpty = false := by
            rw [List.isEmpty_eq_false_iff]
            intro z
            have := congrArg List.length z
            simp at this
            omega
          rw [hne] at hfol
          have hfol' : pre.length + Sts.sz (ss.take (i + 1)) = fol := by
            rw [szs_take hs, ← hfol, ← hplace]
            simp
            omega
          rw [hfol'] at gi
          have hc : ((i : Int) + 1 < (its.length : Int)) := by omega
          have gi' : idxW S2 (.ref a) (.int ((i : Int) + 1)) = some (.tup [.int fol, .ref b2]) := gi
          simp [exSs, exS, evE, evEs, gl, hc, gi']
        · have hem : (ss.drop (i + 1)).isEmpty = true := by
            rw [List.isEmpty_iff, List.drop_eq_nil_iff]
            omega
          rw [hem] at hfol
          simp at hfol
          subst hfol
          have hc : ¬ ((i : Int) + 1 < (its.length : Int)) := by omega
          simp [exSs, exS, evE, evEs, gl, hc]
      obtain ⟨q, t1, t2, t3⟩ := p1.at_ place ⟨pr, some s, [], none⟩ (by
        rw [← List.append_assoc, List.getElem?_append_right (by rw [hpl]; exact Nat.le_refl _), hpl]
        simp)
      have hqm := List.mem_of_getElem? t1
      have hql := p1.lo q hqm
      have hqh := p1.hi hqm
      have hset := setF_at (P := P) (f := 29) (v := .int fol) t2 (bf 29 (by simp)) (by simp)
      generalize hS3 : S2.set q (.ins 7 (putW [20, 26, 23, 29] [.int pr, (⟨pr, some s, [], none⟩ : Pt).stw, .ref (q + 1), (⟨pr, some s, [], none⟩ : Pt).fow] 29 (.int fol)).1 (putW [20, 26, 23, 29] [.int pr, (⟨pr, some s, [], none⟩ : Pt).stw, .ref (q + 1), (⟨pr, some s, [], none⟩ : Pt).fow] 29 (.int fol)).2) = S3 at hset
      have h3q : S3[q]? = some (.ins 7 [20, 26, 23, 29] [.int pr, s.w, .ref (q + 1), .int fol]) := by
        rw [← hS3, List.getElem?_set_self (by omega)]
        simp [putW, Pt.stw]
      have h3x : ∀ x, x ≠ q → S3[x]? = S2[x]? := fun x n => by rw [← hS3, List.getElem?_set_ne (Ne.symm n)]
      have h3l : S3.length = S2.length := by rw [← hS3]; simp
      have p1' : PR S3 a0 PA EA qs ((pre ++ mid) ++ ⟨pr, some s, [], some fol⟩ :: (rawB pr (bods s) ++ (raws pr (ss.drop (i + 1)) ++ post))) := by
        have p1'' : PR S2 a0 PA EA qs ((pre ++ mid) ++ ⟨pr, some s, [], none⟩ :: (rawB pr (bods s) ++ (raws pr (ss.drop (i + 1)) ++ post))) := by simpa using p1
        refine p1''.upd (by rw [hpl]; exact t1) (by simpa [Pt.stw, Pt.fow] using h3q) (by rw [h3x _ (by omega)]; exact t3) (fun x n1 n2 => h3x x n1) (by omega)
      have agr : ∀ x, OkA EA qs x ∨ x ≤ EA → S3[x]? = S[x]? := fun x hxx => by
        rw [h3x, p3 x hxx]
        rintro rfl
        rcases hxx with hxx | hxx
        · exact (hxx.2 x hqm).1 rfl
        · omega
      obtain ⟨S4, v9', r1, r2, r3, r4⟩ := link_in (P := P) (k := k) L (n := n) (back := backS s place fol) (Bs := bods s) (by cases s <;> simp [bods]) (fun B hB => by
        have h1 := nd_bods hB
        have h2 := nd_mem (List.mem_of_getElem? hs)
        obtain ⟨n', rfl⟩ : ∃ n', n = n' + 1 := ⟨n - 1, by omega⟩
        exact ⟨n', rfl, ih n' B rfl (by omega)⟩) p1' (by rw [hpl]; exact t1) g2 (by rw [agr b (.inl g2)]; exact g3) (by
        rw [hpl]
        exact FRb_mono (fun x o ho hx => ⟨by rw [agr x (.inl ho)]; exact hx, ho⟩) (fun a b c z => FI_mono (fun x o ho hx => ⟨by rw [agr x (.inl ho)]; exact hx, ho⟩) _ _ _ _ z) _ _ _ g4) (v1 := some (.ref a)) (v2 := some (.int behind)) (v3 := some (.int i)) (v4 := some (.int place)) (v6 := some (.int fol)) (v9 := v9)
      rw [hpl] at r2
      refine ⟨[some (.ref a0), some (.ref a), some (.int behind), some (.int i), some (.int place), some (.ref b), v6, v7, v8, v9], [some (.ref a0), some (.ref a), some (.int behind), some (.int i), some (.int place), some (.ref b), some (.int fol), some (.ref q), some (.int (backS s place fol)), v9'], S4, rfl, .inl ?_, _, _, _, _, _, _, _, mid ++ ⟨pr, some s, entsB (place + 1) (backS s place fol) (bods s), some fol⟩ :: layB pr (place + 1) (backS s place fol) (bods s), rfl, ?_, by rw [r3, h3l, p2], ?_, ?_, ?_⟩
      · have hsplit : ∀ {s1 s2 : CS} {ss : CSs} {env env1 : Env} {S S1 : Sto}, exSs P (clOf P k) (.cons s1 (.cons s2 .nil)) env S = .ok (.nx env1) S1 → exSs P (clOf P k) (.cons s1 (.cons s2 ss)) env S = exSs P (clOf P k) ss env1 S1 := by
          intro s1 s2 ss env env1 S S1 h
          simp only [exSs] at h ⊢
          cases c1 : exS P (clOf P k) s1 env S with
          | ok fl Sx =>
            rw [c1] at h
            simp only [R.bind_ok_] at h ⊢
            cases fl with
            | nx e =>
              simp only at h ⊢
              cases c2 : exS P (clOf P k) s2 e Sx with
              | ok fl2 Sy =>
                rw [c2] at h
                simp only [R.bind_ok_] at h ⊢
                cases fl2 with
                | nx e2 => simp only at h ⊢; cases h; rfl
                | _ => simp at h
              | exc _ _ _ => rw [c2] at h; simp [R.bind] at h
              | bad => rw [c2] at h; simp [R.bind] at h
            | _ => simp at h
          | exc _ _ _ => rw [c1] at h; simp [R.bind] at h
          | bad => rw [c1] at h; simp [R.bind] at h
        rw [hsplit e6]
        have g19 : getF S2 (.ref a0) 19 = some (.ref PA) := by rw [getF_ref p1.self]; simp
        have gq := idxW_ref (i := (place : Int)) p1.pa
        rw [atI_nat (x := W.ref q) (by simp [t1])] at gq
        rw [ss_nx (env' := [some (.ref a0), some (.ref a), some (.int behind), some (.int i), some (.int place), some (.ref b), some (.int fol), some (.ref q), v8, v9]) (S' := S2) (by simp [exS, evE, g19, gq])]
        rw [ss_nx (env' := [some (.ref a0), some (.ref a), some (.int behind), some (.int i), some (.int place), some (.ref b), some (.int fol), some (.ref q), v8, v9]) (S' := S3) (by simp [exS, evE, hset])]
        rw [ss_nx (env' := [some (.ref a0), some (.ref a), some (.int behind), some (.int i), some (.int place), some (.ref b), some (.int fol), some (.ref q), some (.int fol), v9]) (S' := S3) (by simp [exS, evE])]
        rw [ss_nx (env' := [some (.ref a0), some (.ref a), some (.int behind), some (.int i), some (.int place), some (.ref b), some (.int fol), some (.ref q), some (.int (backS s place fol)), v9]) (S' := S3) (by
          have g26 : getF S3 (.ref q) 26 = some s.w := by rw [getF_ref h3q]; simp
          have l2 : (2 : Nat) ≤ sizeLine := by decide
          cases s <;> simp [exS, exSs, evE, evEs, g26, St.w, L.tag, inW, flatW, eqF, l2, backS])]
        rw [ss_nx r1, exSs]
      · simpa using r2
      · intro x hxx
        rw [r4 x hxx]
        exact agr x hxx
      · have : (layB pr (place + 1) (backS s place fol) (bods s)).length = Bods.sz (bods s) := by
          have := lay_len pr s place fol
          rw [lay_eq, sz_bods] at this
          simp at this
          omega
        rw [List.length_append, List.length_cons, this, p4, szs_take hs, sz_bods]
        omega
      · rw [szs_take hs, ← Nat.add_assoc, hplace]
        simpa using p5)
  subst he
  rw [enumW_len, FRs_len _ _ _ hf] at hp h4
  simp only [List.drop_length, raws, lays, List.append_nil, List.nil_append] at hp h4
  subst h4
  refine ⟨S', ?_, hp, h1, h2⟩
  refine run_nx L.f41 rfl rfl (env0 := [some (.ref a0), some (.ref a), some (.int behind), none, none, none, none, none, none, none]) (env1 := [some (.ref a0), some (.ref a), some (.int behind), v3, v4, v5, v6, v7, v8, v9]) (S1 := S') ?_ rfl
  unfold d_Points_link
  dsimp only
  rw [ss_nx e, exSs]
theorem link_ok (L : LPts P) {a0 PA EA pr : Nat} : ∀ (n : Nat) (ss : List St) (k : Nat), Sts.nd ss ≤ n → n + 2 ≤ k → LnkSpec P (k + 1) a0 PA EA pr n ss := by
  intro n
  induction n with
  | zero =>
    exact fun ss k hd hk => link_body L 0 ss k hd hk fun n' ss' e => by omega
  | succ n ih =>
    exact fun ss k hd hk => link_body L (n + 1) ss k hd hk fun n' ss' e hd' => by
        obtain rfl : n = n' := by omega
        obtain ⟨k, rfl⟩ : ∃ k', k = k' + 1 := ⟨k - 1, by omega⟩
        exact ih ss' k hd' (by omega)
end
end Eng

set_option Elab.async false
set_option linter.all false
set_option maxHeartbeats 4000000
set_option maxRecDepth 100000
/-! E54: Points and Walker are made. -/
namespace Eng
open PySem L2
theorem PR.setEA {S : Sto} {a0 PA EA : Nat} {qs : List Nat} {pts : List Pt} (h : PR S a0 PA EA qs pts) {o : Ob} : PR (S.set EA o) a0 PA EA qs pts where
  self := by have := h.o1; have := h.o2; rw [List.getElem?_set_ne (by omega)]; exact h.self
  pa := by have := h.o2; rw [List.getElem?_set_ne (by omega)]; exact h.pa
  len := h.len
  at_ := fun i t e => by
    obtain ⟨q, e1, e2, e3⟩ := h.at_ i t e
    have hq := h.lo q (List.mem_of_getElem? e1)
    exact ⟨q, e1, by rw [List.getElem?_set_ne (by omega)]; exact e2, by rw [List.getElem?_set_ne (by omega)]; exact e3⟩
  gap := h.gap
  lo := h.lo
  o1 := h.o1
  o2 := h.o2
  ea := by have := h.ea; simpa using this
theorem exit_keep {S S1 : Sto} {w w' : W} (h : ∀ x, x < S.length → S1[x]? = S[x]?) (hl : S.length ≤ S1.length) (hw : resW S.length (deref S.length (S1.drop S.length) 8) w = some w') : exitR S w S1 = .ok w' S := by
  have e : S1 = S ++ S1.drop S.length := by
    refine List.ext_getElem? fun i => ?_
    by_cases hi : i < S.length
    · rw [List.getElem?_append_left hi, h i hi]
    · rw [List.getElem?_append_right (by omega), List.getElem?_drop]
      congr 1
      omega
  generalize S1.drop S.length = Rg at e hw
  rw [e]
  exact exit_same hw
theorem resWs_map {n : Nat} {d : Nat → Option W} : ∀ {pts : List Pt} {qs : List Nat}, qs.length = pts.length → (∀ (i : Nat) (t : Pt), pts[i]? = some t → ∃ q, qs[i]? = some q ∧ resW n d (.ref q) = some t.w) → resWs n d (qs.map W.ref) = some (pts.map Pt.w)
  | [], [], _, _ => rfl
  | t :: pts, q :: qs, hl, h => by
    obtain ⟨q', e1, e2⟩ := h 0 t rfl
    cases e1
    have ih := resWs_map (n := n) (d := d) (pts := pts) (qs := qs) (by simpa using hl) fun i t e => by
      obtain ⟨q', e1, e2⟩ := h (i + 1) t (by simpa using e)
      exact ⟨q', by simpa using e1, e2⟩
    simp [resWs, e2, ih]
/-- the points are read out -/
theorem PR.out {S1 : Sto} {N : Nat} {qs : List Nat} {pts : List Pt} {ents : List Nat} (h : PR S1 N (N + 1) (N + 2) qs pts) (he : S1[N + 2]? = some (.lst (ents.map iw))) : resW N (deref N (S1.drop N) 8) (.ref N) = some (Mp.w ⟨pts, ents⟩) := by
  have at_ : ∀ x, N ≤ x → (S1.drop N)[x - N]? = S1[x]? := fun x hx => by rw [List.getElem?_drop]; congr 1; omega
  rw [resW_ref (Nat.le_refl _)]
  have d2 : deref N (S1.drop N) 7 (N + 2) = some (.lst (ents.map iw)) := deref_lst (by rw [at_ _ (by omega)]; exact he) (pus_at (map_pu iw_pu) _)
  have d1 : deref N (S1.drop N) 7 (N + 1) = some (.lst (pts.map Pt.w)) := by
    unfold deref
    rw [at_ _ (by omega), h.pa]
    dsimp only
    rw [resWs_map h.len]
    · rfl
    · intro i t ht
      obtain ⟨q, e1, e2, e3⟩ := h.at_ i t ht
      have hq := h.lo q (List.mem_of_getElem? e1)
      refine ⟨q, e1, ?_⟩
      rw [resW_ref (by omega)]
      unfold deref
      rw [at_ _ (by omega), e2]
      dsimp only
      have d3 : deref N (S1.drop N) 5 (q + 1) = some (.lst (t.en.map iw)) := deref_lst (by rw [at_ _ (by omega)]; exact e3) (pus_at (map_pu iw_pu) _)
      have h2 : Pu t.stw := by
        unfold Pt.stw
        split
        · exact St.pu _
        · rfl
      have h3 : Pu t.fow := by
        unfold Pt.fow
        split <;> rfl
      have r : resWs N (deref N (S1.drop N) 5) [.int t.pr, t.stw, .ref (q + 1), t.fow] = some [.int t.pr, t.stw, .lst (t.en.map iw), t.fow] := by
        simp only [resWs, resW_ref (show N ≤ q + 1 by omega), d3, res_below (h2.at N), res_below (h3.at N)]
        simp [resW]
      rw [r]
      rfl
  unfold deref
  rw [at_ _ (by omega), h.self]
  dsimp only
  have r : resWs N (deref N (S1.drop N) 7) [.ref (N + 1), .ref (N + 2)] = some [.lst (pts.map Pt.w), .lst (ents.map iw)] := by
    simp only [resWs, resW_ref (show N ≤ N + 1 by omega), resW_ref (show N ≤ N + 2 by omega), d1, d2]
  rw [r]
  rfl
section
variable {P : Prog} {k : Nat}
theorem pts_loop (L : LPts P) {p : Pg} {n : Nat} (hnd : ∀ x ∈ p.procs, Sts.nd x.2 ≤ n) (hsz : (mpOf p.procs).pts.length ≤ 5000) (hpn : p.procs.length ≤ 1000) (hk : n + 8 ≤ k) {S : Sto} :
    ∃ S' qs, run P (k + 1) 32 [.ref S.length, p.w] (S ++ [.ins 6 [] []]) = .ok .non S' ∧ PR S' S.length (S.length + 1) (S.length + 2) qs (mpOf p.procs).pts ∧ S'[S.length + 2]? = some (.lst ((mpOf p.procs).ents.map iw)) ∧ (∀ x, x < S.length → S'[x]? = S[x]?) ∧ S.length ≤ S'.length := by
  obtain ⟨k, rfl⟩ : ∃ k', k = k' + 2 := ⟨k - 2, by omega⟩
  have bf := fun f hf => L.psF f hf
  have l5 : (5003 : Nat) ≤ sizeLine := by decide
  generalize hN : S.length = N
  obtain ⟨env', S', e, v2, v3, v4, v5, v6, v7, qs, he, hp, hen, hkp⟩ := for_go (P := P) (C := clOf P (k + 2)) (t := .tp [(.nm 2), (.tp [(.nm 3), (.nm 4)])]) (it := .enm (.fld (.var 1) 2))
    (b := (.cons (.asg (.nm 5) (.blt .len (.cons (.fld (.var 0) 19) .nil))) (.cons (.asg (.nm 6) (.meth (.var 0) 42 (.cons (.var 2) (.cons (.var 4) .nil)))) (.cons (.asg (.nm 7) (.blt .len (.cons (.fld (.var 0) 19) .nil))) (.cons (.expr (.bm .append (.fld (.var 0) 19) (.cons (.make false 7 (.cons (.var 2) (.cons .non .nil))) .nil))) (.cons (.expr (.meth (.var 0) 43 (.cons (.var 6) (.cons (.var 7) .nil)))) (.cons (.expr (.bm .append (.fld (.var 0) 23) (.cons (.var 5) .nil))) .nil)))))))
    (env := [some (.ref N), some p.w, none, none, none, none, none, none]) (S := S ++ [.ins 6 [19, 23] [.ref (N + 1), .ref (N + 2)], .lst [], .lst []]) (S0 := S ++ [.ins 6 [19, 23] [.ref (N + 1), .ref (N + 2)], .lst [], .lst []]) (xs := enumW 0 (p.procs.map prw)) (g := [])
    (fun i env S1 => ∃ v2 v3 v4 v5 v6 v7 qs, env = [some (.ref N), some p.w, v2, v3, v4, v5, v6, v7] ∧ PR S1 N (N + 1) (N + 2) qs (ptsFrom 0 0 (p.procs.take i)) ∧ S1[N + 2]? = some (.lst ((entsFrom 0 (p.procs.take i)).map iw)) ∧ ∀ x, x < N → S1[x]? = S[x]?)
    (by simp [evI, evE, Pg.w]) (fun _ _ _ _ _ => gOk_nil)
    ⟨none, none, none, none, none, none, [], rfl, ⟨by subst hN; simp, by subst hN; simp, rfl, (fun i t h => by simp [ptsFrom] at h), List.Pairwise.nil, (fun q hq => by cases hq), by omega, by omega, by simp; omega⟩, by subst hN; simp [entsFrom], fun x hx => by rw [List.getElem?_append_left (by omega)]⟩
    (fun i x env S1 hx ⟨v2, v3, v4, v5, v6, v7, qs, e1, p1, p2, p3⟩ => by
      subst e1
      have hil : i < p.procs.length := by
        have := (List.getElem?_eq_some_iff.mp hx).1
        rwa [enumW_len, List.length_map] at this
      obtain ⟨pc, hpc⟩ : ∃ pc, p.procs[i]? = some pc := ⟨p.procs[i], by simp⟩
      have hx2 := enumW_get (k := 0) (xs := p.procs.map prw) (i := i) (w := prw pc) (by simp [hpc])
      rw [hx, Nat.zero_add] at hx2
      cases hx2
      obtain ⟨lc, body⟩ := pc
      have htk : p.procs.take (i + 1) = p.procs.take i ++ [(lc, body)] := by rw [List.take_add_one, hpc]; rfl
      have hpf := ptsFrom_append [(lc, body)] (p.procs.take i) 0 0
      have hef := entsFrom_append [(lc, body)] (p.procs.take i) 0 0
      rw [← htk] at hpf hef
      have hti : (p.procs.take i).length = i := by rw [List.length_take]; omega
      rw [hti] at hpf
      simp only [Nat.zero_add] at hpf hef
      have hle : (ptsFrom 0 0 (p.procs.take (i + 1))).length ≤ 5000 := by
        have h1 := ptsFrom_append (p.procs.drop (i + 1)) (p.procs.take (i + 1)) 0 0
        rw [List.take_append_drop] at h1
        have h2 : (ptsFrom 0 0 p.procs).length ≤ 5000 := hsz
        rw [h1, List.length_append] at h2
        omega
      rw [hpf]
      rw [hpf] at hle
      rw [hef]
      generalize ptsFrom 0 0 (p.procs.take i) = pts at *
      generalize entsFrom 0 (p.procs.take i) = ents at *
      simp only [ptsFrom, entsFrom] at hle ⊢
      have hle2 : pts.length + Sts.sz body ≤ 4999 := by simp [lays_len] at hle; omega
      have hbd := hnd _ (List.mem_of_getElem? hpc)
      dsimp only at hbd
      obtain ⟨S2, q2, items, r1, r2, r3, r4, r5, r6⟩ := addb_ok (P := P) L (a0 := N) (PA := N + 1) (EA := N + 2) (pr := i) n body (k + 1) hbd (by omega) S1 qs pts p1 (by omega)
      have hea := p1.ea
      have hl12 := r6.1
      have hadd := r2.add (pr := i) (st := none) (stw := .non) rfl
      obtain ⟨S4, hS4⟩ : ∃ S4, S4 = addPt S2 (N + 1) (qs ++ q2) i .non := ⟨_, rfl⟩
      rw [← hS4] at hadd
      have hS4l : S4.length = S2.length + 2 := by rw [hS4]; simp
      have k4 : Kp S2 S4 (N + 1) := by rw [hS4]; exact Kp.app.set (.inr rfl)
      obtain ⟨S5, u1, u2, u3, u4⟩ := link_ok (P := P) L (a0 := N) (PA := N + 1) (EA := N + 2) (pr := i) n body (k + 1) hbd (by omega) S4 (qs ++ q2 ++ [S2.length]) pts [⟨i, none, [], none⟩] S1.length items (pts.length + Sts.sz body) (by simpa using hadd) (by
          have := fresh_ok p1 r5
          exact this.more (Nat.le_refl _) (n := S2.length) (by have := (List.getElem?_eq_some_iff.mp r3).1; omega) (fun q hq => by simp at hq; omega)) (by
          rw [k4.2 _ (List.getElem?_eq_some_iff.mp r3).1 (by omega)]; exact r3) (by
          refine FR_mono (fun x o ho hx => ⟨?_, ?_⟩) _ _ _ _ r4
          · rw [k4.2 _ (List.getElem?_eq_some_iff.mp hx).1 (by have := ho.1; omega)]; exact hx
          · exact ho.more (by omega) (n := S2.length) (List.getElem?_eq_some_iff.mp hx).1 (fun q hq => by simp at hq; omega))
      have hS5e : S5[N + 2]? = some (.lst (ents.map iw)) := by rw [u4 _ (.inr (Nat.le_refl _)), k4.2 _ (by omega) (by omega), r6.2 _ (by omega) (by omega)]; exact p2
      have hel : ents.length ≤ 1000 := by
        have h1 : ∀ (xs : List (Nat × List St)) (b : Nat), (entsFrom b xs).length = xs.length := by
          intro xs
          induction xs with
          | nil => intro b; rfl
          | cons x xs ih => intro b; simp [entsFrom, ih]
        have h2 := congrArg List.length hef
        rw [h1, List.length_append, h1] at h2
        simp at h2
        omega
      have ha5 := append_ref (x := .int pts.length) hS5e (by rw [List.length_map]; omega)
      refine ⟨[some (.ref N), some p.w, some (.int i), some (.int lc), some (.tup (Sts.w body)), v5, v6, v7], [some (.ref N), some p.w, some (.int i), some (.int lc), some (.tup (Sts.w body)), some (.int pts.length), some (.ref S1.length), some (.int (pts.length + Sts.sz body : Nat))], S5.set (N + 2) (.lst (ents.map iw ++ [.int pts.length])), by simp [prw], .inl ?_, _, _, _, _, _, _, qs ++ q2 ++ [S2.length], rfl, ?_, ?_, ?_⟩
      · have g19 : getF S1 (.ref N) 19 = some (.ref (N + 1)) := by rw [getF_ref p1.self]; simp
        have gl : bltW S1 .len [.ref (N + 1)] = some (.int pts.length) := by rw [bltW_len_ref p1.pa, List.length_map, p1.len]
        rw [ss_nx (env' := [some (.ref N), some p.w, some (.int i), some (.int lc), some (.tup (Sts.w body)), some (.int pts.length), v6, v7]) (S' := S1) (by simp [exS, evE, evEs, g19, gl])]
        have hself := p1.self
        rw [ss_nx (env' := [some (.ref N), some p.w, some (.int i), some (.int lc), some (.tup (Sts.w body)), some (.int pts.length), some (.ref S1.length), v7]) (S' := S2) (by simp [exS, evE, evEs, hself, L.m42, clOf_fn, full_no L.toLib (f := 39) (by decide), r1])]
        have g19' : getF S2 (.ref N) 19 = some (.ref (N + 1)) := by rw [getF_ref r2.self]; simp
        have gl' : bltW S2 .len [.ref (N + 1)] = some (.int (pts.length + Sts.sz body : Nat)) := by rw [bltW_len_ref r2.pa, List.length_map, r2.len]; simp [raws_len]
        generalize hen : pts.length + Sts.sz body = en at gl' u1 ⊢
        rw [ss_nx (env' := [some (.ref N), some p.w, some (.int i), some (.int lc), some (.tup (Sts.w body)), some (.int pts.length), some (.ref S1.length), some (.int en)]) (S' := S2) (by simp [exS, evE, evEs, g19', gl'])]
        obtain ⟨Sb, hSb⟩ : ∃ Sb : Sto, Sb = S2 ++ [Ob.ins 7 [20, 26, 23, 29] [.int i, .non, .ref (S2.length + 1), .non], Ob.lst []] := ⟨_, rfl⟩
        have hmk : mkR P (clOf P (k + 2)) false 7 [.int i, .non] S2 = .ok (.ref S2.length) Sb := by rw [hSb]; exact mk_point L
        have pb : PR Sb N (N + 1) (N + 2) (qs ++ q2) (pts ++ raws i body) := by rw [hSb]; exact r2.app
        have hb := bmK_ref r2.pa
        have ha := append_ref (x := .ref S2.length) pb.pa (by rw [List.length_map, r2.len]; simp [raws_len]; omega)
        have hset : Sb.set (N + 1) (.lst ((qs ++ q2).map W.ref ++ [.ref S2.length])) = S4 := by rw [hSb, hS4]
        rw [hset] at ha
        rw [ss_nx (env' := [some (.ref N), some p.w, some (.int i), some (.int lc), some (.tup (Sts.w body)), some (.int pts.length), some (.ref S1.length), some (.int en)]) (S' := S4) (by simp [exS, evE, evEs, g19', hb, hmk, ha])]
        have hself4 := hadd.self
        rw [ss_nx (env' := [some (.ref N), some p.w, some (.int i), some (.int lc), some (.tup (Sts.w body)), some (.int pts.length), some (.ref S1.length), some (.int en)]) (S' := S5) (by simp [exS, evE, evEs, hself4, L.m43, clOf_fn, full_no L.toLib (f := 41) (by decide), u1])]
        have g23 : getF S5 (.ref N) 23 = some (.ref (N + 2)) := by rw [getF_ref u2.self]; simp
        have hb5 := bmK_ref hS5e
        simp [exSs, exS, evE, evEs, g23, hb5, ha5]
      · have := u2.setEA (o := .lst (ents.map iw ++ [.int pts.length]))
        simpa using this
      · rw [List.getElem?_set_self (by have := (List.getElem?_eq_some_iff.mp hS5e).1; exact this)]
        simp [iw]
      · intro x hx
        rw [List.getElem?_set_ne (by omega), u4 x (.inr (by omega)), k4.2 _ (by omega) (by omega), r6.2 _ (by omega) (by omega)]
        exact p3 x hx)
  subst he
  rw [enumW_len, List.length_map, List.take_length] at hp hen
  refine ⟨S', qs, ?_, hp, hen, hkp, by have := hp.ea; omega⟩
  refine run_nx L.f32 rfl rfl (env0 := [some (.ref N), some p.w, none, none, none, none, none, none]) (env1 := [some (.ref N), some p.w, v2, v3, v4, v5, v6, v7]) (S1 := S') ?_ rfl
  unfold d_Points___init__
  dsimp only
  subst hN
  rw [ss_nx (env' := [some (.ref S.length), some p.w, none, none, none, none, none, none]) (S' := S ++ [.ins 6 [19] [.ref (S.length + 1)], .lst []]) (by simp [exS, evE, evL, evEs, setF_in (bf 19 (by simp)), putW])]
  rw [ss_nx (env' := [some (.ref S.length), some p.w, none, none, none, none, none, none]) (S' := S ++ [.ins 6 [19, 23] [.ref (S.length + 1), .ref (S.length + 2)], .lst [], .lst []]) (by simp [exS, evE, evL, evEs, setF_in (bf 23 (by simp)), putW])]
  rw [ss_nx e, exSs]
theorem walker_made (L : LPts P) {p : Pg} {n : Nat} (hnd : ∀ x ∈ p.procs, Sts.nd x.2 ≤ n) (hsz : (mpOf p.procs).pts.length ≤ 5000) (hpn : p.procs.length ≤ 1000) : MkOk P p (mpOf p.procs) (n + 14) := by
  intro k hk S
  obtain ⟨k, rfl⟩ : ∃ k', k = k' + 4 := ⟨k - 4, by omega⟩
  have bf := fun f hf => L.wkF f hf
  have pm : ∀ S, mkR P (clOf P (k + 2)) true 6 [p.w] S = .ok (Mp.w (mpOf p.procs)) S := fun S => by
    obtain ⟨S', qs, r1, r2, r3, r4, r5⟩ := pts_loop (P := P) (k := k) L hnd hsz hpn (by omega) (S := S)
    unfold mkR
    rw [L.i6]
    dsimp only
    rw [full_no L.toLib (by decide), ini_eq, r1]
    simp only [R.bind_ok_, if_true]
    exact exit_keep r4 r5 (r2.out r3)
  refine mk_pu (k := k + 3) L.i4 (full_no L.toLib (by decide)) (ns := [15, 18]) (vs := [p.w, Mp.w (mpOf p.procs)]) ?_ ?_
  · refine run_nx L.f19 rfl rfl (env0 := [some (.ref S.length), some p.w]) (env1 := [some (.ref S.length), some p.w]) (S1 := S ++ [.ins 4 [15, 18] [p.w, Mp.w (mpOf p.procs)]]) ?_ rfl
    unfold d_Walker___init__
    simp [exSs, exS, evE, evEs, setF_self (bf 15 (by simp)), setF_self (bf 18 (by simp)), putW, pm]
  · intro v hv
    simp at hv
    rcases hv with rfl | rfl
    · exact pgw_pu p
    · exact mpw_pu _
end
end Eng

set_option Elab.async false
set_option linter.all false
set_option maxHeartbeats 4000000
set_option maxRecDepth 100000
/-! E55: well formed programs, their points (plain). -/
namespace Eng
open PySem L2
mutual
def St.wf (a b np : Nat) : St → Prop
  | .set g i e => i < (if g then a else b) ∧ e.wf a b ∧ e.dp ≤ 10
  | .free g i => i < (if g then a else b)
  | .call p => p < np
  | .pass n => n ≤ 999
  | .ret => True
  | .ifs e x y => e.wf a b ∧ e.dp ≤ 10 ∧ Sts.wf a b np x ∧ Sts.wf a b np y
  | .either x y => Sts.wf a b np x ∧ Sts.wf a b np y
  | .wh e x => e.wf a b ∧ e.dp ≤ 10 ∧ Sts.wf a b np x
  | .rep x => Sts.wf a b np x
def Sts.wf (a b np : Nat) : List St → Prop
  | [] => True
  | s :: ss => s.wf a b np ∧ Sts.wf a b np ss
end
/-- what is known of a point whose procedure has the points from lo to hi -/
structure PtIn (t : Pt) (pr a b np lo hi : Nat) : Prop where
  pr : t.pr = pr
  ok : t.ok a b
  call : ∀ q, t.st = some (.call q) → q < np
  fo : ∀ f, t.fo = some f → lo ≤ f ∧ f ≤ hi
  en : ∀ e ∈ t.en, lo ≤ e ∧ e ≤ hi
theorem entB_in {b : List St} {base back lo hi : Nat} (h1 : lo ≤ base ∧ base ≤ hi) (h2 : lo ≤ back ∧ back ≤ hi) : lo ≤ entB b base back ∧ entB b base back ≤ hi := by
  unfold entB
  split
  · exact h2
  · exact h1
mutual
theorem lay_in {pr a b np lo hi : Nat} : ∀ (s : St) (base f : Nat), s.wf a b np → lo ≤ base → base + s.sz ≤ hi → lo ≤ f ∧ f ≤ hi → ∀ t ∈ lay pr base f s, PtIn t pr a b np lo hi
  | .ifs e x y, base, f, w, h1, h2, h3, t, ht => by
    simp only [St.wf, St.sz] at w h2
    simp only [lay, List.mem_cons, List.mem_append] at ht
    rcases ht with rfl | ht | ht
    · refine ⟨rfl, ⟨by simp, w.1, w.2.1⟩, by simp, by simp; exact h3, fun e he => ?_⟩
      simp at he
      rcases he with rfl | rfl
      · exact entB_in (by omega) h3
      · exact entB_in (by omega) h3
    · exact lays_in x (base + 1) f w.2.2.1 (by omega) (by omega) h3 t ht
    · exact lays_in y (base + 1 + Sts.sz x) f w.2.2.2 (by omega) (by omega) h3 t ht
  | .either x y, base, f, w, h1, h2, h3, t, ht => by
    simp only [St.wf, St.sz] at w h2
    simp only [lay, List.mem_cons, List.mem_append] at ht
    rcases ht with rfl | ht | ht
    · refine ⟨rfl, by simp [Pt.ok], by simp, by simp; exact h3, fun e he => ?_⟩
      simp at he
      rcases he with rfl | rfl
      · exact entB_in (by omega) h3
      · exact entB_in (by omega) h3
    · exact lays_in x (base + 1) f w.1 (by omega) (by omega) h3 t ht
    · exact lays_in y (base + 1 + Sts.sz x) f w.2 (by omega) (by omega) h3 t ht
  | .wh e x, base, f, w, h1, h2, h3, t, ht => by
    simp only [St.wf, St.sz] at w h2
    simp only [lay, List.mem_cons] at ht
    rcases ht with rfl | ht
    · refine ⟨rfl, ⟨by simp, by simp, w.1, w.2.1⟩, by simp, by simp; exact h3, fun e he => ?_⟩
      simp at he
      subst he
      exact entB_in (by omega) (by omega)
    · exact lays_in x (base + 1) base w.2.2 (by omega) (by omega) (by omega) t ht
  | .rep x, base, f, w, h1, h2, h3, t, ht => by
    simp only [St.wf, St.sz] at w h2
    simp only [lay, List.mem_cons] at ht
    rcases ht with rfl | ht
    · refine ⟨rfl, by simp [Pt.ok], by simp, by simp; exact h3, fun e he => ?_⟩
      simp at he
      subst he
      exact entB_in (by omega) (by omega)
    · exact lays_in x (base + 1) base w (by omega) (by omega) (by omega) t ht
  | .set g i e, base, f, w, h1, h2, h3, t, ht => by
    simp only [lay, List.mem_singleton] at ht
    subst ht
    simp only [St.wf] at w
    exact ⟨rfl, ⟨w.1, w.2.1, w.2.2, rfl⟩, by simp, by simp; exact h3, by simp⟩
  | .free g i, base, f, w, h1, h2, h3, t, ht => by
    simp only [lay, List.mem_singleton] at ht
    subst ht
    simp only [St.wf] at w
    exact ⟨rfl, ⟨w, rfl⟩, by simp, by simp; exact h3, by simp⟩
  | .call p, base, f, w, h1, h2, h3, t, ht => by
    simp only [lay, List.mem_singleton] at ht
    subst ht
    simp only [St.wf] at w
    exact ⟨rfl, rfl, by simp; exact w, by simp; exact h3, by simp⟩
  | .pass n, base, f, w, h1, h2, h3, t, ht => by
    simp only [lay, List.mem_singleton] at ht
    subst ht
    exact ⟨rfl, rfl, by simp, by simp; exact h3, by simp⟩
  | .ret, base, f, w, h1, h2, h3, t, ht => by
    simp only [lay, List.mem_singleton] at ht
    subst ht
    exact ⟨rfl, trivial, by simp, by simp; exact h3, by simp⟩
theorem lays_in {pr a b np lo hi : Nat} : ∀ (ss : List St) (base behind : Nat), Sts.wf a b np ss → lo ≤ base → base + Sts.sz ss ≤ hi → lo ≤ behind ∧ behind ≤ hi → ∀ t ∈ lays pr base behind ss, PtIn t pr a b np lo hi
  | [], _, _, _, _, _, _, t, ht => by simp [lays] at ht
  | s :: ss, base, behind, w, h1, h2, h3, t, ht => by
    simp only [Sts.wf, Sts.sz] at w h2
    simp only [lays, List.mem_append] at ht
    rcases ht with ht | ht
    · refine lay_in s base _ w.1 h1 (by omega) ?_ t ht
      split
      · exact h3
      · omega
    · exact lays_in ss (base + s.sz) behind w.2 (by omega) (by omega) h3 t ht
end
/-- where the points of the procedure j begin -/
def pbase (procs : List (Nat × List St)) (j : Nat) : Nat := (ptsFrom 0 0 (procs.take j)).length
theorem pts_split {procs : List (Nat × List St)} {j : Nat} {x : Nat × List St} (h : procs[j]? = some x) :
    ∃ post, ptsFrom 0 0 procs = ptsFrom 0 0 (procs.take j) ++ ((lays j (pbase procs j) (pbase procs j + Sts.sz x.2) x.2 ++ [⟨j, none, [], none⟩]) ++ post) ∧ pbase procs (j + 1) = pbase procs j + Sts.sz x.2 + 1 := by
  have hj := (List.getElem?_eq_some_iff.mp h).1
  have hlen : (procs.take j).length = j := by rw [List.length_take]; omega
  have htk : procs.take (j + 1) = procs.take j ++ [x] := by rw [List.take_add_one, h]; rfl
  have h1 := ptsFrom_append (procs.drop (j + 1)) (procs.take (j + 1)) 0 0
  rw [List.take_append_drop] at h1
  have h2 := ptsFrom_append [x] (procs.take j) 0 0
  rw [← htk, hlen] at h2
  simp only [Nat.zero_add, ptsFrom] at h2
  obtain ⟨post, h3⟩ : ∃ post, ptsFrom 0 0 procs = ptsFrom 0 0 (procs.take (j + 1)) ++ post := ⟨_, h1⟩
  refine ⟨post, ?_, ?_⟩
  · rw [h3, h2]
    simp only [List.append_assoc, List.cons_append, List.nil_append]
    rfl
  · unfold pbase
    rw [h2]
    simp [lays_len]
    omega
theorem ents_at {procs : List (Nat × List St)} {j : Nat} (h : j < procs.length) : (entsFrom 0 procs)[j]? = some (pbase procs j) := by
  have hlen : (procs.take j).length = j := by rw [List.length_take]; omega
  have hx : procs.drop j = procs[j] :: procs.drop (j + 1) := List.drop_eq_getElem_cons h
  have h1 := entsFrom_append (procs.drop j) (procs.take j) 0 0
  rw [List.take_append_drop, hx] at h1
  have hl : ∀ (xs : List (Nat × List St)) (b : Nat), (entsFrom b xs).length = xs.length := by
    intro xs
    induction xs with
    | nil => intro b; rfl
    | cons x xs ih => intro b; simp [entsFrom, ih]
  rw [h1, List.getElem?_append_right (by rw [hl, hlen]; exact Nat.le_refl _), hl, hlen]
  simp [entsFrom, pbase]
theorem ents_len {procs : List (Nat × List St)} : (entsFrom 0 procs).length = procs.length := by
  have hl : ∀ (xs : List (Nat × List St)) (b : Nat), (entsFrom b xs).length = xs.length := by
    intro xs
    induction xs with
    | nil => intro b; rfl
    | cons x xs ih => intro b; simp [entsFrom, ih]
  exact hl _ _
theorem pbase_len (procs : List (Nat × List St)) : pbase procs procs.length = (ptsFrom 0 0 procs).length := by rw [pbase, List.take_length]
/-- each point has its procedure -/
theorem pt_proc {procs : List (Nat × List St)} : ∀ (n i : Nat), n ≤ procs.length → i < pbase procs n → ∃ j x, procs[j]? = some x ∧ j < n ∧ pbase procs j ≤ i ∧ i ≤ pbase procs j + Sts.sz x.2
  | 0, i, _, h => by simp [pbase, ptsFrom] at h
  | n + 1, i, hn, h => by
    have hx : procs[n]? = some procs[n] := by simp
    obtain ⟨_, _, e⟩ := pts_split hx
    by_cases hi : i < pbase procs n
    · obtain ⟨j, x, h1, h2, h3⟩ := pt_proc n i (by omega) hi
      exact ⟨j, x, h1, by omega, h3⟩
    · exact ⟨n, _, hx, by omega, by omega, by omega⟩
structure Pg.Wf (p : Pg) : Prop where
  g : p.g ≤ 3
  np : 1 ≤ p.procs.length ∧ p.procs.length ≤ 6
  lc : ∀ x ∈ p.procs, x.1 ≤ 3
  st : ∀ x ∈ p.procs, Sts.wf p.g x.1 p.procs.length x.2
  nd : ∀ x ∈ p.procs, Sts.nd x.2 ≤ 30
  sz : (ptsFrom 0 0 p.procs).length ≤ 150
section
variable {p : Pg}
/-- a point of a procedure -/
theorem pt_at (w : p.Wf) {j : Nat} {x : Nat × List St} (h : p.procs[j]? = some x) {i : Nat} (h1 : pbase p.procs j ≤ i) (h2 : i ≤ pbase p.procs j + Sts.sz x.2) :
    ∃ t, (ptsFrom 0 0 p.procs)[i]? = some t ∧ PtIn t j p.g x.1 p.procs.length (pbase p.procs j) (pbase p.procs j + Sts.sz x.2) := by
  obtain ⟨post, e, _⟩ := pts_split h
  have hm := List.mem_of_getElem? h
  generalize hB : pbase p.procs j = B at *
  have hBl : (ptsFrom 0 0 (p.procs.take j)).length = B := hB
  have hlt : i - B < (lays j B (B + Sts.sz x.2) x.2 ++ [(⟨j, none, [], none⟩ : Pt)]).length := by simp [lays_len]; omega
  have e2 : (ptsFrom 0 0 p.procs)[i]? = some ((lays j B (B + Sts.sz x.2) x.2 ++ [(⟨j, none, [], none⟩ : Pt)])[i - B]) := by
    rw [e, List.getElem?_append_right (by omega), hBl, List.getElem?_append_left hlt, List.getElem?_eq_getElem hlt]
  refine ⟨_, e2, ?_⟩
  rcases List.mem_append.mp (List.getElem_mem hlt) with ht | ht
  · exact lays_in x.2 B (B + Sts.sz x.2) (w.st x hm) (Nat.le_refl _) (by omega) (by omega) _ ht
  · simp only [List.mem_singleton] at ht
    rw [ht]
    exact ⟨rfl, trivial, by simp, by simp, by simp⟩
abbrev csP (p : Pg) : List Nat := csOf p (mpOf p.procs)
theorem cs_at (w : p.Wf) {j : Nat} {x : Nat × List St} (h : p.procs[j]? = some x) {i : Nat} (h1 : pbase p.procs j ≤ i) (h2 : i ≤ pbase p.procs j + Sts.sz x.2) : i < (csP p).length ∧ (csP p).getD i 0 = x.1 := by
  obtain ⟨t, e, q⟩ := pt_at w h h1 h2
  have e' : (mpOf p.procs).pts[i]? = some t := e
  refine ⟨by simpa [csP, csOf] using (List.getElem?_eq_some_iff.mp e').1, ?_⟩
  simp [csP, csOf, List.getD_eq_getElem?_getD, e', q.pr, h]
theorem go_len {t : Pt} {gs ls : List Bool} : ∀ y ∈ t.go gs ls, y.2.1.length = gs.length ∧ y.2.2.length = ls.length := by
  intro y hy
  unfold Pt.go at hy
  split at hy <;> simp [setB] at hy
  · subst hy; constructor <;> (dsimp only; split <;> simp)
  · rcases hy with rfl | rfl <;> constructor <;> (dsimp only; split <;> simp)
  · subst hy; exact ⟨rfl, rfl⟩
  · rcases hy with rfl | rfl <;> exact ⟨rfl, rfl⟩
  · rcases hy with rfl | rfl <;> exact ⟨rfl, rfl⟩
  · subst hy; exact ⟨rfl, rfl⟩
  · subst hy; exact ⟨rfl, rfl⟩
theorem getD_mem {xs : List Nat} {i d : Nat} (h : i < xs.length) : xs.getD i d ∈ xs := by
  simp [List.getD_eq_getElem?_getD, h]
theorem go_to {t : Pt} {pr a b np lo hi : Nat} (q : PtIn t pr a b np lo hi) {gs ls : List Bool} : ∀ y ∈ t.go gs ls, lo ≤ y.1 ∧ y.1 ≤ hi := by
  intro y hy
  obtain ⟨tpr, tst, ten, tfo⟩ := t
  have qok := q.ok
  have qfo := q.fo
  have qen := q.en
  unfold Pt.ok at qok
  unfold Pt.go at hy
  dsimp only at qok qfo qen hy
  split at hy
  · simp at hy; subst hy; exact qfo _ rfl
  · simp at hy; rcases hy with rfl | rfl <;> exact qfo _ rfl
  · simp at hy; subst hy; exact qfo _ rfl
  · simp only [List.mem_cons, List.not_mem_nil, or_false] at hy
    dsimp only at qok
    rcases hy with rfl | rfl
    · exact qen _ (getD_mem (by omega))
    · exact qen _ (getD_mem (by omega))
  · simp only [List.mem_cons, List.not_mem_nil, or_false] at hy
    dsimp only at qok
    rcases hy with rfl | rfl
    · exact qen _ (getD_mem (by omega))
    · exact qfo _ rfl
  · simp only [List.mem_cons, List.not_mem_nil, or_false] at hy
    dsimp only at qok
    subst hy
    dsimp only
    split
    · exact qen _ (getD_mem (by omega))
    · exact qen _ (getD_mem (by omega))
  · simp only [List.mem_cons, List.not_mem_nil, or_false] at hy
    dsimp only at qok
    subst hy
    dsimp only
    split
    · exact qen _ (getD_mem (by omega))
    · exact qfo _ rfl
  · simp at hy
theorem after_few (p : Pg) (m : Mp) (gs : List Bool) (f : Fr) : (m.after p gs f).length ≤ 2 := by
  unfold Mp.after
  split
  · simp
  · split
    · simp
    · simp
    · simp
    · rw [List.length_map]
      unfold Pt.go
      split <;> simp
theorem good_of (w : p.Wf) : Good p (mpOf p.procs) (coOf (csP p)) (csP p) where
  g60 := by have := w.g; omega
  ok := co_ok _
  fr := co_fr _
  pts := by simp [csP, csOf]
  pt := fun i t h => by
    have hi : i < (ptsFrom 0 0 p.procs).length := (List.getElem?_eq_some_iff.mp h).1
    rw [← pbase_len] at hi
    obtain ⟨j, x, h1, h2, h3, h4⟩ := pt_proc _ i (Nat.le_refl _) hi
    obtain ⟨t', e, q⟩ := pt_at w h1 h3 h4
    have e' : (mpOf p.procs).pts[i]? = some t' := e
    rw [h] at e'
    cases e'
    rw [(cs_at w h1 h3 h4).2]
    refine ⟨q.ok, fun c hc => ?_⟩
    have hq := q.call c hc
    refine ⟨by show c < (entsFrom 0 p.procs).length; rw [ents_len]; exact hq, hq, ?_⟩
    have := w.lc (p.procs.getD c (0, [])) (by simp [List.getD_eq_getElem?_getD, hq])
    omega
  next := fun gs f x hg hf hl hx => by
    unfold Mp.after at hx
    have hi : f.1 < (ptsFrom 0 0 p.procs).length := by simpa [csP, csOf, mpOf] using hf
    rw [← pbase_len] at hi
    obtain ⟨j, pc, h1, h2, h3, h4⟩ := pt_proc _ f.1 (Nat.le_refl _) hi
    obtain ⟨t, e, q⟩ := pt_at w h1 h3 h4
    have e' : (mpOf p.procs).pts[f.1]? = some t := e
    have cf := cs_at w h1 h3 h4
    rw [e'] at hx
    dsimp only at hx
    split at hx
    · simp at hx; subst hx; exact ⟨hg, by simp, by simp⟩
    · simp at hx; subst hx; exact ⟨hg, by simp, by simp⟩
    · rename_i c hc
      have hq := q.call c hc
      simp only [List.mem_singleton] at hx
      subst hx
      refine ⟨hg, by simp, fun y hy => ?_⟩
      simp only [List.mem_cons, List.not_mem_nil, or_false] at hy
      rcases hy with rfl | rfl
      · have hc2 : p.procs[c]? = some p.procs[c] := by simp
        have he : (mpOf p.procs).ents.getD c 0 = pbase p.procs c := by
          show (entsFrom 0 p.procs).getD c 0 = _
          rw [List.getD_eq_getElem?_getD, ents_at hq]
          rfl
        have := cs_at w hc2 (Nat.le_refl _) (by omega)
        dsimp only
        rw [he]
        refine ⟨this.1, ?_⟩
        rw [this.2]
        simp [List.getD_eq_getElem?_getD, hq]
      · have qok := q.ok
        unfold Pt.ok at qok
        rw [hc] at qok
        dsimp only at qok
        cases hfo : t.fo with
        | none => rw [hfo] at qok; cases qok
        | some fo =>
          obtain ⟨r1, r2⟩ := q.fo fo hfo
          have := cs_at w h1 r1 r2
          dsimp only [Option.getD_some]
          exact ⟨this.1, by rw [this.2, ← cf.2]; exact hl⟩
    · obtain ⟨y, hy, rfl⟩ := List.mem_map.mp hx
      have hgl := go_len y hy
      obtain ⟨r1, r2⟩ := go_to q y hy
      have := cs_at w h1 r1 r2
      refine ⟨by dsimp only; rw [hgl.1, hg], by simp, fun z hz => ?_⟩
      simp at hz
      subst hz
      exact ⟨this.1, by dsimp only; rw [hgl.2, this.2, ← cf.2]; exact hl⟩
  few := after_few _ _
  size := by
    have hc : ∀ i, (csP p).getD i 0 ≤ 3 := fun i => by
      by_cases hi : i < (csP p).length
      · have := getD_mem (d := 0) hi
        simp only [csP, csOf, List.mem_map] at this
        obtain ⟨t, ht, e⟩ := this
        refine Nat.le_trans (Nat.le_of_eq e.symm) ?_
        by_cases hp : t.pr < p.procs.length
        · exact w.lc _ (by simp [List.getD_eq_getElem?_getD, hp])
        · simp [List.getD_eq_getElem?_getD, hp]
      · simp [List.getD_eq_getElem?_getD, hi]
    have h8 : ∀ i, (framesAt i ((csP p).getD i 0)).length ≤ 8 := fun i => by
      rw [framesAt_len]
      have : 2 ^ ((csP p).getD i 0) ≤ 2 ^ 3 := Nat.pow_le_pow_right (by decide) (hc i)
      omega
    have h := len_flat h8 (List.range (csP p).length)
    have hl : (csP p).length = (ptsFrom 0 0 p.procs).length := by simp [csP, csOf, mpOf]
    have := w.sz
    show (framesTo _ _).length ≤ 2000
    unfold framesTo
    rw [List.length_range] at h
    omega
end
end Eng

set_option Elab.async false
set_option linter.all false
set_option maxHeartbeats 4000000
set_option maxRecDepth 100000
/-! E56: a well formed program is made (program.py). -/
namespace Eng
open PySem L2
theorem cut_tail {α : Type} (a : α) (xs : List α) : cut (a :: xs) (some 1) none = xs := by
  have : HT.sIx (a :: xs).length 0 (some 1) = 1 := by
    have := HT.sIx_nat (a :: xs).length 0 1
    rw [show ((1 : Nat) : Int) = 1 from rfl] at this
    rw [this]
    simp
  unfold cut
  rw [this, HT.sIx_none]
  simp
structure LProg (P : Prog) : Prop extends LPts P where
  f3 : P.fn 3 = some d_Program___init__
  f13 : P.fn 13 = some d_Scope___init__
  f14 : P.fn 14 = some d_Scope_are_right
  f28 : P.fn 28 = some d_Scope_is_right
  f37 : P.fn 37 = some d_Scope_has_variable
  f38 : P.fn 38 = some d_Scope_has_variables
  i0 : P.init 0 = some 3
  i1 : P.init 1 = some 13
  m14 : P.meth 1 14 = some 28
  m0 : P.meth 1 0 = some 14
  m38 : P.meth 1 38 = some 37
  m39 : P.meth 1 39 = some 38
  g40 : P.gc 40 = some (.int 999)
  scF : ∀ f ∈ [10, 13], P.isF 1 f = true
  pgF : ∀ f ∈ [1, 2], P.isF 0 f = true
def scw (a b np : Nat) : W := .ins 1 [10, 13] [.dct [.inr (tg 11), .inr (tg 12)] [.int a, .int b], .int np]
section
variable {P : Prog} {S : Sto} {k : Nat} {a b np : Nat}
theorem dict2_ok (ht : P.tag = tg) {C : Cl} {e1 e2 : CE} {v1 v2 : W} {env : Env} (h1 : ∀ S, evE P C e1 env S = .ok v1 S) (h2 : ∀ S, evE P C e2 env S = .ok v2 S) (p1 : Pu v1) (p2 : Pu v2) : evE P C (.dict [11, 12] (.cons e1 (.cons e2 .nil))) env S = .ok (.dct [.inr (tg 11), .inr (tg 12)] [v1, v2]) S := by
  rw [evE]
  simp only [evEs, h1, h2, R.bind_ok_]
  have e1 : (S ++ [Ob.dK [] []])[S.length]? = some (.dK [] []) := by simp
  rw [e1]
  dsimp only
  rw [if_pos ⟨rfl, by decide, by simp [ht]⟩]
  have e2 : (S ++ [Ob.dK [] []]).set S.length (.dK ([11, 12].map fun t => .inr (P.tag t)) [v1, v2]) = S ++ [.dK [.inr (tg 11), .inr (tg 12)] [v1, v2]] := by simp [ht]
  rw [e2]
  refine exit_same ?_
  rw [resW_ref (Nat.le_refl _)]
  exact deref_dK (by simp) (pus_at (by intro w hw; rcases List.mem_cons.mp hw with rfl | hw; exact p1; rcases List.mem_cons.mp hw with rfl | hw; exact p2; cases hw) _)
theorem mk_scope (L : LProg P) : mkR P (clOf P (k + 2)) true 1 [.int a, .int b, .int np] S = .ok (scw a b np) S := by
  have bf := fun f hf => L.scF f hf
  refine mk_pu (k := k + 1) L.i1 (full_no L.toLib (by decide)) (ns := [10, 13]) (vs := [.dct [.inr (tg 11), .inr (tg 12)] [.int a, .int b], .int np]) ?_ ?_
  · refine run_nx L.f13 rfl rfl (env0 := [some (.ref S.length), some (.int a), some (.int b), some (.int np)]) (env1 := [some (.ref S.length), some (.int a), some (.int b), some (.int np)]) (S1 := S ++ [.ins 1 [10, 13] [.dct [.inr (tg 11), .inr (tg 12)] [.int a, .int b], .int np]]) ?_ rfl
    unfold d_Scope___init__
    have hd := fun S => dict2_ok (P := P) (S := S) L.tag (C := clOf P k) (e1 := .var 1) (e2 := .var 2) (v1 := .int a) (v2 := .int b) (env := [some (.ref S.length), some (.int a), some (.int b), some (.int np)]) (by simp [evE]) (by simp [evE]) rfl rfl
    have hd' : evE P (clOf P k) (.dict [11, 12] (.cons (.var 1) (.cons (.var 2) .nil))) [some (.ref S.length), some (.int a), some (.int b), some (.int np)] (S ++ [.ins 1 [] []]) = .ok (.dct [.inr (tg 11), .inr (tg 12)] [.int a, .int b]) (S ++ [.ins 1 [] []]) := dict2_ok (P := P) L.tag (by simp [evE]) (by simp [evE]) rfl rfl
    generalize (CE.dict [11, 12] (.cons (.var 1) (.cons (.var 2) .nil))) = de at hd' ⊢
    simp [exSs, exS, evE, evEs, hd', setF_self (bf 10 (by simp)), setF_self (bf 13 (by simp)), putW]
  · intro v hv
    simp at hv
    rcases hv with rfl | rfl <;> rfl
theorem has_variable_ok (L : LProg P) {g : Bool} {i : Nat} (h : i < if g then a else b) : run P (k + 1) 37 [scw a b np, vw g i] S = .ok (.bl true) S := by
  refine run_ret L.f37 rfl rfl (w := .bl true) (S1 := S) ?_ (fin_pu0 rfl)
  unfold d_Scope_has_variable
  have h0 : (0 : Int) ≤ (i : Int) := by omega
  cases g with
  | true =>
    have h1 : (i : Int) < (a : Int) := by simp at h; omega
    simp [exSs, exS, evE, scw, h0, h1]
  | false =>
    have h1 : (i : Int) < (b : Int) := by simp at h; omega
    simp [exSs, exS, evE, scw, h0, h1]
theorem has_variables_ok (L : LProg P) : ∀ {e : Ex} {k : Nat} {S : Sto}, e.wf a b → e.dp + 1 ≤ k → run P (k + 1) 38 [scw a b np, e.w] S = .ok (.bl true) S
  | .tr t, k, S, _, _ => run_ret L.f38 rfl rfl (w := .bl true) (S1 := S) (by
      unfold d_Scope_has_variables
      simp [exSs, exS, evE, evEs, Ex.w, L.tag]) (fin_pu0 rfl)
  | .of g i, k, S, hw, hk => by
    obtain ⟨k, rfl⟩ : ∃ k', k = k' + 1 := ⟨k - 1, by omega⟩
    refine run_ret L.f38 rfl rfl (w := .bl true) (S1 := S) ?_ (fin_pu0 rfl)
    unfold d_Scope_has_variables
    have e1 := has_variable_ok (P := P) (S := S) (k := k) (np := np) L (a := a) (b := b) (g := g) (i := i) hw
    simp only [scw, vw] at e1
    simp [exSs, exS, evE, evEs, Ex.w, L.tag, scw, L.m38, clOf_fn, full_no L.toLib (f := 37) (by decide), e1]
  | .nt x, k, S, hw, hk => by
    obtain ⟨k, rfl⟩ : ∃ k', k = k' + 1 := ⟨k - 1, by omega⟩
    simp only [Ex.dp] at hk
    exact parts (es := [x]) rfl (by simp) (by simp; exact fun S => has_variables_ok L hw (by omega))
  | .an x y, k, S, hw, hk => by
    obtain ⟨k, rfl⟩ : ∃ k', k = k' + 1 := ⟨k - 1, by omega⟩
    simp only [Ex.dp] at hk
    exact parts (es := [x, y]) rfl (by simp) (by simp; exact ⟨fun S => has_variables_ok L hw.1 (by omega), fun S => has_variables_ok L hw.2 (by omega)⟩)
  | .orr x y, k, S, hw, hk => by
    obtain ⟨k, rfl⟩ : ∃ k', k = k' + 1 := ⟨k - 1, by omega⟩
    simp only [Ex.dp] at hk
    exact parts (es := [x, y]) rfl (by simp) (by simp; exact ⟨fun S => has_variables_ok L hw.1 (by omega), fun S => has_variables_ok L hw.2 (by omega)⟩)
  | .sm x y, k, S, hw, hk => by
    obtain ⟨k, rfl⟩ : ∃ k', k = k' + 1 := ⟨k - 1, by omega⟩
    simp only [Ex.dp] at hk
    exact parts (es := [x, y]) rfl (by simp) (by simp; exact ⟨fun S => has_variables_ok L hw.1 (by omega), fun S => has_variables_ok L hw.2 (by omega)⟩)
where
  parts {k : Nat} {S : Sto} {e : Ex} {t : Nat} {es : List Ex} (he : e.w = .tup (.str (tg t) :: es.map Ex.w)) (ht : (t ≠ 44 ∧ t ≠ 45) ∧ es.length ≤ 2) (h : ∀ x ∈ es, ∀ S, run P (k + 1) 38 [scw a b np, x.w] S = .ok (.bl true) S) : run P (k + 1 + 1) 38 [scw a b np, e.w] S = .ok (.bl true) S := by
    refine run_ret L.f38 rfl rfl (w := .bl true) (S1 := S) ?_ (fin_pu0 rfl)
    unfold d_Scope_has_variables
    rw [he]
    have ec : evE P (clOf P (k + 1)) (.comp true [2] (.nm 2) (.seq (.sl (.var 1) (.int 1) .omit)) .nil (.meth (.var 0) 39 (.cons (.var 2) .nil))) [some (scw a b np), some (.tup (.str (tg t) :: es.map Ex.w)), none] S = .ok (.lst (es.map fun _ => W.bl true)) S := by
      refine comp_map (ys := es) (wy := Ex.w) (h := fun _ => W.bl true) (g := []) ?_ (fun _ => gOk_nil) (Nat.le_trans ht.2 (by decide)) fun x hx acc => ⟨_, rfl, ?_, rfl⟩
      · simp [evI, evE, isOmit, toI, cut_tail]
      · have := h x hx (S ++ [.lst acc])
        simp only [scw] at this
        simp [evE, evEs, wipeE, scw, L.m39, clOf_fn, full_no L.toLib (f := 38) (by decide), this]
    generalize (CE.comp true [2] (.nm 2) (.seq (.sl (.var 1) (.int 1) .omit)) .nil (.meth (.var 0) 39 (.cons (.var 2) .nil))) = ce at ec ⊢
    simp [exSs, exS, evE, evEs, L.tag, ht.1.1, ht.1.2, ec, bools_true]
theorem is_right_ok (L : LProg P) {s : St} (hw : s.wf a b np) (hk : 14 ≤ k) : run P (k + 1) 28 [scw a b np, s.w] S = .ok (.bl true) S := by
  obtain ⟨k, rfl⟩ : ∃ k', k = k' + 1 := ⟨k - 1, by omega⟩
  have l2 : (2 : Nat) ≤ sizeLine := by decide
  have v1 := fun {g : Bool} {i : Nat} (h : i < if g then a else b) => has_variable_ok (P := P) (S := S) (k := k) (np := np) L h
  have v2 := fun {e : Ex} (h : e.wf a b) (hd : e.dp ≤ 10) => has_variables_ok (P := P) (S := S) (k := k) (np := np) L h (by omega)
  simp only [scw, vw] at v1 v2
  refine run_ret L.f28 rfl rfl (w := .bl true) (S1 := S) ?_ (fin_pu0 rfl)
  unfold d_Scope_is_right
  cases s with
  | set g i e =>
    have e1 := v1 hw.1
    have e2 := v2 hw.2.1 hw.2.2
    simp [exSs, exS, evE, evEs, evAnd, St.w, L.tag, scw, L.m38, L.m39, clOf_fn, full_no L.toLib (f := 37) (by decide), full_no L.toLib (f := 38) (by decide), e1, e2]
  | free g i =>
    have e1 := v1 (g := g) (i := i) hw
    simp [exSs, exS, evE, evEs, evAnd, St.w, L.tag, scw, L.m38, L.m39, clOf_fn, full_no L.toLib (f := 37) (by decide), full_no L.toLib (f := 38) (by decide), e1]
  | call q =>
    have h0 : (0 : Int) ≤ (q : Int) := by omega
    have h1 : (q : Int) < (np : Int) := by simp only [St.wf] at hw; omega
    simp [exSs, exS, evE, evEs, St.w, L.tag, scw, h0, h1]
  | pass n =>
    have h0 : (0 : Int) ≤ (n : Int) := by omega
    have h1 : (n : Int) ≤ 999 := by simp only [St.wf] at hw; omega
    simp [exSs, exS, evE, evEs, St.w, L.tag, L.g40, inW, flatW, eqF, l2, h0, h1]
  | ret => simp [exSs, exS, evE, evEs, St.w, L.tag, inW, flatW, eqF, l2]
  | either x y => simp [exSs, exS, evE, evEs, St.w, L.tag, inW, flatW, eqF, l2]
  | rep x => simp [exSs, exS, evE, evEs, St.w, L.tag, inW, flatW, eqF, l2]
  | ifs e x y =>
    have e2 := v2 hw.1 hw.2.1
    simp [exSs, exS, evE, evEs, St.w, L.tag, inW, flatW, eqF, l2, scw, L.m39, clOf_fn, full_no L.toLib (f := 38) (by decide), e2]
  | wh e x =>
    have e2 := v2 hw.1 hw.2.1
    simp [exSs, exS, evE, evEs, St.w, L.tag, inW, flatW, eqF, l2, scw, L.m39, clOf_fn, full_no L.toLib (f := 38) (by decide), e2]
theorem wf_mem : ∀ {ss : List St} {s : St}, Sts.wf a b np ss → s ∈ ss → s.wf a b np
  | x :: xs, s, h, hm => by
    simp only [Sts.wf] at h
    rcases List.mem_cons.mp hm with rfl | hm
    · exact h.1
    · exact wf_mem h.2 hm
theorem wf_bods {s : St} {B : List St} (h : s.wf a b np) (hm : B ∈ bods s) : Sts.wf a b np B := by
  cases s <;> simp [bods] at hm <;> simp only [St.wf] at h
  · rcases hm with rfl | rfl
    · exact h.2.2.1
    · exact h.2.2.2
  · rcases hm with rfl | rfl
    · exact h.1
    · exact h.2
  · subst hm; exact h.2.2
  · subst hm; exact h
theorem are_right_ok (L : LProg P) : ∀ (n : Nat) {ss : List St} {k : Nat} {S : Sto}, Sts.nd ss ≤ n → Sts.wf a b np ss → n + 16 ≤ k → run P (k + 1) 14 [scw a b np, .tup (Sts.w ss)] S = .ok (.bl true) S := by
  intro n
  induction n with
  | zero =>
    intro ss k S hd hw hk
    refine body hd hw (by omega) fun s hs B hB => ?_
    have h1 := nd_bods hB
    have h2 := nd_mem hs
    omega
  | succ n ih =>
    intro ss k S hd hw hk
    obtain ⟨k, rfl⟩ : ∃ k', k = k' + 1 := ⟨k - 1, by omega⟩
    refine body hd hw (by omega) fun s hs B hB S => ?_
    have h1 := nd_bods hB
    have h2 := nd_mem hs
    exact ih (by omega) (wf_bods (wf_mem hw hs) hB) (by omega)
where
  body {n : Nat} {ss : List St} {k : Nat} {S : Sto} (hd : Sts.nd ss ≤ n) (hw : Sts.wf a b np ss) (hk : 16 ≤ k) (ih : ∀ s ∈ ss, ∀ B ∈ bods s, ∀ S, run P k 14 [scw a b np, .tup (Sts.w B)] S = .ok (.bl true) S) : run P (k + 1) 14 [scw a b np, .tup (Sts.w ss)] S = .ok (.bl true) S := by
    obtain ⟨k, rfl⟩ : ∃ k', k = k' + 1 := ⟨k - 1, by omega⟩
    obtain ⟨env', S', e, v2, v3, he, hS⟩ := for_go (P := P) (C := clOf P (k + 1)) (t := .nm 2) (it := .seq (.var 1))
      (b := (.cons (.if_ (.or_ (.cons (.not_ (.meth (.var 0) 14 (.cons (.var 2) .nil))) (.cons (.not_ (.blt .all (.cons (.comp true [3] (.nm 3) (.seq (.call 29 (.cons (.var 2) .nil))) .nil (.meth (.var 0) 0 (.cons (.var 3) .nil))) .nil))) .nil))) (.cons (.ret (.bl false)) .nil) .nil) .nil))
      (env := [some (scw a b np), some (.tup (Sts.w ss)), none, none]) (S := S) (S0 := S) (xs := Sts.w ss) (g := [])
      (fun i env S1 => ∃ v2 v3, env = [some (scw a b np), some (.tup (Sts.w ss)), v2, v3] ∧ S = S1) (by simp [evI, evE]) (fun _ _ _ _ _ => gOk_nil) ⟨none, none, rfl, rfl⟩
      (fun i x env S1 hx ⟨v2, v3, e1, e2⟩ => by
        subst e1 e2
        obtain ⟨s, hs, rfl⟩ := swAt hx
        have hsm := List.mem_of_getElem? hs
        have q1 := is_right_ok (P := P) (S := S) (k := k) L (wf_mem hw hsm) (by omega)
        have q2 := bodies_ok (P := P) (S := S) (k := k) L.toLPts s
        refine ⟨[some (scw a b np), some (.tup (Sts.w ss)), some s.w, v3], _, S, rfl, .inl ?_, some s.w, v3, rfl, rfl⟩
        have ec : evE P (clOf P (k + 1)) (.comp true [3] (.nm 3) (.seq (.call 29 (.cons (.var 2) .nil))) .nil (.meth (.var 0) 0 (.cons (.var 3) .nil))) [some (scw a b np), some (.tup (Sts.w ss)), some s.w, v3] S = .ok (.lst ((bods s).map fun _ => W.bl true)) S := by
          refine comp_map (ys := bods s) (wy := fun B => .tup (Sts.w B)) (h := fun _ => W.bl true) (g := []) ?_ (fun _ => gOk_nil) (Nat.le_trans (show (bods s).length ≤ 2 by cases s <;> simp [bods]) (by decide)) fun B hB acc => ⟨_, rfl, ?_, rfl⟩
          · simp [evI, evE, evEs, clOf_fn, full_no L.toLib (f := 29) (by decide), q2]
          · have := ih s hsm B hB (S ++ [.lst acc])
            simp only [scw] at this
            simp [evE, evEs, wipeE, scw, L.m0, clOf_fn, full_no L.toLib (f := 14) (by decide), this]
        generalize (CE.comp true [3] (.nm 3) (.seq (.call 29 (.cons (.var 2) .nil))) .nil (.meth (.var 0) 0 (.cons (.var 3) .nil))) = ce at ec ⊢
        simp only [scw] at q1 ec
        have hall : ((bods s).all fun _ => true) = true := List.all_eq_true.mpr fun _ _ => rfl
        simp [exSs, exS, evE, evEs, evOr, scw, L.m14, clOf_fn, full_no L.toLib (f := 28) (by decide), q1, ec, bools_true, hall])
    subst he hS
    refine run_ret L.f14 rfl rfl (w := .bl true) (env0 := [some (scw a b np), some (.tup (Sts.w ss)), none, none]) (S1 := S) ?_ (fin_pu0 rfl)
    unfold d_Scope_are_right
    dsimp only
    rw [ss_nx e]
    simp [exSs, exS, evE]
theorem mk_program (L : LProg P) {p : Pg} (w : p.Wf) (hk : 52 ≤ k) : mkR P (clOf P (k + 2)) true 0 [.int p.g, .lst (p.procs.map prw)] S = .ok p.w S := by
  have bf := fun f hf => L.pgF f hf
  refine mk_pu (k := k + 1) L.i0 (full_no L.toLib (by decide)) (ns := [1, 2]) (vs := [.int p.g, .tup (p.procs.map prw)]) ?_ ?_
  · obtain ⟨k, rfl⟩ : ∃ k', k = k' + 2 := ⟨k - 2, by omega⟩
    obtain ⟨env', S', e, v3, v4, v5, v6, he, hS⟩ := for_go (P := P) (C := clOf P (k + 2)) (t := .tp [(.nm 3), (.tp [(.nm 4), (.nm 5)])]) (it := .enm (.var 2))
      (b := (.cons (.asg (.nm 6) (.make true 1 (.cons (.var 1) (.cons (.var 4) (.cons (.blt .len (.cons (.var 2) .nil)) .nil))))) (.cons (.if_ (.or_ (.cons (.cmp .lt (.var 4) (.int 0)) (.cons (.not_ (.meth (.var 6) 0 (.cons (.var 5) .nil))) .nil))) (.cons .nev .nil) .nil) .nil)))
      (env := [some (.ref S.length), some (.int p.g), some (.lst (p.procs.map prw)), none, none, none, none]) (S := S ++ [.ins 0 [] []]) (S0 := S ++ [.ins 0 [] []]) (xs := enumW 0 (p.procs.map prw)) (g := [])
      (fun i env S1 => ∃ v3 v4 v5 v6, env = [some (.ref S.length), some (.int p.g), some (.lst (p.procs.map prw)), v3, v4, v5, v6] ∧ S ++ [.ins 0 [] []] = S1) (by simp [evI, evE]) (fun _ _ _ _ _ => gOk_nil) ⟨none, none, none, none, rfl, rfl⟩
      (fun i x env S1 hx ⟨v3, v4, v5, v6, e1, e2⟩ => by
        subst e1 e2
        have hil : i < p.procs.length := by
          have := (List.getElem?_eq_some_iff.mp hx).1
          rwa [enumW_len, List.length_map] at this
        obtain ⟨pc, hpc⟩ : ∃ pc, p.procs[i]? = some pc := ⟨p.procs[i], by simp⟩
        have hx2 := enumW_get (k := 0) (xs := p.procs.map prw) (i := i) (w := prw pc) (by simp [hpc])
        rw [hx, Nat.zero_add] at hx2
        cases hx2
        obtain ⟨lc, bd⟩ := pc
        have hm := List.mem_of_getElem? hpc
        have q1 := mk_scope (P := P) (S := S ++ [.ins 0 [] []]) (k := k) L (a := p.g) (b := lc) (np := p.procs.length)
        have q2 := are_right_ok (P := P) (S := S ++ [.ins 0 [] []]) (k := k + 1) L 30 (w.nd _ hm) (w.st _ hm) (by omega)
        have h0 : ¬ ((lc : Int) < 0) := by omega
        refine ⟨[some (.ref S.length), some (.int p.g), some (.lst (p.procs.map prw)), some (.int i), some (.int lc), some (.tup (Sts.w bd)), v6], _, _, by simp [prw], .inl ?_, some (.int i), some (.int lc), some (.tup (Sts.w bd)), some (scw p.g lc p.procs.length), rfl, rfl⟩
        rw [ss_nx (env' := [some (.ref S.length), some (.int p.g), some (.lst (p.procs.map prw)), some (.int i), some (.int lc), some (.tup (Sts.w bd)), some (scw p.g lc p.procs.length)]) (S' := S ++ [.ins 0 [] []]) (by simp [exS, evE, evEs, q1])]
        simp only [scw] at q2
        simp [exSs, exS, evE, evEs, evOr, scw, L.m0, clOf_fn, full_no L.toLib (f := 14) (by decide), q2, h0])
    subst he hS
    have hz : ¬ ((p.procs.length : Int) = 0) := by have := w.np.1; omega
    have hz' : ¬ (p.procs = []) := by intro z; rw [z] at hz; simp at hz
    have h0 : ¬ ((p.g : Int) < 0) := by omega
    refine run_nx L.f3 rfl rfl (env0 := [some (.ref S.length), some (.int p.g), some (.lst (p.procs.map prw)), none, none, none, none]) (env1 := [some (.ref S.length), some (.int p.g), some (.lst (p.procs.map prw)), v3, v4, v5, v6]) (S1 := S ++ [.ins 0 [1, 2] [.int p.g, .tup (p.procs.map prw)]]) ?_ rfl
    unfold d_Program___init__
    dsimp only
    rw [ss_nx (env' := [some (.ref S.length), some (.int p.g), some (.lst (p.procs.map prw)), none, none, none, none]) (S' := S ++ [.ins 0 [] []]) (by simp [exS, exSs, evE, evEs, evOr, h0, hz, hz'])]
    rw [ss_nx e]
    simp [exSs, exS, evE, evEs, setF_self (bf 1 (by simp)), setF_self (bf 2 (by simp)), putW]
  · intro v hv
    simp at hv
    rcases hv with rfl | rfl
    · rfl
    · exact tup_pu (map_pu prw_pu)
end
end Eng

set_option Elab.async false
set_option linter.all false
set_option maxHeartbeats 4000000
set_option maxRecDepth 100000
/-! E57: what laws draw: numbers, picks, variables, expressions. -/
namespace Eng
open PySem L2
theorem fmod_rng (z : Int) {n : Nat} (h : 0 < n) : ∃ j : Nat, z.fmod (n : Int) = (j : Int) ∧ j < n := by
  have h1 := Int.fmod_nonneg_of_pos z (show (0 : Int) < (n : Int) by omega)
  have h2 := Int.fmod_lt_of_pos z (show (0 : Int) < (n : Int) by omega)
  exact ⟨(z.fmod (n : Int)).toNat, by omega, by omega⟩
theorem atI_map {α : Type} {f : α → W} {xs : List α} {i : Nat} (h : i < xs.length) : L2.atI (xs.map f) (i : Int) = some (f (xs[i])) := atI_nat (by simp [h])
/-- the state of a drawing -/
abbrev dst (zs : List Int) (c b : Int) : Ob := .lst [.lst (zs.map W.int), .int c, .int b]
structure LDraw (P : Prog) : Prop extends LProg P where
  f1 : P.fn 1 = some d__law_numbers
  f2 : P.fn 2 = some d__law_program
  f11 : P.fn 11 = some d__law_pick
  f12 : P.fn 12 = some d__law_body
  f27 : P.fn 27 = some d__law_statement
  f35 : P.fn 35 = some d__law_variable
  f36 : P.fn 36 = some d__law_expression
theorem set_app {S : Sto} {l : Nat} {o : Ob} {T : Sto} (h : l < S.length) : S.set l o ++ T = (S ++ T).set l o := by rw [List.set_append_left _ _ h]
theorem dst_below (zs : List Int) (c b : Int) (n : Nat) : belowO n (dst zs c b) = true := by
  have : belows n (zs.map W.int) = true := belows_iff.mpr (by
    intro w hw
    obtain ⟨z, _, rfl⟩ := List.mem_map.mp hw
    rfl)
  simp [belowO, belows, below, this]
/-- a region's end where the drawing went on -/
theorem exit_dst {S : Sto} {l : Nat} {zs : List Int} {c b c' b' : Int} {w : W} {Rg : Sto} (hl : l < S.length) (hw : Pu w) : exitR (S.set l (dst zs c b)) w ((S ++ Rg).set l (dst zs c' b')) = .ok w (S.set l (dst zs c' b')) := by
  have e : (S ++ Rg).set l (dst zs c' b') = S.set l (dst zs c' b') ++ Rg := by rw [set_app hl]
  rw [e]
  refine exit_old (by simp) (fun i o ho => ?_) (hw.at _)
  by_cases hi : i = l
  · subst hi
    rw [List.getElem?_set_self hl] at ho
    cases ho
    exact .inr (dst_below _ _ _ _)
  · rw [List.getElem?_set_ne (Ne.symm hi)] at ho ⊢
    exact .inl ho
theorem exit_dst0 {S : Sto} {l : Nat} {zs : List Int} {c b c' b' : Int} {w : W} (hl : l < S.length) (hw : Pu w) : exitR (S.set l (dst zs c b)) w (S.set l (dst zs c' b')) = .ok w (S.set l (dst zs c' b')) := by
  have := exit_dst (S := S) (Rg := []) (zs := zs) (c := c) (b := b) (c' := c') (b' := b') hl hw
  rwa [List.append_nil] at this
theorem ss_two {P : Prog} {C : Cl} {s1 s2 : CS} {ss : CSs} {env env1 : Env} {S S1 : Sto} (h : exSs P C (.cons s1 (.cons s2 .nil)) env S = .ok (.nx env1) S1) : exSs P C (.cons s1 (.cons s2 ss)) env S = exSs P C ss env1 S1 := by
  simp only [exSs] at h ⊢
  cases c1 : exS P C s1 env S with
  | ok fl Sx =>
    rw [c1] at h
    simp only [R.bind_ok_] at h ⊢
    cases fl with
    | nx e =>
      simp only at h ⊢
      cases c2 : exS P C s2 e Sx with
      | ok fl2 Sy =>
        rw [c2] at h
        simp only [R.bind_ok_] at h ⊢
        cases fl2 with
        | nx e2 => simp only at h ⊢; cases h; rfl
        | _ => simp at h
      | exc _ _ _ => rw [c2] at h; simp [R.bind] at h
      | bad => rw [c2] at h; simp [R.bind] at h
    | _ => simp at h
  | exc _ _ _ => rw [c1] at h; simp [R.bind] at h
  | bad => rw [c1] at h; simp [R.bind] at h
section
variable {P : Prog} {k : Nat}
theorem pick_ok (L : LDraw P) {S : Sto} {l m : Nat} {zs : List Int} {c b : Int} (hl : l < S.length) (hz : zs ≠ []) (hm : 0 < m) : ∃ v : Nat, v < m ∧ run P (k + 1) 11 [.ref l, .int m] (S.set l (dst zs c b)) = .ok (.int v) (S.set l (dst zs (c + 1) b)) := by
  have hzl : 0 < zs.length := List.length_pos_iff.mpr hz
  obtain ⟨j, hj, hjl⟩ := fmod_rng c hzl
  obtain ⟨v, hv, hvl⟩ := fmod_rng ((zs[j]).fdiv 7 + 31 * (c + 1)) hm
  refine ⟨v, hvl, ?_⟩
  have hS : (S.set l (dst zs c b))[l]? = some (dst zs c b) := List.getElem?_set_self hl
  have hS' : (S.set l (dst zs (c + 1) b))[l]? = some (dst zs (c + 1) b) := List.getElem?_set_self hl
  refine run_ret L.f11 rfl rfl (w := .int v) (S1 := S.set l (dst zs (c + 1) b)) ?_ rfl
  have e0 := idxW_ref (i := 0) hS
  have e1 := idxW_ref (i := 1) hS
  have e1' := idxW_ref (i := 1) hS'
  have e2 := atI_map (f := W.int) hjl
  have e3 := subW_lst (x := .int (c + 1)) hS (n := 1) (by simp)
  simp only [List.set_set, List.set_cons_succ, List.set_cons_zero] at e3
  have hm0 : ¬ ((m : Int) = 0) := by omega
  have hz0 : ¬ ((zs.length : Int) = 0) := by omega
  generalize S.set l (dst zs c b) = SA at e0 e1 e3 ⊢
  generalize S.set l (dst zs (c + 1) b) = SB at e1' e3 ⊢
  unfold d__law_pick
  simp only [atI_0, atI_1] at e0 e1 e1'
  have e3' : subW SA (.ref l) (.int 1) (.int (c + 1)) = some SB := e3
  have q7 : CDivN (zs[j]) 7 := ⟨by decide, by decide⟩
  have q31 : CMul 31 (c + 1) := .inl ⟨by decide, by decide⟩
  dsimp only
  rw [ss_nx (env' := [some (.ref l), some (.int m), some (.int zs[j])]) (S' := SA) (by simp [exS, evE, evEs, e0, e1, hz0, hz, hj, e2])]
  rw [ss_nx (env' := [some (.ref l), some (.int m), some (.int zs[j])]) (S' := SB) (by simp [exS, evE, evEs, e1, e3'])]
  have hm1 : ¬ (m = 0) := by omega
  simp [exSs, exS, evE, evEs, e1', q7, q31, hm0, hm1, hv]
theorem numbers_ok (L : LDraw P) {S : Sto} {ns : List Int} {cnt : Nat} (hc : cnt ≤ 1000) : ∃ zs : List Int, zs.length = cnt ∧ run P (k + 1) 1 [.fro (ns.map W.int), .int cnt] S = .ok (.lst (zs.map W.int)) S := by
  have qp : CPow 10 18 := ⟨by decide, by decide, by decide⟩
  have q1 : ∀ z : Int, CMul z 48271 := fun z => .inr ⟨by decide, by decide⟩
  have q2 : ∀ z : Int, CMul z 69621 := fun z => .inr ⟨by decide, by decide⟩
  have q3 : ∀ z : Int, CMul 7919 z := fun z => .inl ⟨by decide, by decide⟩
  have q4 : ∀ z : Int, CDivN z 1000000 := fun z => ⟨by decide, by decide⟩
  have hcz : ∀ i, i < cnt → i < sizeLine := fun i h => Nat.lt_of_lt_of_le (show i < 1000 by omega) (by decide)
  -- the loop
  have loop : ∀ (rest : Int) (by_ : Bool), ∃ zs : List Int, ∃ r v5 v6, zs.length = cnt ∧ exS P (clOf P k) (.for_ (.nm 5) (.rng1 (.var 1)) (.cons (.if_ (.and_ (.cons (.var 3) (.cons (.cmp .gt (.var 2) (.int 0)) .nil))) (.cons (.expr (.bm .append (.var 4) (.cons (.bin .mod (.var 2) (.int 1000000)) .nil))) (.cons (.asg (.nm 2) (.bin .fdiv (.var 2) (.int 1000000))) .nil)) (.cons (.asg (.nm 6) (.int 13)) (.cons (.if_ (.cmp .gt (.blt .len (.cons (.var 0) .nil)) (.int 0)) (.cons (.asg (.nm 6) (.bin .add (.idx (.var 0) (.bin .mod (.var 5) (.blt .len (.cons (.var 0) .nil)))) (.bin .mul (.int 7919) (.var 5)))) .nil) .nil) (.cons (.expr (.bm .append (.var 4) (.cons (.bin .mod (.bin .mod (.bin .mul (.bin .mod (.bin .mul (.var 6) (.int 48271)) (.int 2147483647)) (.int 69621)) (.int 2147483629)) (.int 1000000)) .nil))) .nil)))) .nil))
      [some (.fro (ns.map W.int)), some (.int cnt), some (.int rest), some (.bl by_), some (.ref S.length), none, none] (S ++ [.lst []]) = .ok (.nx [some (.fro (ns.map W.int)), some (.int cnt), r, some (.bl by_), some (.ref S.length), v5, v6]) (S ++ [.lst (zs.map W.int)]) := fun rest by_ => by
    obtain ⟨env', S', e, r, zs, v5, v6, he, hS, hl⟩ := for_go (P := P) (C := clOf P k) (t := .nm 5) (it := .rng1 (.var 1)) (b := (.cons (.if_ (.and_ (.cons (.var 3) (.cons (.cmp .gt (.var 2) (.int 0)) .nil))) (.cons (.expr (.bm .append (.var 4) (.cons (.bin .mod (.var 2) (.int 1000000)) .nil))) (.cons (.asg (.nm 2) (.bin .fdiv (.var 2) (.int 1000000))) .nil)) (.cons (.asg (.nm 6) (.int 13)) (.cons (.if_ (.cmp .gt (.blt .len (.cons (.var 0) .nil)) (.int 0)) (.cons (.asg (.nm 6) (.bin .add (.idx (.var 0) (.bin .mod (.var 5) (.blt .len (.cons (.var 0) .nil)))) (.bin .mul (.int 7919) (.var 5)))) .nil) .nil) (.cons (.expr (.bm .append (.var 4) (.cons (.bin .mod (.bin .mod (.bin .mul (.bin .mod (.bin .mul (.var 6) (.int 48271)) (.int 2147483647)) (.int 69621)) (.int 2147483629)) (.int 1000000)) .nil))) .nil)))) .nil))
      (env := [some (.fro (ns.map W.int)), some (.int cnt), some (.int rest), some (.bl by_), some (.ref S.length), none, none]) (S := S ++ [.lst []]) (S0 := S ++ [.lst []]) (xs := upTo 0 cnt) (g := [])
      (fun i env S1 => ∃ (r : Int) (zs : List Int) (v5 v6 : Option W), env = [some (.fro (ns.map W.int)), some (.int cnt), some (.int r), some (.bl by_), some (.ref S.length), v5, v6] ∧ S ++ [.lst (zs.map W.int)] = S1 ∧ zs.length = i)
      (evI_rngN (by simp [evE]) (by omega)) (fun _ _ _ _ _ => gOk_nil) ⟨rest, [], none, none, rfl, rfl, rfl⟩
      (fun i x env S1 hx ⟨r, zs, v5, v6, e1, e2, e3⟩ => by
        subst e1 e2
        obtain ⟨rfl, hi⟩ := upTo_at hx
        have hS : ∀ z : Int, bmW (S ++ [.lst (zs.map W.int)]) .append (.ref S.length) [.int z] = .ok .non (S ++ [.lst ((zs ++ [z]).map W.int)]) := fun z => by
          rw [append_ref (xs := zs.map W.int) (by simp) (by rw [List.length_map, e3]; exact hcz i hi)]
          simp
        have hb : bmK (S ++ [Ob.lst (zs.map W.int)]) .append (.ref S.length) = true := bmK_ref (xs := zs.map W.int) (by simp)
        generalize hSA : S ++ [Ob.lst (zs.map W.int)] = SA at hS hb
        by_cases hc : by_ = true ∧ 0 < r
        · obtain ⟨rfl, hr⟩ := hc
          refine ⟨_, [some (.fro (ns.map W.int)), some (.int cnt), some (.int (r.fdiv 1000000)), some (.bl true), some (.ref S.length), some (.int i), v6], _, rfl, .inl ?_, r.fdiv 1000000, zs ++ [r.fmod 1000000], some (.int i), v6, rfl, rfl, by simp [e3]⟩
          simp only [List.set_cons_succ, List.set_cons_zero]
          simp [exSs, exS, evE, evEs, evAnd, hr, hb, hS, q4]
        · have hand : evE P (clOf P k) (.and_ (.cons (.var 3) (.cons (.cmp .gt (.var 2) (.int 0)) .nil))) [some (.fro (ns.map W.int)), some (.int cnt), some (.int r), some (.bl by_), some (.ref S.length), some (.int i), v6] SA = .ok (.bl false) SA := by
            cases by_ with
            | false => simp [evE, evAnd]
            | true =>
              have hr : ¬ (0 < r) := fun h => hc ⟨rfl, h⟩
              simp [evE, evAnd, hr]
          have fin : ∀ z : Int, exSs P (clOf P k) (.cons (.expr (.bm .append (.var 4) (.cons (.bin .mod (.bin .mod (.bin .mul (.bin .mod (.bin .mul (.var 6) (.int 48271)) (.int 2147483647)) (.int 69621)) (.int 2147483629)) (.int 1000000)) .nil))) .nil) [some (.fro (ns.map W.int)), some (.int cnt), some (.int r), some (.bl by_), some (.ref S.length), some (.int i), some (.int z)] SA = .ok (.nx [some (.fro (ns.map W.int)), some (.int cnt), some (.int r), some (.bl by_), some (.ref S.length), some (.int i), some (.int z)]) (S ++ [.lst ((zs ++ [((((z * 48271).fmod 2147483647) * 69621).fmod 2147483629).fmod 1000000]).map W.int)]) := fun z => by
            simp [exSs, exS, evE, evEs, q1, q2, hb, hS]
          generalize hand_e : (CE.and_ (.cons (.var 3) (.cons (.cmp .gt (.var 2) (.int 0)) .nil))) = ce at hand ⊢
          have key : ∃ z : Int, exSs P (clOf P k) (.cons (.if_ ce (.cons (.expr (.bm .append (.var 4) (.cons (.bin .mod (.var 2) (.int 1000000)) .nil))) (.cons (.asg (.nm 2) (.bin .fdiv (.var 2) (.int 1000000))) .nil)) (.cons (.asg (.nm 6) (.int 13)) (.cons (.if_ (.cmp .gt (.blt .len (.cons (.var 0) .nil)) (.int 0)) (.cons (.asg (.nm 6) (.bin .add (.idx (.var 0) (.bin .mod (.var 5) (.blt .len (.cons (.var 0) .nil)))) (.bin .mul (.int 7919) (.var 5)))) .nil) .nil) (.cons (.expr (.bm .append (.var 4) (.cons (.bin .mod (.bin .mod (.bin .mul (.bin .mod (.bin .mul (.var 6) (.int 48271)) (.int 2147483647)) (.int 69621)) (.int 2147483629)) (.int 1000000)) .nil))) .nil)))) .nil) [some (.fro (ns.map W.int)), some (.int cnt), some (.int r), some (.bl by_), some (.ref S.length), some (.int i), v6] SA =
              .ok (.nx [some (.fro (ns.map W.int)), some (.int cnt), some (.int r), some (.bl by_), some (.ref S.length), some (.int i), some (.int z)]) (S ++ [.lst ((zs ++ [((((z * 48271).fmod 2147483647) * 69621).fmod 2147483629).fmod 1000000]).map W.int)]) := by
            by_cases hns : ns = []
            · subst hns
              refine ⟨13, ?_⟩
              have f := fin 13
              rw [exSs, exS, hand]
              simp only [R.bind_ok_]
              rw [ss_nx (env' := [some (.fro (([] : List Int).map W.int)), some (.int cnt), some (.int r), some (.bl by_), some (.ref S.length), some (.int i), some (.int 13)]) (S' := SA) (by simp [exS, evE])]
              rw [ss_nx (env' := [some (.fro (([] : List Int).map W.int)), some (.int cnt), some (.int r), some (.bl by_), some (.ref S.length), some (.int i), some (.int 13)]) (S' := SA) (by simp [exS, exSs, evE, evEs])]
              rw [f]
              simp [exSs]
            · have hpos : 0 < ns.length := List.length_pos_iff.mpr hns
              obtain ⟨j, hj, hjl⟩ := fmod_rng (i : Int) hpos
              have e2 := atI_map (f := W.int) hjl
              refine ⟨ns[j] + 7919 * (i : Int), ?_⟩
              have f := fin (ns[j] + 7919 * (i : Int))
              have hp0 : ¬ ((ns.length : Int) = 0) := by omega
              have hp1 : (0 : Int) < (ns.length : Int) := by omega
              rw [exSs, exS, hand]
              simp only [R.bind_ok_]
              rw [ss_nx (env' := [some (.fro (ns.map W.int)), some (.int cnt), some (.int r), some (.bl by_), some (.ref S.length), some (.int i), some (.int 13)]) (S' := SA) (by simp [exS, evE])]
              rw [ss_nx (env' := [some (.fro (ns.map W.int)), some (.int cnt), some (.int r), some (.bl by_), some (.ref S.length), some (.int i), some (.int (ns[j] + 7919 * (i : Int)))]) (S' := SA) (by simp [exS, exSs, evE, evEs, hp0, hp1, hns, hj, e2, q3, hpos])]
              rw [f]
              simp [exSs]
          obtain ⟨z, hz⟩ := key
          exact ⟨_, _, _, rfl, .inl hz, r, _, some (.int i), some (.int z), rfl, rfl, by simp [e3]⟩)
    subst he hS
    rw [upTo_len] at hl
    exact ⟨zs, _, v5, v6, hl, e⟩
  obtain ⟨rest, hrest⟩ : ∃ rest : Int, exSs P (clOf P k) (.cons (.asg (.nm 2) (.int 0)) (.cons (.if_ (.cmp .gt (.blt .len (.cons (.var 0) .nil)) (.int 0)) (.cons (.asg (.nm 2) (.idx (.var 0) (.int 0))) .nil) .nil) .nil)) [some (.fro (ns.map W.int)), some (.int cnt), none, none, none, none, none] S = .ok (.nx [some (.fro (ns.map W.int)), some (.int cnt), some (.int rest), none, none, none, none]) S := by
    cases ns with
    | nil => exact ⟨0, by simp [exSs, exS, evE, evEs]⟩
    | cons n ns =>
      have h0 : (0 : Int) < (ns.length : Int) + 1 := by omega
      exact ⟨n, by simp [exSs, exS, evE, evEs, h0]⟩
  obtain ⟨zs, r, v5, v6, hl, e⟩ := loop rest (decide (10 ^ 18 ≤ rest))
  refine ⟨zs, hl, run_ret L.f1 rfl rfl (w := .ref S.length) (S1 := S ++ [.lst (zs.map W.int)]) (env0 := [some (.fro (ns.map W.int)), some (.int cnt), none, none, none, none, none]) ?_ ?_⟩
  · unfold d__law_numbers
    dsimp only
    rw [ss_two hrest]
    rw [ss_nx (env' := [some (.fro (ns.map W.int)), some (.int cnt), some (.int rest), some (.bl (decide (10 ^ 18 ≤ rest))), none, none, none]) (S' := S) (by simp [exS, evE, binW, qp])]
    rw [ss_nx (env' := [some (.fro (ns.map W.int)), some (.int cnt), some (.int rest), some (.bl (decide (10 ^ 18 ≤ rest))), some (.ref S.length), none, none]) (S' := S ++ [.lst []]) (by simp [exS, evE, evL, evEs])]
    rw [ss_nx e]
    simp [exSs, exS, evE]
  · refine exit_same ?_
    rw [resW_ref (Nat.le_refl _)]
    exact deref_lst (by simp) (pus_at (map_pu fun _ => rfl) _)
end
end Eng

set_option Elab.async false
set_option linter.all false
set_option maxHeartbeats 4000000
set_option maxRecDepth 100000
/-! E58: variables and expressions that laws draw. -/
namespace Eng
open PySem L2
abbrev cntw (a b n : Nat) : W := .lst [.int a, .int b, .int n]
def vow : Option (Bool × Nat) → W
  | none => .non
  | some (g, i) => vw g i
def voOk (a b : Nat) (v : Option (Bool × Nat)) : Prop := ∀ g i, v = some (g, i) → i < if g then a else b
section
variable {P : Prog} {k : Nat}
theorem names_ok (ht : P.tag = tg) {g : Bool} {t : Nat} {ix : Int} (htg : t = if g then 11 else 12) {S : Sto} {xs : List W} {n : Nat} (hx : xs.length + n ≤ 2000) {v0 v1 v3 : Option W} {C : Cl} {N : Nat} (hN : N = S.length)
    (hi : evE P C (.idx (.var 1) (.int ix)) [v0, v1, some (.ref N), v3] (S ++ [.lst xs]) = .ok (.int n) (S ++ [.lst xs])) :
    ∃ v, exS P C (.for_ (.nm 3) (.rng1 (.idx (.var 1) (.int ix))) (.cons (.expr (.bm .append (.var 2) (.cons (.tup (.cons (.str t) (.cons (.var 3) .nil))) .nil))) .nil)) [v0, v1, some (.ref N), v3] (S ++ [.lst xs]) =
      .ok (.nx [v0, v1, some (.ref N), v]) (S ++ [.lst (xs ++ (List.range n).map fun i => vw g i)]) := by
  subst hN
  have l2 : (2 : Nat) ≤ sizeLine := by decide
  obtain ⟨env', S', e, v, he, hS⟩ := for_go (P := P) (C := C) (t := .nm 3) (it := .rng1 (.idx (.var 1) (.int ix))) (b := (.cons (.expr (.bm .append (.var 2) (.cons (.tup (.cons (.str t) (.cons (.var 3) .nil))) .nil))) .nil))
    (env := [v0, v1, some (.ref S.length), v3]) (S := S ++ [.lst xs]) (S0 := S ++ [.lst xs]) (xs := upTo 0 n) (g := [])
    (fun i env S1 => ∃ v, env = [v0, v1, some (.ref S.length), v] ∧ S ++ [.lst (xs ++ (List.range i).map fun i => vw g i)] = S1)
    (evI_rngN hi (by omega)) (fun _ _ _ _ _ => gOk_nil) ⟨v3, rfl, by simp⟩ (fun i x env S1 hx ⟨v, e1, e2⟩ => by
      subst e1 e2
      obtain ⟨rfl, hi⟩ := upTo_at hx
      generalize hT : xs ++ (List.range i).map (fun i => vw g i) = T
      have hTl : T.length < sizeLine := Nat.lt_of_lt_of_le (show T.length < 2001 by rw [← hT]; simp; omega) (by decide)
      have ha := append_ref (S := S ++ [.lst T]) (l := S.length) (x := vw g i) (xs := T) (by simp) hTl
      have hb : bmK (S ++ [Ob.lst T]) .append (.ref S.length) = true := bmK_ref (xs := T) (by simp)
      have hset : (S ++ [Ob.lst T]).set S.length (.lst (T ++ [vw g i])) = S ++ [.lst (xs ++ (List.range (i + 1)).map fun i => vw g i)] := by
        rw [List.range_succ, List.map_append, ← List.append_assoc, hT]
        simp
      rw [hset] at ha
      refine ⟨_, _, _, rfl, .inl ?_, some (.int i), rfl, rfl⟩
      generalize S ++ [Ob.lst T] = SA at ha hb ⊢
      subst htg
      simp only [List.set_cons_succ, List.set_cons_zero]
      simp only [vw] at ha
      simp [exSs, exS, evE, evEs, hb, l2, ht]
      rw [ha]
      simp)
  subst he hS
  rw [upTo_len] at e
  exact ⟨v, e⟩
theorem variable_ok (L : LDraw P) {S : Sto} {l a b n : Nat} {zs : List Int} {c bd : Int} (hl : l < S.length) (hz : zs ≠ []) (hab : a + b ≤ 1000) :
    ∃ (vo : Option (Bool × Nat)) (c' : Int), voOk a b vo ∧ run P (k + 2) 35 [.ref l, cntw a b n] (S.set l (dst zs c bd)) = .ok (vow vo) (S.set l (dst zs c' bd)) := by
  have hlen : ∀ o : Ob, (S.set l o).length = S.length := fun o => by simp
  obtain ⟨v1, h1⟩ := names_ok (P := P) L.tag (g := true) (t := 11) (ix := 0) rfl (S := S.set l (dst zs c bd)) (xs := []) (n := a) (by simp; omega) (v0 := some (.ref l)) (v1 := some (cntw a b n)) (v3 := none) (C := clOf P (k + 1)) (N := S.length) (hlen _).symm (by simp [evE])
  obtain ⟨v2, h2⟩ := names_ok (P := P) L.tag (g := false) (t := 12) (ix := 1) rfl (S := S.set l (dst zs c bd)) (xs := (List.range a).map fun i => vw true i) (n := b) (by simp; omega) (v0 := some (.ref l)) (v1 := some (cntw a b n)) (v3 := v1) (C := clOf P (k + 1)) (N := S.length) (hlen _).symm (by simp [evE])
  simp only [List.nil_append] at h1
  generalize hT : ((List.range a).map fun i => vw true i) ++ ((List.range b).map fun i => vw false i) = T at h2
  have hTl : T.length = a + b := by rw [← hT]; simp
  have pre : ∀ ss, exSs P (clOf P (k + 1)) (.cons (.asg (.nm 2) (.alloc (.disp .nil))) (.cons (.for_ (.nm 3) (.rng1 (.idx (.var 1) (.int 0))) (.cons (.expr (.bm .append (.var 2) (.cons (.tup (.cons (.str 11) (.cons (.var 3) .nil))) .nil))) .nil)) (.cons (.for_ (.nm 3) (.rng1 (.idx (.var 1) (.int 1))) (.cons (.expr (.bm .append (.var 2) (.cons (.tup (.cons (.str 12) (.cons (.var 3) .nil))) .nil))) .nil)) ss))) [some (.ref l), some (cntw a b n), none, none] (S.set l (dst zs c bd)) = exSs P (clOf P (k + 1)) ss [some (.ref l), some (cntw a b n), some (.ref S.length), v2] (S.set l (dst zs c bd) ++ [.lst T]) := fun ss => by
    rw [ss_nx (env' := [some (.ref l), some (cntw a b n), some (.ref S.length), none]) (S' := S.set l (dst zs c bd) ++ [.lst []]) (by simp [exS, evE, evL, evEs])]
    rw [ss_nx h1, ss_nx h2]
  have hSl : (S.set l (dst zs c bd) ++ [Ob.lst T])[S.length]? = some (.lst T) := by
    rw [List.getElem?_append_right (by simp)]
    simp
  have gl := bltW_len_ref hSl
  by_cases h0 : a + b = 0
  · have hT0 : T = [] := List.eq_nil_of_length_eq_zero (by omega)
    subst hT0
    refine ⟨none, c, (fun _ _ h => by cases h), run_ret L.f35 rfl rfl (w := .non) (S1 := S.set l (dst zs c bd) ++ [.lst []]) (env0 := [some (.ref l), some (cntw a b n), none, none]) ?_ ?_⟩
    · unfold d__law_variable
      dsimp only
      rw [pre]
      simp at gl
      generalize S.set l (dst zs c bd) ++ [Ob.lst []] = SA at gl ⊢
      simp [exSs, exS, evE, evEs, gl]
    · rw [set_app hl]
      exact exit_dst (w := .non) hl rfl
  · obtain ⟨v, hv, e⟩ := pick_ok (P := P) (k := k) L (S := S ++ [.lst T]) (l := l) (m := a + b) (zs := zs) (c := c) (b := bd) (by simp; omega) hz (by omega)
    obtain ⟨g, i, hgi, hti⟩ : ∃ g i, (i < if g then a else b) ∧ T[v]? = some (vw g i) := by
      by_cases hva : v < a
      · refine ⟨true, v, hva, ?_⟩
        rw [← hT, List.getElem?_append_left (by simpa using hva)]
        simp [hva]
      · refine ⟨false, v - a, by simp; omega, ?_⟩
        rw [← hT, List.getElem?_append_right (by simp; omega)]
        have : v - a < b := by omega
        simp [this]
    refine ⟨some (g, i), c + 1, fun g' i' h => by cases h; exact hgi, run_ret L.f35 rfl rfl (w := vw g i) (S1 := (S ++ [Ob.lst T]).set l (dst zs (c + 1) bd)) (env0 := [some (.ref l), some (cntw a b n), none, none]) ?_ ?_⟩
    · unfold d__law_variable
      dsimp only
      rw [pre]
      rw [set_app hl] at gl ⊢
      have hS2 : ((S ++ [Ob.lst T]).set l (dst zs (c + 1) bd))[S.length]? = some (.lst T) := by
        rw [List.getElem?_set_ne (by omega)]
        simp
      have gi := idxW_ref (i := (v : Int)) hS2
      rw [atI_nat hti] at gi
      have hn : ¬ ((a + b : Nat) : Int) = 0 := by omega
      rw [hTl] at gl
      generalize a + b = ab at gl e hn
      generalize (S ++ [Ob.lst T]).set l (dst zs c bd) = SA at gl e ⊢
      generalize (S ++ [Ob.lst T]).set l (dst zs (c + 1) bd) = SB at gi e ⊢
      simp [exSs, exS, evE, evEs, gl, hn, clOf_fn, full_no L.toLib (f := 11) (by decide)]
      simp at e hn
      simp [e, gi, hn, gl]
    · exact exit_dst (w := vw g i) hl rfl
theorem vow_pu (v : Option (Bool × Nat)) : Pu (vow v) := by
  cases v with
  | none => rfl
  | some x => rfl
theorem expression_ok (L : LDraw P) {a b n : Nat} (hab : a + b ≤ 1000) {zs : List Int} (hz : zs ≠ []) : ∀ (d : Nat) {k : Nat} {S : Sto} {l : Nat} {c bd : Int}, l < S.length → d ≤ k →
    ∃ (e : Ex) (c' : Int), e.wf a b ∧ e.dp ≤ d ∧ run P (k + 3) 36 [.ref l, cntw a b n, .int d] (S.set l (dst zs c bd)) = .ok e.w (S.set l (dst zs c' bd)) := by
  intro d
  induction d with
  | zero =>
    intro k S l c bd hl hk
    exact body hl (fun h => absurd h (by decide))
  | succ d ih =>
    intro k S l c bd hl hk
    obtain ⟨k, rfl⟩ : ∃ k', k = k' + 1 := ⟨k - 1, by omega⟩
    refine body hl fun _ c => ?_
    rw [show ((d + 1 : Nat) : Int) - 1 = (d : Int) by omega]
    obtain ⟨e, c', h1, h2, h3⟩ := ih (k := k) (S := S) (l := l) (c := c) (bd := bd) hl (by omega)
    exact ⟨e, c', h1, by omega, h3⟩
where
  body {d k : Nat} {S : Sto} {l : Nat} {c bd : Int} (hl : l < S.length) (ih : 0 < d → ∀ c : Int, ∃ (e : Ex) (c' : Int), e.wf a b ∧ e.dp + 1 ≤ d ∧ run P (k + 2) 36 [.ref l, cntw a b n, .int ((d : Int) - 1)] (S.set l (dst zs c bd)) = .ok e.w (S.set l (dst zs c' bd))) :
      ∃ (e : Ex) (c' : Int), e.wf a b ∧ e.dp ≤ d ∧ run P (k + 3) 36 [.ref l, cntw a b n, .int d] (S.set l (dst zs c bd)) = .ok e.w (S.set l (dst zs c' bd)) := by
    have l2 : (2 : Nat) ≤ sizeLine := by decide
    have l3 : (3 : Nat) ≤ sizeLine := by decide
    have l4 : (4 : Nat) ≤ sizeLine := by decide
    obtain ⟨v, hv, e1⟩ := pick_ok (P := P) (k := k + 1) L (S := S) (l := l) (m := 7) (zs := zs) (c := c) (b := bd) hl hz (by decide)
    obtain ⟨vo, c2, hvo, e2⟩ := variable_ok (P := P) (k := k) L (S := S) (l := l) (a := a) (b := b) (n := n) (zs := zs) (c := c + 1) (bd := bd) hl hz hab
    have pre : ∀ ss, exSs P (clOf P (k + 2)) (.cons (.asg (.nm 3) (.call 11 (.cons (.var 0) (.cons (.int 7) .nil)))) (.cons (.asg (.nm 4) (.call 35 (.cons (.var 0) (.cons (.var 1) .nil)))) ss)) [some (.ref l), some (cntw a b n), some (.int d), none, none, none] (S.set l (dst zs c bd)) = exSs P (clOf P (k + 2)) ss [some (.ref l), some (cntw a b n), some (.int d), some (.int v), some (vow vo), none] (S.set l (dst zs c2 bd)) := fun ss => by
      rw [ss_nx (env' := [some (.ref l), some (cntw a b n), some (.int d), some (.int v), none, none]) (S' := S.set l (dst zs (c + 1) bd)) (by
        have : run P (k + 2) 11 [.ref l, .int 7] (S.set l (dst zs c bd)) = .ok (.int v) (S.set l (dst zs (c + 1) bd)) := e1
        simp [exS, evE, evEs, clOf_fn, full_no L.toLib (f := 11) (by decide), this])]
      rw [ss_nx (env' := [some (.ref l), some (cntw a b n), some (.int d), some (.int v), some (vow vo), none]) (S' := S.set l (dst zs c2 bd)) (by simp [exS, evE, evEs, clOf_fn, full_no L.toLib (f := 35) (by decide), e2])]
    have done : ∀ (e : Ex) (c' : Int), exSs P (clOf P (k + 2)) d__law_expression.body [some (.ref l), some (cntw a b n), some (.int d), none, none, none] (S.set l (dst zs c bd)) = .ok (.ret e.w) (S.set l (dst zs c' bd)) → run P (k + 3) 36 [.ref l, cntw a b n, .int d] (S.set l (dst zs c bd)) = .ok e.w (S.set l (dst zs c' bd)) := fun e c' h =>
      run_ret L.f36 rfl rfl (w := e.w) (S1 := S.set l (dst zs c' bd)) h (exit_dst0 hl (Ex.pu e))
    by_cases hc : d = 0 ∨ v < 2
    · have hor : evE P (clOf P (k + 2)) (.or_ (.cons (.cmp .eq (.var 2) (.int 0)) (.cons (.cmp .lt (.var 3) (.int 2)) .nil))) [some (.ref l), some (cntw a b n), some (.int d), some (.int v), some (vow vo), none] (S.set l (dst zs c2 bd)) = .ok (.bl true) (S.set l (dst zs c2 bd)) := by
        by_cases h0 : d = 0
        · subst h0; simp [evE, evOr]
        · have h1 : ((v : Int) < 2) := by omega
          have h0' : ¬ ((d : Int) = 0) := by omega
          simp [evE, evOr, h0, h0', h1]
      obtain ⟨u, hu, e3⟩ := pick_ok (P := P) (k := k + 1) L (S := S) (l := l) (m := 2) (zs := zs) (c := c2) (b := bd) hl hz (by decide)
      have e3' : run P (k + 2) 11 [.ref l, .int 2] (S.set l (dst zs c2 bd)) = .ok (.int u) (S.set l (dst zs (c2 + 1) bd)) := e3
      by_cases ht : vo = none ∨ (v : Int).fmod 3 = 1
      · refine ⟨.tr (decide ((u : Int) = 1)), c2 + 1, trivial, Nat.zero_le _, done _ _ ?_⟩
        unfold d__law_expression
        dsimp only
        rw [pre]
        rw [exSs, exS, hor]
        generalize hSA : S.set l (dst zs c2 bd) = SA at e3' ⊢
        have hor2 : evE P (clOf P (k + 2)) (.or_ (.cons (.cmp .isN (.var 4) .non) (.cons (.cmp .eq (.bin .mod (.var 3) (.int 3)) (.int 1)) .nil))) [some (.ref l), some (cntw a b n), some (.int d), some (.int v), some (vow vo), none] SA = .ok (.bl true) SA := by
          cases vo with
          | none => simp [evE, evOr, vow]
          | some x =>
            have h1 : (v : Int).fmod 3 = 1 := by rcases ht with h | h; cases h; exact h
            simp [evE, evOr, vow, h1]
        generalize (CE.or_ (.cons (.cmp .isN (.var 4) .non) (.cons (.cmp .eq (.bin .mod (.var 3) (.int 3)) (.int 1)) .nil))) = ce at hor2 ⊢
        simp [exSs, exS, evE, evEs, hor2, clOf_fn, full_no L.toLib (f := 11) (by decide), e3', l2, Ex.w, L.tag]
      · cases vo with
        | none => exact absurd (.inl rfl) ht
        | some x =>
          obtain ⟨g, i⟩ := x
          refine ⟨.of g i, c2, hvo g i rfl, Nat.zero_le _, done _ _ ?_⟩
          unfold d__law_expression
          dsimp only
          rw [pre]
          rw [exSs, exS, hor]
          have h1 : ¬ ((v : Int).fmod 3 = 1) := fun h => ht (.inr h)
          simp [exSs, exS, evE, evEs, evOr, vow, h1, l2, Ex.w, L.tag]
    · have h0 : ¬ (d = 0) := fun h => hc (.inl h)
      have h0' : ¬ ((d : Int) = 0) := by omega
      have hv2 : ¬ ((v : Int) < 2) := by omega
      obtain ⟨x, c3, x1, x2, x3⟩ := ih (by omega) c2
      by_cases hv3 : v = 2
      · subst hv3
        refine ⟨.nt x, c3, x1, by simpa [Ex.dp] using x2, done _ _ ?_⟩
        unfold d__law_expression
        dsimp only
        rw [pre]
        simp [exSs, exS, evE, evEs, evOr, h0, h0', clOf_fn, full_no L.toLib (f := 36) (by decide), x3, l2, Ex.w, L.tag]
      · obtain ⟨y, c4, y1, y2, y3⟩ := ih (by omega) c3
        have hcase : v = 3 ∨ v = 4 ∨ v = 5 ∨ v = 6 := by omega
        have a0 : ∀ (xs : List W), atI xs ((4 : Int) - 3) = atI xs 1 := fun _ => rfl
        rcases hcase with rfl | rfl | rfl | rfl
        · refine ⟨.an x y, c4, ⟨x1, y1⟩, by simp only [Ex.dp]; omega, done _ _ ?_⟩
          unfold d__law_expression
          dsimp only
          rw [pre]
          simp [exSs, exS, evE, evEs, evL, evOr, h0, h0', clOf_fn, full_no L.toLib (f := 36) (by decide), x3, y3, l2, l3, l4, Ex.w, L.tag]
        · refine ⟨.orr x y, c4, ⟨x1, y1⟩, by simp only [Ex.dp]; omega, done _ _ ?_⟩
          unfold d__law_expression
          dsimp only
          rw [pre]
          simp [exSs, exS, evE, evEs, evL, evOr, h0, h0', clOf_fn, full_no L.toLib (f := 36) (by decide), x3, y3, l2, l3, l4, Ex.w, L.tag]
        · refine ⟨.sm x y, c4, ⟨x1, y1⟩, by simp only [Ex.dp]; omega, done _ _ ?_⟩
          unfold d__law_expression
          dsimp only
          rw [pre]
          simp [exSs, exS, evE, evEs, evL, evOr, h0, h0', clOf_fn, full_no L.toLib (f := 36) (by decide), x3, y3, l2, l3, l4, Ex.w, L.tag]
        · refine ⟨.an x y, c4, ⟨x1, y1⟩, by simp only [Ex.dp]; omega, done _ _ ?_⟩
          unfold d__law_expression
          dsimp only
          rw [pre]
          simp [exSs, exS, evE, evEs, evL, evOr, h0, h0', clOf_fn, full_no L.toLib (f := 36) (by decide), x3, y3, l2, l3, l4, Ex.w, L.tag]
end
end Eng

set_option Elab.async false
set_option linter.all false
set_option maxHeartbeats 4000000
set_option maxRecDepth 100000
/-! E59: statements and bodies that laws draw. -/
namespace Eng
open PySem L2
section
variable {P : Prog} {k a b n : Nat} {zs : List Int}
def BodySpec (P : Prog) (a b n : Nat) (zs : List Int) (k d : Nat) : Prop := ∀ (S : Sto) (l : Nat) (c : Int) (bd most : Nat), l < S.length → most ≤ 20 →
  ∃ (ss : List St) (c' : Int) (bd' : Nat), Sts.wf a b n ss ∧ Sts.nd ss ≤ d ∧ Sts.sz ss + bd' ≤ bd ∧ run P k 12 [.ref l, cntw a b n, .int d, .int most] (S.set l (dst zs c bd)) = .ok (.tup (Sts.w ss)) (S.set l (dst zs c' bd'))
def StSpec (P : Prog) (a b n : Nat) (zs : List Int) (k d : Nat) : Prop := ∀ (S : Sto) (l : Nat) (c : Int) (bd : Nat), l < S.length →
  ∃ (s : St) (c' : Int) (bd' : Nat), s.wf a b n ∧ s.nd ≤ d ∧ s.sz + bd' ≤ bd + 1 ∧ run P k 27 [.ref l, cntw a b n, .int d] (S.set l (dst zs c bd)) = .ok s.w (S.set l (dst zs c' bd'))
theorem stmt_ok (L : LDraw P) (hab : a + b ≤ 1000) (hn : 0 < n) (hz : zs ≠ []) {d : Nat} (hk : 2 ≤ k) (ih : ∀ d', d = d' + 1 → BodySpec P a b n zs (k + 3) d') : StSpec P a b n zs (k + 4) d := by
  intro S l c bd hl
  have l1 : (1 : Nat) ≤ sizeLine := by decide
  have l2 : (2 : Nat) ≤ sizeLine := by decide
  have l3 : (3 : Nat) ≤ sizeLine := by decide
  have l4 : (4 : Nat) ≤ sizeLine := by decide
  have l8 : (8 : Nat) ≤ sizeLine := by decide
  obtain ⟨v, hv, e1⟩ := pick_ok (P := P) (k := k + 2) L (S := S) (l := l) (m := 11) (zs := zs) (c := c) (b := bd) hl hz (by decide)
  obtain ⟨vo, c2, hvo, e2⟩ := variable_ok (P := P) (k := k + 1) L (S := S) (l := l) (a := a) (b := b) (n := n) (zs := zs) (c := c + 1) (bd := bd) hl hz hab
  have pre : ∀ ss, exSs P (clOf P (k + 3)) (.cons (.asg (.nm 3) (.call 11 (.cons (.var 0) (.cons (.int 11) .nil)))) (.cons (.asg (.nm 4) (.call 35 (.cons (.var 0) (.cons (.var 1) .nil)))) ss)) [some (.ref l), some (cntw a b n), some (.int d), none, none, none] (S.set l (dst zs c bd)) = exSs P (clOf P (k + 3)) ss [some (.ref l), some (cntw a b n), some (.int d), some (.int v), some (vow vo), none] (S.set l (dst zs c2 bd)) := fun ss => by
    rw [ss_nx (env' := [some (.ref l), some (cntw a b n), some (.int d), some (.int v), none, none]) (S' := S.set l (dst zs (c + 1) bd)) (by
      have : run P (k + 3) 11 [.ref l, .int 11] (S.set l (dst zs c bd)) = .ok (.int v) (S.set l (dst zs (c + 1) bd)) := e1
      simp [exS, evE, evEs, clOf_fn, full_no L.toLib (f := 11) (by decide), this])]
    rw [ss_nx (env' := [some (.ref l), some (cntw a b n), some (.int d), some (.int v), some (vow vo), none]) (S' := S.set l (dst zs c2 bd)) (by simp [exS, evE, evEs, clOf_fn, full_no L.toLib (f := 35) (by decide), e2])]
  have done : ∀ (s : St) (c' : Int) (bd' : Nat), exSs P (clOf P (k + 3)) d__law_statement.body [some (.ref l), some (cntw a b n), some (.int d), none, none, none] (S.set l (dst zs c bd)) = .ok (.ret s.w) (S.set l (dst zs c' bd')) → run P (k + 4) 27 [.ref l, cntw a b n, .int d] (S.set l (dst zs c bd)) = .ok s.w (S.set l (dst zs c' bd')) := fun s c' bd' h =>
    run_ret L.f27 rfl rfl (w := s.w) (S1 := S.set l (dst zs c' bd')) h (exit_dst0 hl (St.pu s))
  have d0 : ¬ ((6 : Int) < (v : Int)) ∨ 7 ≤ v := by omega
  -- an expression
  have ex : ∀ (c : Int), ∃ (e : Ex) (c' : Int), e.wf a b ∧ e.dp ≤ 10 ∧ run P (k + 3) 36 [.ref l, cntw a b n, .int 2] (S.set l (dst zs c bd)) = .ok e.w (S.set l (dst zs c' bd)) := fun c => by
    obtain ⟨e, c', h1, h2, h3⟩ := expression_ok (P := P) L hab hz 2 (k := k) (S := S) (l := l) (c := c) (bd := bd) hl hk
    exact ⟨e, c', h1, by omega, h3⟩
  -- a pass
  have pass_case : (v = 5 ∨ (d = 0 ∧ 6 < v)) → ∃ (s : St) (c' : Int) (bd' : Nat), s.wf a b n ∧ s.nd ≤ d ∧ s.sz + bd' ≤ bd + 1 ∧ run P (k + 4) 27 [.ref l, cntw a b n, .int d] (S.set l (dst zs c bd)) = .ok s.w (S.set l (dst zs c' bd')) := fun hc => by
    obtain ⟨u, hu, e3⟩ := pick_ok (P := P) (k := k + 2) L (S := S) (l := l) (m := 8) (zs := zs) (c := c2) (b := bd) hl hz (by decide)
    have e3' : run P (k + 3) 11 [.ref l, .int 8] (S.set l (dst zs c2 bd)) = .ok (.int u) (S.set l (dst zs (c2 + 1) bd)) := e3
    obtain ⟨pl, hpl, hple⟩ : ∃ pl : Nat, atI [W.int 0, .int 1, .int 2, .int 0, .int 1, .int 2, .int 10, .int 999] (u : Int) = some (.int pl) ∧ pl ≤ 999 := by
      have : u = 0 ∨ u = 1 ∨ u = 2 ∨ u = 3 ∨ u = 4 ∨ u = 5 ∨ u = 6 ∨ u = 7 := by omega
      rcases this with rfl | rfl | rfl | rfl | rfl | rfl | rfl | rfl
      · exact ⟨0, rfl, by decide⟩
      · exact ⟨1, rfl, by decide⟩
      · exact ⟨2, rfl, by decide⟩
      · exact ⟨0, rfl, by decide⟩
      · exact ⟨1, rfl, by decide⟩
      · exact ⟨2, rfl, by decide⟩
      · exact ⟨10, rfl, by decide⟩
      · exact ⟨999, rfl, by decide⟩
    refine ⟨.pass pl, c2 + 1, bd, hple, Nat.zero_le _, by simp [St.sz]; omega, done _ _ _ ?_⟩
    unfold d__law_statement
    dsimp only
    rw [pre]
    generalize S.set l (dst zs c2 bd) = SA at e3' ⊢
    have n1 : ¬ ((v : Int) < 2) := by omega
    have n2 : ¬ ((v : Int) = 2) := by omega
    have n3 : ¬ ((v : Int) < 5) := by omega
    have hor : evE P (clOf P (k + 3)) (.or_ (.cons (.cmp .eq (.var 3) (.int 5)) (.cons (.and_ (.cons (.cmp .eq (.var 2) (.int 0)) (.cons (.cmp .gt (.var 3) (.int 6)) .nil))) .nil))) [some (.ref l), some (cntw a b n), some (.int d), some (.int v), some (vow vo), none] SA = .ok (.bl true) SA := by
      rcases hc with rfl | ⟨rfl, h6⟩
      · simp [evE, evOr]
      · have h6' : (6 : Int) < (v : Int) := by omega
        have h5 : ¬ ((v : Int) = 5) := by omega
        simp [evE, evOr, evAnd, h6', h5]
    generalize (CE.or_ (.cons (.cmp .eq (.var 3) (.int 5)) (.cons (.and_ (.cons (.cmp .eq (.var 2) (.int 0)) (.cons (.cmp .gt (.var 3) (.int 6)) .nil))) .nil))) = ce at hor ⊢
    rw [ss_nx (env' := [some (.ref l), some (cntw a b n), some (.int d), some (.int v), some (vow vo), none]) (S' := SA) (by simp [exS, exSs, evE, evAnd, n1])]
    rw [ss_nx (env' := [some (.ref l), some (cntw a b n), some (.int d), some (.int v), some (vow vo), none]) (S' := SA) (by simp [exS, exSs, evE, evAnd, n2])]
    rw [ss_nx (env' := [some (.ref l), some (cntw a b n), some (.int d), some (.int v), some (vow vo), none]) (S' := SA) (by simp [exS, exSs, evE, n3])]
    refine ss_ret ?_
    simp [exS, exSs, evE, evEs, evL, hor, clOf_fn, full_no L.toLib (f := 11) (by decide), e3', hpl, l2, l8, St.w, L.tag]
  -- a call
  have call_case : v < 5 → (v < 3 → vo = none) → ∃ (s : St) (c' : Int) (bd' : Nat), s.wf a b n ∧ s.nd ≤ d ∧ s.sz + bd' ≤ bd + 1 ∧ run P (k + 4) 27 [.ref l, cntw a b n, .int d] (S.set l (dst zs c bd)) = .ok s.w (S.set l (dst zs c' bd')) := fun h5 hvn => by
    obtain ⟨u, hu, e3⟩ := pick_ok (P := P) (k := k + 2) L (S := S) (l := l) (m := n) (zs := zs) (c := c2) (b := bd) hl hz hn
    refine ⟨.call u, c2 + 1, bd, hu, Nat.zero_le _, by simp [St.sz]; omega, done _ _ _ ?_⟩
    unfold d__law_statement
    dsimp only
    rw [pre]
    generalize S.set l (dst zs c2 bd) = SA at e3 ⊢
    have n3 : ((v : Int) < 5) := by omega
    rw [ss_nx (env' := [some (.ref l), some (cntw a b n), some (.int d), some (.int v), some (vow vo), none]) (S' := SA) (by
      by_cases h : v < 3
      · rw [hvn h]
        by_cases h2 : (v : Int) < 2
        · simp [exS, exSs, evE, evAnd, h2, vow]
        · simp [exS, exSs, evE, evAnd, h2, vow]
      · have h2 : ¬ ((v : Int) < 2) := by omega
        simp [exS, exSs, evE, evAnd, h2])]
    rw [ss_nx (env' := [some (.ref l), some (cntw a b n), some (.int d), some (.int v), some (vow vo), none]) (S' := SA) (by
      by_cases h : v < 3
      · rw [hvn h]
        by_cases h2 : (v : Int) = 2
        · simp [exS, exSs, evE, evAnd, h2, vow]
        · simp [exS, exSs, evE, evAnd, h2, vow]
      · have h2 : ¬ ((v : Int) = 2) := by omega
        simp [exS, exSs, evE, evAnd, h2])]
    refine ss_ret ?_
    simp [exS, exSs, evE, evEs, n3, clOf_fn, full_no L.toLib (f := 11) (by decide), e3, l2, St.w, L.tag]
  by_cases hc5 : v < 5
  · cases vo with
    | none => exact call_case hc5 fun _ => rfl
    | some x =>
      obtain ⟨g, i⟩ := x
      by_cases h3 : v < 3
      · by_cases h2 : v < 2
        · obtain ⟨e, c3, w1, w2, e3⟩ := ex c2
          refine ⟨.set g i e, c3, bd, ⟨hvo g i rfl, w1, w2⟩, Nat.zero_le _, by simp [St.sz]; omega, done _ _ _ ?_⟩
          unfold d__law_statement
          dsimp only
          rw [pre]
          have n1 : ((v : Int) < 2) := by omega
          refine ss_ret ?_
          simp [exS, exSs, evE, evEs, evAnd, n1, vow, clOf_fn, full_no L.toLib (f := 36) (by decide), e3, l3, St.w, L.tag]
        · refine ⟨.free g i, c2, bd, hvo g i rfl, Nat.zero_le _, by simp [St.sz]; omega, done _ _ _ ?_⟩
          unfold d__law_statement
          dsimp only
          rw [pre]
          have n1 : ¬ ((v : Int) < 2) := by omega
          have n2 : ((v : Int) = 2) := by omega
          rw [ss_nx (env' := [some (.ref l), some (cntw a b n), some (.int d), some (.int v), some (vow (some (g, i))), none]) (S' := S.set l (dst zs c2 bd)) (by simp [exS, exSs, evE, evAnd, n1])]
          refine ss_ret ?_
          simp [exS, exSs, evE, evEs, evAnd, n2, vow, l2, St.w, L.tag]
      · exact call_case hc5 fun h => absurd h h3
  · by_cases hp : v = 5 ∨ (d = 0 ∧ 6 < v)
    · exact pass_case hp
    · have n1 : ¬ ((v : Int) < 2) := by omega
      have n2 : ¬ ((v : Int) = 2) := by omega
      have n3 : ¬ ((v : Int) < 5) := by omega
      have rest : ∀ ss (SA : Sto), exSs P (clOf P (k + 3)) (.cons (.if_ (.and_ (.cons (.cmp .lt (.var 3) (.int 2)) (.cons (.cmp .notN (.var 4) .non) .nil))) (.cons (.ret (.tup (.cons (.str 31) (.cons (.var 4) (.cons (.call 36 (.cons (.var 0) (.cons (.var 1) (.cons (.int 2) .nil)))) .nil))))) .nil) .nil) (.cons (.if_ (.and_ (.cons (.cmp .eq (.var 3) (.int 2)) (.cons (.cmp .notN (.var 4) .non) .nil))) (.cons (.ret (.tup (.cons (.str 32) (.cons (.var 4) .nil)))) .nil) .nil) (.cons (.if_ (.cmp .lt (.var 3) (.int 5)) (.cons (.ret (.tup (.cons (.str 28) (.cons (.call 11 (.cons (.var 0) (.cons (.idx (.var 1) (.int 2)) .nil))) .nil)))) .nil) .nil) (.cons (.if_ (.or_ (.cons (.cmp .eq (.var 3) (.int 5)) (.cons (.and_ (.cons (.cmp .eq (.var 2) (.int 0)) (.cons (.cmp .gt (.var 3) (.int 6)) .nil))) .nil))) (.cons (.ret (.tup (.cons (.str 33) (.cons (.idx (.lst (.disp (.cons (.int 0) (.cons (.int 1) (.cons (.int 2) (.cons (.int 0) (.cons (.int 1) (.cons (.int 2) (.cons (.int 10) (.cons (.int 999) .nil)))))))))) (.call 11 (.cons (.var 0) (.cons (.int 8) .nil)))) .nil)))) .nil) .nil) ss))))
        [some (.ref l), some (cntw a b n), some (.int d), some (.int v), some (vow vo), none] SA = exSs P (clOf P (k + 3)) ss [some (.ref l), some (cntw a b n), some (.int d), some (.int v), some (vow vo), none] SA := fun ss SA => by
        rw [ss_nx (env' := [some (.ref l), some (cntw a b n), some (.int d), some (.int v), some (vow vo), none]) (S' := SA) (by simp [exS, exSs, evE, evAnd, n1])]
        rw [ss_nx (env' := [some (.ref l), some (cntw a b n), some (.int d), some (.int v), some (vow vo), none]) (S' := SA) (by simp [exS, exSs, evE, evAnd, n2])]
        rw [ss_nx (env' := [some (.ref l), some (cntw a b n), some (.int d), some (.int v), some (vow vo), none]) (S' := SA) (by simp [exS, exSs, evE, n3])]
        rw [ss_nx (env' := [some (.ref l), some (cntw a b n), some (.int d), some (.int v), some (vow vo), none]) (S' := SA) (by
          have n5 : ¬ ((v : Int) = 5) := by omega
          by_cases h0 : d = 0
          · have h6 : ¬ ((6 : Int) < (v : Int)) := by omega
            subst h0
            simp [exS, exSs, evE, evOr, evAnd, n5, h6]
          · have h0' : ¬ ((d : Int) = 0) := by omega
            simp [exS, exSs, evE, evOr, evAnd, n5, h0, h0'])]
      by_cases h6 : v = 6
      · subst h6
        refine ⟨.ret, c2, bd, by simp [St.wf], Nat.zero_le _, by simp [St.sz]; omega, done _ _ _ ?_⟩
        unfold d__law_statement
        dsimp only
        rw [pre, rest]
        refine ss_ret ?_
        simp [exS, exSs, evE, evEs, l1, St.w, L.tag]
      · have hv4 : v = 7 ∨ v = 8 ∨ v = 9 ∨ v = 10 := by omega
        obtain ⟨d', rfl⟩ : ∃ d', d = d' + 1 := ⟨d - 1, by omega⟩
        have hd1' : ((d' : Int) + 1) - 1 = (d' : Int) := Int.add_sub_cancel _ _
        have bdy := ih d' rfl
        rcases hv4 with rfl | rfl | rfl | rfl
        · obtain ⟨e, c3, w1, w2, e3⟩ := ex c2
          obtain ⟨xs, c4, b4, x1, x2, x3, x4⟩ := bdy S l c3 bd 2 hl (by decide)
          obtain ⟨ys, c5, b5, y1, y2, y3, y4⟩ := bdy S l c4 b4 2 hl (by decide)
          have x4' : run P (k + 3) 12 [.ref l, cntw a b n, .int d', .int 2] (S.set l (dst zs c3 bd)) = .ok (.tup (Sts.w xs)) (S.set l (dst zs c4 b4)) := x4
          have y4' : run P (k + 3) 12 [.ref l, cntw a b n, .int d', .int 2] (S.set l (dst zs c4 b4)) = .ok (.tup (Sts.w ys)) (S.set l (dst zs c5 b5)) := y4
          refine ⟨.ifs e xs ys, c5, b5, ⟨w1, w2, x1, y1⟩, by simp only [St.nd]; omega, by simp only [St.sz]; omega, done _ _ _ ?_⟩
          unfold d__law_statement
          dsimp only
          rw [pre, rest]
          rw [ss_nx (env' := [some (.ref l), some (cntw a b n), some (.int (d' + 1 : Nat)), some (.int 7), some (vow vo), none]) (S' := S.set l (dst zs c2 bd)) (by simp [exS, exSs, evE])]
          refine ss_ret ?_
          simp [exS, exSs, evE, evEs, clOf_fn, full_no L.toLib (f := 36) (by decide), full_no L.toLib (f := 12) (by decide), e3, hd1', x4', y4', l4, St.w, L.tag]
        · obtain ⟨xs, c4, b4, x1, x2, x3, x4⟩ := bdy S l c2 bd 2 hl (by decide)
          obtain ⟨ys, c5, b5, y1, y2, y3, y4⟩ := bdy S l c4 b4 2 hl (by decide)
          have x4' : run P (k + 3) 12 [.ref l, cntw a b n, .int d', .int 2] (S.set l (dst zs c2 bd)) = .ok (.tup (Sts.w xs)) (S.set l (dst zs c4 b4)) := x4
          have y4' : run P (k + 3) 12 [.ref l, cntw a b n, .int d', .int 2] (S.set l (dst zs c4 b4)) = .ok (.tup (Sts.w ys)) (S.set l (dst zs c5 b5)) := y4
          refine ⟨.either xs ys, c5, b5, ⟨x1, y1⟩, by simp only [St.nd]; omega, by simp only [St.sz]; omega, done _ _ _ ?_⟩
          unfold d__law_statement
          dsimp only
          rw [pre, rest]
          simp [exS, exSs, evE, evEs, clOf_fn, full_no L.toLib (f := 12) (by decide), hd1', x4', y4', l3, St.w, L.tag]
        · obtain ⟨e, c3, w1, w2, e3⟩ := ex c2
          obtain ⟨xs, c4, b4, x1, x2, x3, x4⟩ := bdy S l c3 bd 3 hl (by decide)
          have x4' : run P (k + 3) 12 [.ref l, cntw a b n, .int d', .int 3] (S.set l (dst zs c3 bd)) = .ok (.tup (Sts.w xs)) (S.set l (dst zs c4 b4)) := x4
          refine ⟨.wh e xs, c4, b4, ⟨w1, w2, x1⟩, by simp only [St.nd]; omega, by simp only [St.sz]; omega, done _ _ _ ?_⟩
          unfold d__law_statement
          dsimp only
          rw [pre, rest]
          simp [exS, exSs, evE, evEs, clOf_fn, full_no L.toLib (f := 36) (by decide), full_no L.toLib (f := 12) (by decide), e3, hd1', x4', l3, St.w, L.tag]
        · obtain ⟨xs, c4, b4, x1, x2, x3, x4⟩ := bdy S l c2 bd 3 hl (by decide)
          have x4' : run P (k + 3) 12 [.ref l, cntw a b n, .int d', .int 3] (S.set l (dst zs c2 bd)) = .ok (.tup (Sts.w xs)) (S.set l (dst zs c4 b4)) := x4
          refine ⟨.rep xs, c4, b4, x1, by simp only [St.nd]; omega, by simp only [St.sz]; omega, done _ _ _ ?_⟩
          unfold d__law_statement
          dsimp only
          rw [pre, rest]
          simp [exS, exSs, evE, evEs, clOf_fn, full_no L.toLib (f := 12) (by decide), hd1', x4', l2, St.w, L.tag]
theorem sws_app : ∀ (a b : List St), Sts.w (a ++ b) = Sts.w a ++ Sts.w b
  | [], b => rfl
  | s :: ss, b => by simp [Sts.w, sws_app ss b]
theorem wfs_app {a b n : Nat} : ∀ {x y : List St}, Sts.wf a b n x → Sts.wf a b n y → Sts.wf a b n (x ++ y)
  | [], y, _, h => h
  | s :: ss, y, h, h' => by simp only [Sts.wf, List.cons_append] at h ⊢; exact ⟨h.1, wfs_app h.2 h'⟩
theorem nds_app : ∀ (x y : List St), Sts.nd (x ++ y) = max (Sts.nd x) (Sts.nd y)
  | [], y => by simp [Sts.nd]
  | s :: ss, y => by simp only [Sts.nd, List.cons_append, nds_app ss y]; omega
theorem body_ok (L : LDraw P) (hz : zs ≠ []) {d : Nat} (ih : StSpec P a b n zs (k + 1) d) : BodySpec P a b n zs (k + 2) d := by
  intro S l c bd most hl hm
  obtain ⟨m, hmv, e1⟩ := pick_ok (P := P) (k := k) L (S := S ++ [.lst []]) (l := l) (m := most + 1) (zs := zs) (c := c) (b := bd) (by simp; omega) hz (by omega)
  have hmi : ((most + 1 : Nat) : Int) = (most : Int) + 1 := by omega
  rw [hmi] at e1
  obtain ⟨env', S', e, v5, ss, c', bd', he, hS, hw, hd, hs, hlen⟩ := for_go (P := P) (C := clOf P (k + 1)) (t := .nm 5) (it := .rng1 (.call 11 (.cons (.var 0) (.cons (.bin .add (.var 3) (.int 1)) .nil))))
    (b := (.cons (.if_ (.cmp .gt (.idx (.var 0) (.int 2)) (.int 0)) (.cons (.sub (.var 0) (.int 2) (.bin .sub (.idx (.var 0) (.int 2)) (.int 1))) (.cons (.expr (.bm .append (.var 4) (.cons (.call 27 (.cons (.var 0) (.cons (.var 1) (.cons (.var 2) .nil)))) .nil))) .nil)) .nil) .nil))
    (env := [some (.ref l), some (cntw a b n), some (.int d), some (.int most), some (.ref S.length), none]) (S := (S ++ [Ob.lst []]).set l (dst zs c bd)) (S0 := (S ++ [Ob.lst []]).set l (dst zs (c + 1) bd)) (xs := upTo 0 m) (g := [])
    (fun i env S1 => ∃ (v5 : Option W) (ss : List St) (c' : Int) (bd' : Nat), env = [some (.ref l), some (cntw a b n), some (.int d), some (.int most), some (.ref S.length), v5] ∧ (S ++ [Ob.lst (Sts.w ss)]).set l (dst zs c' bd') = S1 ∧ Sts.wf a b n ss ∧ Sts.nd ss ≤ d ∧ Sts.sz ss + bd' ≤ bd ∧ ss.length ≤ i)
    (evI_rngN (by
      have q : run P (k + 1) 11 [.ref l, .int ((most : Int) + 1)] ((S ++ [Ob.lst []]).set l (dst zs c bd)) = .ok (.int m) ((S ++ [Ob.lst []]).set l (dst zs (c + 1) bd)) := e1
      generalize (S ++ [Ob.lst []]).set l (dst zs c bd) = SA at q ⊢
      simp [evE, evEs, clOf_fn, full_no L.toLib (f := 11) (by decide), q]) (by omega)) (fun _ _ _ _ _ => gOk_nil) ⟨none, [], c + 1, bd, rfl, rfl, by simp [Sts.wf], by simp [Sts.nd], by simp [Sts.sz], by simp⟩
    (fun i x env S1 hx ⟨v5, ss, c', bd', e1, e2, w1, w2, w3, w4⟩ => by
      subst e1 e2
      obtain ⟨rfl, hi⟩ := upTo_at hx
      have hla : l < (S ++ [Ob.lst (Sts.w ss)]).length := by simp; omega
      have hS : ((S ++ [Ob.lst (Sts.w ss)]).set l (dst zs c' bd'))[l]? = some (dst zs c' bd') := List.getElem?_set_self hla
      have g2 := idxW_ref (i := 2) hS
      simp only [atI_2] at g2
      by_cases hb : bd' = 0
      · subst hb
        refine ⟨_, [some (.ref l), some (cntw a b n), some (.int d), some (.int most), some (.ref S.length), some (.int i)], (S ++ [Ob.lst (Sts.w ss)]).set l (dst zs c' (0 : Nat)), rfl, .inl ?_, some (.int i), ss, c', 0, rfl, rfl, w1, w2, w3, by omega⟩
        generalize (S ++ [Ob.lst (Sts.w ss)]).set l (dst zs c' (0 : Nat)) = SA at g2 ⊢
        simp [exSs, exS, evE, g2]
      · obtain ⟨bd2, rfl⟩ : ∃ b, bd' = b + 1 := ⟨bd' - 1, by omega⟩
        obtain ⟨s, c3, b3, s1, s2, s3, s4⟩ := ih (S ++ [Ob.lst (Sts.w ss)]) l c' bd2 hla
        have hsub := subW_lst (x := .int bd2) hS (n := 2) (by simp)
        simp only [List.set_set, List.set_cons_succ, List.set_cons_zero] at hsub
        have hsub' : subW ((S ++ [Ob.lst (Sts.w ss)]).set l (dst zs c' (bd2 + 1 : Nat))) (.ref l) (.int 2) (.int bd2) = some ((S ++ [Ob.lst (Sts.w ss)]).set l (dst zs c' bd2)) := hsub
        have hN : ((S ++ [Ob.lst (Sts.w ss)]).set l (dst zs c3 b3))[S.length]? = some (.lst (Sts.w ss)) := by
          rw [List.getElem?_set_ne (by omega)]
          simp
        have hN' : ((S ++ [Ob.lst (Sts.w ss)]).set l (dst zs c' bd2))[S.length]? = some (.lst (Sts.w ss)) := by
          rw [List.getElem?_set_ne (by omega)]
          simp
        have ha := append_ref (x := s.w) hN (by rw [sws_len]; exact Nat.lt_of_lt_of_le (show ss.length < 100 by omega) (by decide))
        have hb1 := bmK_ref hN'
        have hfin : ((S ++ [Ob.lst (Sts.w ss)]).set l (dst zs c3 b3)).set S.length (.lst (Sts.w ss ++ [s.w])) = (S ++ [Ob.lst (Sts.w (ss ++ [s]))]).set l (dst zs c3 b3) := by
          rw [List.set_comm _ _ (by omega)]
          congr 1
          rw [List.set_append_right _ _ (Nat.le_refl _)]
          simp [sws_app, Sts.w]
        rw [hfin] at ha
        refine ⟨_, [some (.ref l), some (cntw a b n), some (.int d), some (.int most), some (.ref S.length), some (.int i)], (S ++ [Ob.lst (Sts.w (ss ++ [s]))]).set l (dst zs c3 b3), rfl, .inl ?_, some (.int i), ss ++ [s], c3, b3, rfl, rfl, wfs_app w1 (by simp only [Sts.wf]; exact ⟨s1, trivial⟩), by rw [nds_app]; simp only [Sts.nd]; omega, by rw [szs_append]; simp only [Sts.sz]; omega, by simp; omega⟩
        have hpos : (0 : Int) < ((bd2 + 1 : Nat) : Int) := by omega
        have hdec : ((bd2 + 1 : Nat) : Int) - 1 = (bd2 : Int) := by omega
        generalize hbi : ((bd2 + 1 : Nat) : Int) = bi at *
        generalize (S ++ [Ob.lst (Sts.w ss)]).set l (dst zs c' bi) = SA at g2 hsub' ⊢
        generalize (S ++ [Ob.lst (Sts.w ss)]).set l (dst zs c' bd2) = SB at hsub' s4 hb1 ⊢
        generalize (S ++ [Ob.lst (Sts.w ss)]).set l (dst zs c3 b3) = SC at s4 ha ⊢
        generalize (S ++ [Ob.lst (Sts.w (ss ++ [s]))]).set l (dst zs c3 b3) = SD at ha ⊢
        simp [exSs, exS, evE, evEs, g2, hpos, hdec, hsub', hb1, clOf_fn, full_no L.toLib (f := 27) (by decide), s4, ha])
  subst he hS
  refine ⟨ss, c', bd', hw, hd, hs, run_ret L.f12 rfl rfl (w := .tup (Sts.w ss)) (env0 := [some (.ref l), some (cntw a b n), some (.int d), some (.int most), none, none]) (S1 := (S ++ [Ob.lst (Sts.w ss)]).set l (dst zs c' bd')) ?_ ?_⟩
  · unfold d__law_body
    dsimp only
    rw [ss_nx (env' := [some (.ref l), some (cntw a b n), some (.int d), some (.int most), some (.ref S.length), none]) (S' := (S ++ [Ob.lst []]).set l (dst zs c bd)) (by rw [← set_app hl]; simp [exS, evE, evL, evEs])]
    rw [ss_nx e]
    have hN : ((S ++ [Ob.lst (Sts.w ss)]).set l (dst zs c' bd'))[S.length]? = some (.lst (Sts.w ss)) := by
      rw [List.getElem?_set_ne (by omega)]
      simp
    generalize (S ++ [Ob.lst (Sts.w ss)]).set l (dst zs c' bd') = SA at hN ⊢
    simp [exSs, exS, evE, evEs, hN]
  · exact exit_dst (w := .tup (Sts.w ss)) hl (by have := Sts.pu ss; simpa [Pu, below] using this)
theorem bodies_drawn (L : LDraw P) (hab : a + b ≤ 1000) (hn : 0 < n) (hz : zs ≠ []) : ∀ (d : Nat) {k : Nat}, 2 * d + 6 ≤ k → BodySpec P a b n zs (k + 1) d := by
  intro d
  induction d with
  | zero =>
    intro k hk
    obtain ⟨k, rfl⟩ : ∃ k', k = k' + 4 := ⟨k - 4, by omega⟩
    exact body_ok L hz (stmt_ok L hab hn hz (by omega) (fun d' h => by omega))
  | succ d ih =>
    intro k hk
    obtain ⟨k, rfl⟩ : ∃ k', k = k' + 4 := ⟨k - 4, by omega⟩
    exact body_ok L hz (stmt_ok L hab hn hz (by omega) (fun d' h => by
      obtain rfl : d = d' := by omega
      exact ih (by omega)))
end
end Eng

set_option Elab.async false
set_option linter.all false
set_option maxHeartbeats 4000000
set_option maxRecDepth 100000
/-! E60: the drawn program. -/
namespace Eng
open PySem L2
section
variable {P : Prog} {k : Nat} {zs : List Int}
abbrev lpS (S : Sto) (zs : List Int) (c bd : Int) (T : List W) : Sto := (S ++ [dst zs 0 0, Ob.lst T]).set S.length (dst zs c bd)
theorem program_drawn (L : LDraw P) (hz : zs ≠ []) (hz1 : 1 < zs.length) {bd : Nat} (hbd : bd ≤ 40) {lg : Bool} (hk : 16 ≤ k) {S : Sto} :
    ∃ p : Pg, p.Wf ∧ run P (k + 1) 2 [.lst (zs.map W.int), .int bd, .bl lg] S = .ok (.lst [.int p.g, .lst (p.procs.map prw)]) S := by
  obtain ⟨k, rfl⟩ : ∃ k', k = k' + 1 := ⟨k - 1, by omega⟩
  have l2 : (2 : Nat) ≤ sizeLine := by decide
  have l3 : (3 : Nat) ≤ sizeLine := by decide
  have pick1 : ∀ (m : Nat) (c b : Int), 0 < m → ∃ v : Nat, v < m ∧ run P (k + 1) 11 [.ref S.length, .int m] (S ++ [dst zs c b]) = .ok (.int v) (S ++ [dst zs (c + 1) b]) := fun m c b hm => by
    obtain ⟨v, hv, e⟩ := pick_ok (P := P) (k := k) L (S := S ++ [dst zs c b]) (l := S.length) (m := m) (zs := zs) (c := c) (b := b) (by simp) hz hm
    refine ⟨v, hv, ?_⟩
    have h1 : (S ++ [dst zs c b]).set S.length (dst zs c b) = S ++ [dst zs c b] := by simp
    have h2 : (S ++ [dst zs c b]).set S.length (dst zs (c + 1) b) = S ++ [dst zs (c + 1) b] := by simp
    rw [h1, h2] at e
    exact e
  -- the counts
  have pre : ∃ (g n nr : Nat) (c : Int) (b : Nat), g ≤ 3 ∧ 1 ≤ n ∧ n ≤ 4 ∧ (nr = 2 ∨ nr = 4) ∧ b ≤ bd ∧ ∀ ss, exSs P (clOf P (k + 1)) (.cons (.asg (.nm 3) (.alloc (.disp (.cons (.var 0) (.cons (.int 0) (.cons (.var 1) .nil)))))) (.cons (.asg (.nm 4) (.call 11 (.cons (.var 3) (.cons (.int 3) .nil)))) (.cons (.asg (.nm 5) (.bin .add (.call 11 (.cons (.var 3) (.cons (.int 2) .nil))) (.int 1))) (.cons (.asg (.nm 6) (.int 2)) (.cons (.if_ (.and_ (.cons (.var 2) (.cons (.cmp .eq (.bin .mod (.bin .fdiv (.idx (.var 0) (.int 1)) (.int 11)) (.int 4)) (.int 1)) .nil))) (.cons (.asg (.nm 4) (.call 11 (.cons (.var 3) (.cons (.int 4) .nil)))) (.cons (.asg (.nm 5) (.bin .add (.call 11 (.cons (.var 3) (.cons (.int 4) .nil))) (.int 1))) (.cons (.asg (.nm 6) (.int 4)) (.cons (.sub (.var 3) (.int 2) (.blt .min2 (.cons (.var 1) (.cons (.int 7) .nil)))) .nil)))) .nil) ss)))))
      [some (.lst (zs.map W.int)), some (.int bd), some (.bl lg), none, none, none, none, none, none, none] S = exSs P (clOf P (k + 1)) ss [some (.lst (zs.map W.int)), some (.int bd), some (.bl lg), some (.ref S.length), some (.int g), some (.int n), some (.int nr), none, none, none] (S ++ [dst zs c b]) := by
    obtain ⟨g, hg, e1⟩ := pick1 3 0 bd (by decide)
    obtain ⟨n, hn, e2⟩ := pick1 2 1 bd (by decide)
    have e1' : run P (k + 1) 11 [.ref S.length, .int 3] (S ++ [dst zs 0 bd]) = .ok (.int g) (S ++ [dst zs 1 bd]) := e1
    have e2' : run P (k + 1) 11 [.ref S.length, .int 2] (S ++ [dst zs 1 bd]) = .ok (.int n) (S ++ [dst zs 2 bd]) := e2
    have st4 : ∀ ss, exSs P (clOf P (k + 1)) (.cons (.asg (.nm 3) (.alloc (.disp (.cons (.var 0) (.cons (.int 0) (.cons (.var 1) .nil)))))) (.cons (.asg (.nm 4) (.call 11 (.cons (.var 3) (.cons (.int 3) .nil)))) (.cons (.asg (.nm 5) (.bin .add (.call 11 (.cons (.var 3) (.cons (.int 2) .nil))) (.int 1))) (.cons (.asg (.nm 6) (.int 2)) ss))))
      [some (.lst (zs.map W.int)), some (.int bd), some (.bl lg), none, none, none, none, none, none, none] S = exSs P (clOf P (k + 1)) ss [some (.lst (zs.map W.int)), some (.int bd), some (.bl lg), some (.ref S.length), some (.int g), some (.int (n + 1 : Nat)), some (.int 2), none, none, none] (S ++ [dst zs 2 bd]) := fun ss => by
      rw [ss_nx (env' := [some (.lst (zs.map W.int)), some (.int bd), some (.bl lg), some (.ref S.length), none, none, none, none, none, none]) (S' := S ++ [dst zs 0 bd]) (by simp [exS, evE, evL, evEs, l3])]
      rw [ss_nx (env' := [some (.lst (zs.map W.int)), some (.int bd), some (.bl lg), some (.ref S.length), some (.int g), none, none, none, none, none]) (S' := S ++ [dst zs 1 bd]) (by simp [exS, evE, evEs, clOf_fn, full_no L.toLib (f := 11) (by decide), e1'])]
      rw [ss_nx (env' := [some (.lst (zs.map W.int)), some (.int bd), some (.bl lg), some (.ref S.length), some (.int g), some (.int (n + 1 : Nat)), none, none, none, none]) (S' := S ++ [dst zs 2 bd]) (by simp [exS, evE, evEs, clOf_fn, full_no L.toLib (f := 11) (by decide), e2'])]
      rw [ss_nx (env' := [some (.lst (zs.map W.int)), some (.int bd), some (.bl lg), some (.ref S.length), some (.int g), some (.int (n + 1 : Nat)), some (.int 2), none, none, none]) (S' := S ++ [dst zs 2 bd]) (by simp [exS, evE])]
    have a1 := atI_map (f := W.int) hz1
    have a1' : atI (zs.map W.int) 1 = some (.int zs[1]) := a1
    have qd : CDivN (zs[1]) 11 := ⟨by decide, by decide⟩
    by_cases hc : lg = true ∧ ((zs[1]).fdiv 11).fmod 4 = 1
    · obtain ⟨rfl, hc⟩ := hc
      obtain ⟨g2, hg2, e3⟩ := pick1 4 2 bd (by decide)
      obtain ⟨n2, hn2, e4⟩ := pick1 4 3 bd (by decide)
      have e3' : run P (k + 1) 11 [.ref S.length, .int 4] (S ++ [dst zs 2 bd]) = .ok (.int g2) (S ++ [dst zs 3 bd]) := e3
      have e4' : run P (k + 1) 11 [.ref S.length, .int 4] (S ++ [dst zs 3 bd]) = .ok (.int n2) (S ++ [dst zs 4 bd]) := e4
      refine ⟨g2, n2 + 1, 4, 4, min bd 7, by omega, by omega, by omega, .inr rfl, Nat.min_le_left _ _, fun ss => ?_⟩
      rw [st4]
      have hSl : (S ++ [dst zs 4 bd])[S.length]? = some (dst zs 4 bd) := by simp
      have hmin : (if (7 : Int) < (bd : Int) then (7 : Int) else (bd : Int)) = ((min bd 7 : Nat) : Int) := by
        by_cases h : 7 < bd
        · rw [if_pos (by omega), Nat.min_eq_right (by omega)]; rfl
        · rw [if_neg (by omega), Nat.min_eq_left (by omega)]
      have hsub := subW_lst (x := .int (min bd 7 : Nat)) hSl (n := 2) (by simp)
      have hsub' : subW (S ++ [dst zs 4 bd]) (.ref S.length) (.int 2) (.int (min bd 7 : Nat)) = some (S ++ [dst zs 4 (min bd 7 : Nat)]) := by
        refine hsub.trans ?_
        simp
      have hcond : evE P (clOf P (k + 1)) (.and_ (.cons (.var 2) (.cons (.cmp .eq (.bin .mod (.bin .fdiv (.idx (.var 0) (.int 1)) (.int 11)) (.int 4)) (.int 1)) .nil))) [some (.lst (zs.map W.int)), some (.int bd), some (.bl true), some (.ref S.length), some (.int g), some (.int (n + 1 : Nat)), some (.int 2), none, none, none] (S ++ [dst zs 2 bd]) = .ok (.bl true) (S ++ [dst zs 2 bd]) := by
        simp [evE, evAnd, a1', qd, hc]
      rw [exSs, exS, hcond]
      simp only [R.bind_ok_]
      generalize S ++ [dst zs 2 bd] = SA at e3' ⊢
      generalize S ++ [dst zs 3 bd] = SB at e3' e4' ⊢
      generalize S ++ [dst zs 4 bd] = SC at e4' hsub' ⊢
      rw [ss_nx (env' := [some (.lst (zs.map W.int)), some (.int bd), some (.bl true), some (.ref S.length), some (.int g2), some (.int (n + 1 : Nat)), some (.int 2), none, none, none]) (S' := SB) (by simp [exS, evE, evEs, clOf_fn, full_no L.toLib (f := 11) (by decide), e3'])]
      rw [ss_nx (env' := [some (.lst (zs.map W.int)), some (.int bd), some (.bl true), some (.ref S.length), some (.int g2), some (.int (n2 + 1 : Nat)), some (.int 2), none, none, none]) (S' := SC) (by simp [exS, evE, evEs, clOf_fn, full_no L.toLib (f := 11) (by decide), e4'])]
      rw [ss_nx (env' := [some (.lst (zs.map W.int)), some (.int bd), some (.bl true), some (.ref S.length), some (.int g2), some (.int (n2 + 1 : Nat)), some (.int 4), none, none, none]) (S' := SC) (by simp [exS, evE])]
      rw [ss_nx (env' := [some (.lst (zs.map W.int)), some (.int bd), some (.bl true), some (.ref S.length), some (.int g2), some (.int (n2 + 1 : Nat)), some (.int 4), none, none, none]) (S' := S ++ [dst zs 4 (min bd 7 : Nat)]) (by
        rw [exS, evE]
        simp only [evE, evEs, List.getElem?_cons_succ, List.getElem?_cons_zero, Option.join_some, R.of_some_, R.bind_ok_, bltW_min2, hmin, hsub'])]
      rw [exSs]
      rfl
    · refine ⟨g, n + 1, 2, 2, bd, by omega, by omega, by omega, .inl rfl, Nat.le_refl _, fun ss => ?_⟩
      rw [st4]
      rw [ss_nx (env' := [some (.lst (zs.map W.int)), some (.int bd), some (.bl lg), some (.ref S.length), some (.int g), some (.int (n + 1 : Nat)), some (.int 2), none, none, none]) (S' := S ++ [dst zs 2 bd]) (by
        cases lg with
        | false => simp [exS, exSs, evE, evAnd]
        | true =>
          have hc' : ¬ (((zs[1]).fdiv 11).fmod 4 = 1) := fun h => hc ⟨rfl, h⟩
          simp [exS, exSs, evE, evAnd, a1', qd, hc'])]
      rfl
  obtain ⟨g, n, nr, c, b, hg, hn1, hn4, hnr, hb, hpre⟩ := pre
  have hN : (S ++ [dst zs c b]).length = S.length + 1 := by simp
  obtain ⟨env', S', e, v8, v9, procs, c', b', he, hS, hpl, hpw, hsz⟩ := for_go (P := P) (C := clOf P (k + 1)) (t := .nm 8) (it := .rng1 (.var 5))
    (b := (.cons (.asg (.nm 9) (.call 11 (.cons (.var 3) (.cons (.var 6) .nil)))) (.cons (.expr (.bm .append (.var 7) (.cons (.tup (.cons (.var 9) (.cons (.call 12 (.cons (.var 3) (.cons (.lst (.disp (.cons (.var 4) (.cons (.var 9) (.cons (.var 5) .nil))))) (.cons (.int 2) (.cons (.int 4) .nil))))) .nil))) .nil))) .nil)))
    (env := [some (.lst (zs.map W.int)), some (.int bd), some (.bl lg), some (.ref S.length), some (.int g), some (.int n), some (.int nr), some (.ref (S.length + 1)), none, none]) (S := lpS S zs c b []) (S0 := lpS S zs c b []) (xs := upTo 0 n) (g := [])
    (fun i env S1 => ∃ (v8 v9 : Option W) (procs : List (Nat × List St)) (c' : Int) (b' : Nat), env = [some (.lst (zs.map W.int)), some (.int bd), some (.bl lg), some (.ref S.length), some (.int g), some (.int n), some (.int nr), some (.ref (S.length + 1)), v8, v9] ∧ lpS S zs c' b' (procs.map prw) = S1 ∧ procs.length = i ∧ (∀ x ∈ procs, x.1 ≤ 3 ∧ Sts.wf g x.1 n x.2 ∧ Sts.nd x.2 ≤ 2) ∧ (ptsFrom 0 0 procs).length + b' ≤ bd + i)
    (evI_rngN (by simp [evE]) (by omega)) (fun _ _ _ _ _ => gOk_nil) ⟨none, none, [], c, b, rfl, rfl, rfl, by simp, by simp [ptsFrom]; exact hb⟩
    (fun i x env S1 hx ⟨v8, v9, procs, c', b', e1, e2, w1, w2, w3⟩ => by
      subst e1 e2
      obtain ⟨rfl, hi⟩ := upTo_at hx
      have hl : S.length < (S ++ [dst zs 0 0, Ob.lst (procs.map prw)]).length := by simp
      obtain ⟨nl, hnl, p1⟩ := pick_ok (P := P) (k := k) L (S := S ++ [dst zs 0 0, Ob.lst (procs.map prw)]) (l := S.length) (m := nr) (zs := zs) (c := c') (b := b') hl hz (by omega)
      obtain ⟨ss, c2, b2, s1, s2, s3, s4⟩ := bodies_drawn (P := P) (a := g) (b := nl) (n := n) L (by omega) (by omega) hz 2 (k := k) (by omega) (S ++ [dst zs 0 0, Ob.lst (procs.map prw)]) S.length (c' + 1) b' 4 hl (by decide)
      have s4' : run P (k + 1) 12 [.ref S.length, cntw g nl n, .int 2, .int 4] (lpS S zs (c' + 1) b' (procs.map prw)) = .ok (.tup (Sts.w ss)) (lpS S zs c2 b2 (procs.map prw)) := s4
      have p1' : run P (k + 1) 11 [.ref S.length, .int nr] (lpS S zs c' b' (procs.map prw)) = .ok (.int nl) (lpS S zs (c' + 1) b' (procs.map prw)) := p1
      have hN1 : (lpS S zs c2 b2 (procs.map prw))[S.length + 1]? = some (.lst (procs.map prw)) := by
        show ((S ++ [dst zs 0 0, Ob.lst (procs.map prw)]).set S.length (dst zs c2 b2))[S.length + 1]? = _
        rw [List.getElem?_set_ne (by omega)]
        simp
      have hN2 : (lpS S zs (c' + 1) b' (procs.map prw))[S.length + 1]? = some (.lst (procs.map prw)) := by
        show ((S ++ [dst zs 0 0, Ob.lst (procs.map prw)]).set S.length (dst zs (c' + 1) b'))[S.length + 1]? = _
        rw [List.getElem?_set_ne (by omega)]
        simp
      have hb1 := bmK_ref hN2
      have ha := append_ref (x := prw (nl, ss)) hN1 (by rw [List.length_map, w1]; exact Nat.lt_of_lt_of_le (show i < 100 by omega) (by decide))
      have hfin : (lpS S zs c2 b2 (procs.map prw)).set (S.length + 1) (.lst (procs.map prw ++ [prw (nl, ss)])) = lpS S zs c2 b2 ((procs ++ [(nl, ss)]).map prw) := by
        show ((S ++ [dst zs 0 0, Ob.lst (procs.map prw)]).set S.length (dst zs c2 b2)).set (S.length + 1) _ = (S ++ [dst zs 0 0, Ob.lst ((procs ++ [(nl, ss)]).map prw)]).set S.length (dst zs c2 b2)
        simp
      rw [hfin] at ha
      refine ⟨_, [some (.lst (zs.map W.int)), some (.int bd), some (.bl lg), some (.ref S.length), some (.int g), some (.int n), some (.int nr), some (.ref (S.length + 1)), some (.int i), some (.int nl)], lpS S zs c2 b2 ((procs ++ [(nl, ss)]).map prw), rfl, .inl ?_, some (.int i), some (.int nl), procs ++ [(nl, ss)], c2, b2, rfl, rfl, by simp [w1], ?_, ?_⟩
      · generalize lpS S zs c' b' (procs.map prw) = SA at p1' ⊢
        generalize lpS S zs (c' + 1) b' (procs.map prw) = SB at p1' s4' hb1 ⊢
        generalize lpS S zs c2 b2 (procs.map prw) = SC at s4' ha ⊢
        generalize lpS S zs c2 b2 ((procs ++ [(nl, ss)]).map prw) = SD at ha ⊢
        simp only [List.set_cons_succ, List.set_cons_zero]
        rw [ss_nx (env' := [some (.lst (zs.map W.int)), some (.int bd), some (.bl lg), some (.ref S.length), some (.int g), some (.int n), some (.int nr), some (.ref (S.length + 1)), some (.int i), some (.int nl)]) (S' := SB) (by simp [exS, evE, evEs, clOf_fn, full_no L.toLib (f := 11) (by decide), p1'])]
        simp only [prw] at ha
        simp [exSs, exS, evE, evEs, evL, hb1, clOf_fn, full_no L.toLib (f := 12) (by decide), s4', l2, l3, ha]
      · intro x hx
        rcases List.mem_append.mp hx with hx | hx
        · exact w2 x hx
        · simp at hx
          subst hx
          exact ⟨by dsimp only; omega, s1, s2⟩
      · have := ptsFrom_append [(nl, ss)] procs 0 0
        rw [this, List.length_append]
        simp [ptsFrom, lays_len]
        omega)
  subst he hS
  rw [upTo_len] at hpl hsz
  refine ⟨⟨g, procs⟩, ⟨hg, ⟨by dsimp only; omega, by dsimp only; omega⟩, fun x hx => (hpw x hx).1, fun x hx => by dsimp only; rw [hpl]; exact (hpw x hx).2.1, fun x hx => by have := (hpw x hx).2.2; omega, by dsimp only; omega⟩, ?_⟩
  refine run_ret L.f2 rfl rfl (w := .lst [.int g, .ref (S.length + 1)]) (env0 := [some (.lst (zs.map W.int)), some (.int bd), some (.bl lg), none, none, none, none, none, none, none]) (S1 := lpS S zs c' b' (procs.map prw)) ?_ ?_
  · unfold d__law_program
    dsimp only
    rw [hpre]
    rw [ss_nx (env' := [some (.lst (zs.map W.int)), some (.int bd), some (.bl lg), some (.ref S.length), some (.int g), some (.int n), some (.int nr), some (.ref (S.length + 1)), none, none]) (S' := lpS S zs c b []) (by simp [exS, evE, evL, evEs, lpS])]
    rw [ss_nx e]
    simp [exSs, exS, evE, evEs, evL, l2]
  · have hS : lpS S zs c' b' (procs.map prw) = S ++ [dst zs c' b', Ob.lst (procs.map prw)] := by
      show (S ++ [dst zs 0 0, Ob.lst (procs.map prw)]).set S.length (dst zs c' b') = _
      simp
    rw [hS]
    refine exit_same ?_
    have d1 : deref S.length [dst zs c' b', Ob.lst (procs.map prw)] 8 (S.length + 1) = some (.lst (procs.map prw)) := deref_lst (by simp) (pus_at (map_pu prw_pu) _)
    have r1 : resWs S.length (deref S.length [dst zs c' b', Ob.lst (procs.map prw)] 8) [.int g, .ref (S.length + 1)] = some [.int g, .lst (procs.map prw)] := by
      have r0 : resW S.length (deref S.length [dst zs c' b', Ob.lst (procs.map prw)] 8) (.int g) = some (.int g) := by simp [resW]
      simp only [resWs, r0, resW_ref (show S.length ≤ S.length + 1 by omega), d1]
    unfold resW
    rw [r1]
    rfl
end
end Eng

set_option Elab.async false
set_option linter.all false
set_option maxHeartbeats 4000000
set_option maxRecDepth 100000
/-! E61: Walker and Coder of a well formed program. -/
namespace Eng
open PySem L2
section
variable {P : Prog} {k : Nat}
theorem made_of (L : LPts P) (C : LCo P) {p : Pg} (w : p.Wf) : MkOk P p (mpOf p.procs) 49 ∧ CoOk P p (mpOf p.procs) (coOf (csP p)) 49 := by
  have hsz := w.sz
  have hm := walker_made (P := P) (p := p) (n := 30) L w.nd (by show (ptsFrom 0 0 p.procs).length ≤ 5000; omega) (by have := w.np; omega)
  have hpr : ∀ t ∈ (mpOf p.procs).pts, t.pr < p.procs.length := fun t ht => by
    obtain ⟨i, hi⟩ := List.mem_iff_getElem?.mp ht
    have hil : i < (ptsFrom 0 0 p.procs).length := (List.getElem?_eq_some_iff.mp hi).1
    rw [← pbase_len] at hil
    obtain ⟨j, x, h1, h2, h3, h4⟩ := pt_proc _ i (Nat.le_refl _) hil
    obtain ⟨t', e, q⟩ := pt_at w h1 h3 h4
    have e' : (mpOf p.procs).pts[i]? = some t' := e
    rw [hi] at e'
    cases e'
    rw [q.pr]
    exact h2
  have hc3 : ∀ c ∈ csP p, c ≤ 3 := fun c hc => by
    simp only [csP, csOf, List.mem_map] at hc
    obtain ⟨t, ht, rfl⟩ := hc
    have := hpr t ht
    exact w.lc _ (by simp [List.getD_eq_getElem?_getD, this])
  refine ⟨fun k hk => hm k (by omega), co_made C hm hpr (fun c hc => by have := hc3 c hc; omega) (by show (ptsFrom 0 0 p.procs).length ≤ 1000; omega) fun i hi => ?_⟩
  have hg : ∀ j, (csP p).getD j 0 ≤ 3 := fun j => by
    by_cases hj : j < (csP p).length
    · exact hc3 _ (getD_mem hj)
    · simp [List.getD_eq_getElem?_getD, hj]
  have h8 : ∀ j, (framesAt j ((csP p).getD j 0)).length ≤ 8 := fun j => by
    rw [framesAt_len]
    have : 2 ^ ((csP p).getD j 0) ≤ 2 ^ 3 := Nat.pow_le_pow_right (by decide) (hg j)
    omega
  have h := len_flat h8 (List.range i)
  rw [List.length_range] at h
  have hi' : i ≤ (ptsFrom 0 0 p.procs).length := hi
  show (framesTo (csP p) i).length ≤ 1000000
  unfold framesTo
  omega
theorem frames_pos {p : Pg} (w : p.Wf) : 1 ≤ (coOf (csP p)).frames.length := by
  have hx : p.procs[0]? = some (p.procs[0]'(by have := w.np.1; omega)) := by simp
  have h1 := cs_at w hx (Nat.le_refl _) (by omega)
  have h2 := (co_ok (csP p)).at_ (pbase p.procs 0, List.replicate ((csP p).getD (pbase p.procs 0) 0) false) h1.1 (by simp)
  have := (List.getElem?_eq_some_iff.mp h2).1
  omega
theorem all_len {p : Pg} {m : Mp} {c : Co} {cs : List Nat} (G : Good p m c cs) : (c.all p m).length ≤ sizeLine := by
  have hg : 2 ^ p.g ≤ 2 ^ 12 := Nat.pow_le_pow_right (by decide) G.g60
  have hsz := G.size
  have hline : 16500000 ≤ sizeLine := by decide
  have hF : ∀ l, ((List.range (2 ^ p.g)).flatMap fun s => c.steps p m l s (c.frames.getD l (0, []))).length ≤ 8192 := fun l => by
    have := len_flat (fun s => steps_few G l s (c.frames.getD l (0, []))) (List.range (2 ^ p.g))
    rw [List.length_range] at this
    omega
  have h1 := len_flat hF (List.range c.frames.length)
  rw [List.length_range] at h1
  show (((List.range c.frames.length).flatMap fun l => (List.range (2 ^ p.g)).flatMap fun s => c.steps p m l s (c.frames.getD l (0, [])))).length ≤ sizeLine
  omega
theorem sit_begin {p : Pg} (w : p.Wf) : Sit p (csP p) 1 (List.replicate p.g false, [((mpOf p.procs).ents.getD 0 0, List.replicate (p.procs.getD 0 (0, [])).1 false)]) := by
  have h0 : 0 < p.procs.length := by have := w.np.1; omega
  have hx : p.procs[0]? = some (p.procs[0]) := by simp
  have h1 := cs_at w hx (Nat.le_refl _) (by omega)
  have he : (mpOf p.procs).ents.getD 0 0 = pbase p.procs 0 := by
    show (entsFrom 0 p.procs).getD 0 0 = _
    rw [List.getD_eq_getElem?_getD, ents_at h0]
    rfl
  refine ⟨by simp, fun f hf => ?_, by simp⟩
  simp only [List.mem_singleton] at hf
  subst hf
  dsimp only
  rw [he]
  refine ⟨h1.1, ?_⟩
  rw [h1.2]
  simp [List.getD_eq_getElem?_getD, h0]
end
end Eng

set_option Elab.async false
set_option linter.all false
set_option maxHeartbeats 4000000
set_option maxRecDepth 100000
/-! K1: the laws' own small functions: bodies, sizes, values. -/
namespace Eng
open PySem L2
structure LOwn (P : Prog) : Prop extends Lib P where
  f48 : P.fn 48 = some d__law_size
  f53 : P.fn 53 = some d__law_bodies
theorem intsW_map {α : Type} (f : α → Nat) : ∀ xs : List α, intsW (xs.map fun x => W.int (f x)) = some (xs.map fun x => ((f x : Nat) : Int))
  | [] => rfl
  | x :: xs => by simp [intsW, intsW_map f xs]
theorem sum_bods : ∀ bs : List (List St), (bs.map fun b => ((Sts.sz b : Nat) : Int)).sum = ((Bods.sz bs : Nat) : Int)
  | [] => rfl
  | b :: bs => by simp [Bods.sz, sum_bods bs]
section
variable {P : Prog} {S : Sto} {k : Nat}
theorem lbodies_ok (L : LOwn P) (s : St) : run P (k + 1) 53 [s.w] S = .ok (.lst ((bods s).map fun b => .tup (Sts.w b))) S := by
  have hp : Pu (.lst ((bods s).map fun b => .tup (Sts.w b))) := lst_pu (map_pu fun b => by have := Sts.pu b; simpa [Pu, below] using this)
  have l2 : (2 : Nat) ≤ sizeLine := by decide
  have l1 : (1 : Nat) ≤ sizeLine := by decide
  have l0 : (0 : Nat) ≤ sizeLine := by decide
  have d2 : ((3 : Int) - 1) = 2 := rfl
  have d1 : ((2 : Int) - 1) = 1 := rfl
  refine run_ret L.f53 rfl rfl (w := .lst ((bods s).map fun b => .tup (Sts.w b))) (S1 := S) ?_ (fin_pu0 hp)
  unfold d__law_bodies
  cases s <;> simp [exSs, exS, evE, evEs, evL, St.w, L.tag, bods, l0, l1, l2, inW, flatW, eqF, d1, d2]
theorem lsize_ok (L : LOwn P) : ∀ (n : Nat) {ss : List St} {k : Nat} {S : Sto} {x : W}, Sts.nd ss ≤ n → n + 1 ≤ k → (x = .tup (Sts.w ss) ∨ x = .lst (Sts.w ss)) → run P (k + 1) 48 [x] S = .ok (.int (Sts.sz ss)) S := by
  intro n
  induction n with
  | zero =>
    intro ss k S x hd hk hx
    refine body hk hx fun s hs B hB => ?_
    have h1 := nd_bods hB
    have h2 := nd_mem hs
    omega
  | succ n ih =>
    intro ss k S x hd hk hx
    obtain ⟨k, rfl⟩ : ∃ k', k = k' + 1 := ⟨k - 1, by omega⟩
    refine body (by omega) hx fun s hs B hB S => ?_
    have h1 := nd_bods hB
    have h2 := nd_mem hs
    exact ih (by omega) (by omega) (.inl rfl)
where
  body {ss : List St} {k : Nat} {S : Sto} {x : W} (hk : 1 ≤ k) (hx : x = .tup (Sts.w ss) ∨ x = .lst (Sts.w ss)) (ih : ∀ s ∈ ss, ∀ B ∈ bods s, ∀ S, run P k 48 [.tup (Sts.w B)] S = .ok (.int (Sts.sz B)) S) : run P (k + 1) 48 [x] S = .ok (.int (Sts.sz ss)) S := by
    obtain ⟨k, rfl⟩ : ∃ k', k = k' + 1 := ⟨k - 1, by omega⟩
    have hseq : ∀ S, asSeq S x = some (Sts.w ss) ∧ seqG S x = [] := fun S => by rcases hx with rfl | rfl <;> exact ⟨rfl, rfl⟩
    obtain ⟨env', S', e, v2, v3, he, hS⟩ := for_go (P := P) (C := clOf P (k + 1)) (t := .nm 2) (it := .seq (.var 0)) (b := (.cons (.asg (.nm 1) (.bin .add (.bin .add (.var 1) (.int 1)) (.blt .sum (.cons (.comp true [3] (.nm 3) (.seq (.call 53 (.cons (.var 2) .nil))) .nil (.call 48 (.cons (.var 3) .nil))) .nil)))) .nil))
      (env := [some x, some (.int (0 : Nat)), none, none]) (S := S) (S0 := S) (xs := Sts.w ss) (g := [])
      (fun i env S1 => ∃ v2 v3, env = [some x, some (.int (Sts.sz (ss.take i) : Nat)), v2, v3] ∧ S = S1)
      (by simp [evI, evE, hseq]) (fun _ _ _ _ _ => gOk_nil) ⟨none, none, by simp [Sts.sz], rfl⟩
      (fun i y env S1 hx ⟨v2, v3, e1, e2⟩ => by
        subst e1 e2
        obtain ⟨s, hs, rfl⟩ := swAt hx
        have hsm := List.mem_of_getElem? hs
        have q2 := lbodies_ok (P := P) (S := S) (k := k) L s
        have ec : evE P (clOf P (k + 1)) (.comp true [3] (.nm 3) (.seq (.call 53 (.cons (.var 2) .nil))) .nil (.call 48 (.cons (.var 3) .nil))) [some x, some (.int (Sts.sz (ss.take i) : Nat)), some s.w, v3] S = .ok (.lst ((bods s).map fun b => W.int (Sts.sz b))) S := by
          refine comp_map (ys := bods s) (wy := fun B => .tup (Sts.w B)) (h := fun b => W.int (Sts.sz b)) (g := []) ?_ (fun _ => gOk_nil) (Nat.le_trans (show (bods s).length ≤ 2 by cases s <;> simp [bods]) (by decide)) fun B hB acc => ⟨_, rfl, ?_, rfl⟩
          · simp [evI, evE, evEs, clOf_fn, full_no L.toLib (f := 53) (by decide), q2]
          · have := ih s hsm B hB (S ++ [.lst acc])
            simp [evE, evEs, wipeE, clOf_fn, full_no L.toLib (f := 48) (by decide), this]
        refine ⟨_, [some x, some (.int (Sts.sz (ss.take (i + 1)) : Nat)), some s.w, v3], S, rfl, .inl ?_, some s.w, v3, rfl, rfl⟩
        generalize (CE.comp true [3] (.nm 3) (.seq (.call 53 (.cons (.var 2) .nil))) .nil (.call 48 (.cons (.var 3) .nil))) = ce at ec ⊢
        have hsum : bltW S .sum [.lst ((bods s).map fun b => W.int (Sts.sz b))] = some (.int (Bods.sz (bods s))) := by
          show ((intsW ((bods s).map fun b => W.int (Sts.sz b))).map fun ns => W.int ns.sum) = _
          rw [intsW_map, Option.map_some, sum_bods]
        have hn : ((Sts.sz (ss.take i) : Nat) : Int) + 1 + ((Bods.sz (bods s) : Nat) : Int) = ((Sts.sz (ss.take (i + 1)) : Nat) : Int) := by
          rw [szs_take hs, sz_bods s]
          omega
        generalize ((Sts.sz (ss.take i) : Nat) : Int) = t at ec hn ⊢
        simp only [List.set_cons_succ, List.set_cons_zero]
        simp [exSs, exS, evE, evEs, ec, hsum, hn])
    subst he hS
    rw [sws_len, List.take_length] at e
    refine run_ret L.f48 rfl rfl (w := .int (Sts.sz ss)) (env0 := [some x, none, none, none]) (S1 := S) ?_ (fin_pu0 rfl)
    unfold d__law_size
    dsimp only
    rw [ss_nx (env' := [some x, some (.int (0 : Nat)), none, none]) (S' := S) (by simp [exS, evE]), ss_nx e]
    simp [exSs, exS, evE]
/-- the values of the globals and the locals, in a list -/
abbrev lw (gs ls : List Bool) : W := .lst [bw gs, bw ls]
theorem lw_pu (gs ls : List Bool) : Pu (lw gs ls) := lst_pu (by intro w hw; rcases List.mem_cons.mp hw with rfl | hw; exact bw_pu _; rcases List.mem_cons.mp hw with rfl | hw; exact bw_pu _; cases hw)
theorem lvalue_ok (L : Lib P) (h : P.fn 56 = some d__law_value) {gs ls : List Bool} : ∀ {e : Ex} {k : Nat} {S : Sto}, e.wf gs.length ls.length → e.dp ≤ k → run P (k + 1) 56 [e.w, lw gs ls] S = .ok (.bl (e.ev gs ls)) S
  | .tr b, k, S, _, _ => run_ret h rfl rfl (w := .bl b) (S1 := S) (by
      unfold d__law_value
      simp [exSs, exS, evE, evEs, Ex.w, L.tag]) (fin_pu0 rfl)
  | .of g i, k, S, hw, _ => run_ret h rfl rfl (w := .bl ((Ex.of g i).ev gs ls)) (S1 := S) (by
      unfold d__law_value
      simp only [Ex.wf] at hw
      cases g with
      | true =>
        have := atI_nat (getD_map (bs := gs) (i := i) (by simpa using hw))
        simp [exSs, exS, evE, evEs, Ex.w, Ex.ev, L.tag, this]
      | false =>
        have := atI_nat (getD_map (bs := ls) (i := i) (by simpa using hw))
        simp [exSs, exS, evE, evEs, Ex.w, Ex.ev, L.tag, this]) (fin_pu0 rfl)
  | .nt x, k, S, hw, hd => by
    obtain ⟨k, rfl⟩ : ∃ k', k = k' + 1 := ⟨k - 1, by simp only [Ex.dp] at hd; omega⟩
    simp only [Ex.dp] at hd
    refine fin (es := [x]) rfl (by simp) (by simp; exact fun S => lvalue_ok L h hw (by omega)) ?_
    intro ce hce
    simp [exSs, exS, evE, evEs, hce, Ex.ev, L.tag]
  | .an x y, k, S, hw, hd => by
    obtain ⟨k, rfl⟩ : ∃ k', k = k' + 1 := ⟨k - 1, by simp only [Ex.dp] at hd; omega⟩
    simp only [Ex.dp] at hd
    refine fin (es := [x, y]) rfl (by simp) (by simp; exact ⟨fun S => lvalue_ok L h hw.1 (by omega), fun S => lvalue_ok L h hw.2 (by omega)⟩) ?_
    intro ce hce
    cases c : x.ev gs ls <;> simp [exSs, exS, evE, evEs, evAnd, hce, Ex.ev, L.tag, c]
  | .orr x y, k, S, hw, hd => by
    obtain ⟨k, rfl⟩ : ∃ k', k = k' + 1 := ⟨k - 1, by simp only [Ex.dp] at hd; omega⟩
    simp only [Ex.dp] at hd
    refine fin (es := [x, y]) rfl (by simp) (by simp; exact ⟨fun S => lvalue_ok L h hw.1 (by omega), fun S => lvalue_ok L h hw.2 (by omega)⟩) ?_
    intro ce hce
    cases c : x.ev gs ls <;> simp [exSs, exS, evE, evEs, evOr, hce, Ex.ev, L.tag, c]
  | .sm x y, k, S, hw, hd => by
    obtain ⟨k, rfl⟩ : ∃ k', k = k' + 1 := ⟨k - 1, by simp only [Ex.dp] at hd; omega⟩
    simp only [Ex.dp] at hd
    refine fin (es := [x, y]) rfl (by simp) (by simp; exact ⟨fun S => lvalue_ok L h hw.1 (by omega), fun S => lvalue_ok L h hw.2 (by omega)⟩) ?_
    intro ce hce
    simp [exSs, exS, evE, evEs, hce, Ex.ev, L.tag]
where
  fin {k : Nat} {S : Sto} {e : Ex} {t : Nat} {es : List Ex} (he : e.w = .tup (.str (tg t) :: es.map Ex.w)) (ht : (t ≠ 44 ∧ t ≠ 45) ∧ es.length ≤ 2) (hx : ∀ x ∈ es, ∀ S, run P (k + 1) 56 [x.w, lw gs ls] S = .ok (.bl (x.ev gs ls)) S)
      (hf : ∀ vals : W, vals = .lst (es.map fun x => W.bl (x.ev gs ls)) → exSs P (clOf P (k + 1)) (.cons (.if_ (.cmp .eq (.var 2) (.str 46)) (.cons (.ret (.not_ (.idx (.var 3) (.int 0)))) .nil) .nil) (.cons (.if_ (.cmp .eq (.var 2) (.str 47)) (.cons (.ret (.and_ (.cons (.idx (.var 3) (.int 0)) (.cons (.idx (.var 3) (.int 1)) .nil)))) .nil) .nil) (.cons (.if_ (.cmp .eq (.var 2) (.str 48)) (.cons (.ret (.or_ (.cons (.idx (.var 3) (.int 0)) (.cons (.idx (.var 3) (.int 1)) .nil)))) .nil) .nil) (.cons (.ret (.cmp .eq (.idx (.var 3) (.int 0)) (.idx (.var 3) (.int 1)))) .nil))))
        [some e.w, some (lw gs ls), some (.str (tg t)), some vals, none] S = .ok (.ret (.bl (e.ev gs ls))) S) : run P (k + 1 + 1) 56 [e.w, lw gs ls] S = .ok (.bl (e.ev gs ls)) S := by
    refine run_ret h rfl rfl (w := .bl (e.ev gs ls)) (env0 := [some e.w, some (lw gs ls), none, none, none]) (S1 := S) ?_ (fin_pu0 rfl)
    have hf' := hf _ rfl
    unfold d__law_value
    rw [he] at hf' ⊢
    have ec : evE P (clOf P (k + 1)) (.comp true [4] (.nm 4) (.seq (.sl (.var 0) (.int 1) .omit)) .nil (.call 56 (.cons (.var 4) (.cons (.var 1) .nil)))) [some (.tup (.str (tg t) :: es.map Ex.w)), some (lw gs ls), some (.str (tg t)), none, none] S = .ok (.lst (es.map fun x => W.bl (x.ev gs ls))) S := by
      refine comp_map (ys := es) (wy := Ex.w) (h := fun x => W.bl (x.ev gs ls)) (g := []) ?_ (fun _ => gOk_nil) (Nat.le_trans ht.2 (by decide)) fun x hxm acc => ⟨_, rfl, ?_, rfl⟩
      · simp [evI, evE, isOmit, toI, cut_tail]
      · have := hx x hxm (S ++ [.lst acc])
        simp [evE, evEs, wipeE, clOf_fn, full_no L (f := 56) (by decide), this]
    generalize (CE.comp true [4] (.nm 4) (.seq (.sl (.var 0) (.int 1) .omit)) .nil (.call 56 (.cons (.var 4) (.cons (.var 1) .nil)))) = ce at ec ⊢
    dsimp only
    rw [ss_nx (env' := [some (.tup (.str (tg t) :: es.map Ex.w)), some (lw gs ls), some (.str (tg t)), none, none]) (S' := S) (by simp [exS, evE])]
    rw [ss_nx (env' := [some (.tup (.str (tg t) :: es.map Ex.w)), some (lw gs ls), some (.str (tg t)), none, none]) (S' := S) (by simp [exS, exSs, evE, L.tag, ht.1.1])]
    rw [ss_nx (env' := [some (.tup (.str (tg t) :: es.map Ex.w)), some (lw gs ls), some (.str (tg t)), none, none]) (S' := S) (by simp [exS, exSs, evE, L.tag, ht.1.2])]
    rw [ss_nx (env' := [some (.tup (.str (tg t) :: es.map Ex.w)), some (lw gs ls), some (.str (tg t)), some (.lst (es.map fun x => W.bl (x.ev gs ls))), none]) (S' := S) (by simp [exS, ec])]
    exact hf'
theorem lwith_ok (L : Lib P) (h : P.fn 55 = some d__law_with) {gs ls : List Bool} {g : Bool} {i : Nat} {v : Bool} (hi : i < if g then gs.length else ls.length) :
    run P (k + 1) 55 [lw gs ls, vw g i, .bl v] S = .ok (lw (setB true g gs i v) (setB false g ls i v)) S := by
  have l2 : (2 : Nat) ≤ sizeLine := by decide
  refine run_ret h rfl rfl (w := lw (setB true g gs i v) (setB false g ls i v)) (env0 := [some (lw gs ls), some (vw g i), some (.bl v), none]) (S1 := S ++ [.lst ((setB true g gs i v).map W.bl), .lst ((setB false g ls i v).map W.bl)]) ?_ (fin_pu (lw_pu _ _))
  unfold d__law_with
  dsimp only
  rw [ss_nx (env' := [some (lw gs ls), some (vw g i), some (.bl v), some (.lst [.ref S.length, .ref (S.length + 1)])]) (S' := S ++ [.lst (gs.map W.bl), .lst (ls.map W.bl)]) (by simp [exS, evE, evEs, evL, l2])]
  rw [ss_nx (env' := [some (lw gs ls), some (vw g i), some (.bl v), some (.lst [.ref S.length, .ref (S.length + 1)])]) (S' := S ++ [.lst ((setB true g gs i v).map W.bl), .lst ((setB false g ls i v).map W.bl)]) (by
    cases g with
    | true =>
      have hs := subW_lst (S := S ++ [.lst (gs.map W.bl), .lst (ls.map W.bl)]) (l := S.length) (xs := gs.map W.bl) (x := .bl v) (by simp) (n := i) (by simpa using hi)
      simp [exS, evE, evEs, L.tag]
      rw [hs]
      simp [setB]
    | false =>
      have hs := subW_lst (S := S ++ [.lst (gs.map W.bl), .lst (ls.map W.bl)]) (l := S.length + 1) (xs := ls.map W.bl) (x := .bl v) (by simp) (n := i) (by simpa using hi)
      simp [exS, evE, evEs, L.tag]
      rw [hs]
      simp [setB])]
  simp [exSs, exS, evE, evEs, evL, l2]
end
end Eng

set_option Elab.async false
set_option linter.all false
set_option maxHeartbeats 4000000
set_option maxRecDepth 100000
/-! K2: the laws' own table of points. -/
namespace Eng
open PySem L2
def rowW (t : Pt) : W := .lst [.int t.pr, t.stw, t.fow, .lst (t.en.map iw)]
def rowIn (S : Sto) (D : Nat) (A : List Nat) (t : Pt) (w : W) : Prop := ∃ w4, w = .lst [.int t.pr, t.stw, t.fow, w4] ∧ ((∃ e, w4 = .ref e ∧ D < e ∧ e ∉ A ∧ S[e]? = some (.lst (t.en.map iw))) ∨ w4 = .lst (t.en.map iw))
def Rows (S : Sto) (D : Nat) (A : List Nat) : List (Nat × Pt) → List W → Prop
  | [], ws => ws = []
  | x :: ps, ws => ∃ w ws', ws = w :: ws' ∧ rowIn S D A x.2 w ∧ Rows S D A ps ws'
abbrev pkeys (ps : List (Nat × Pt)) : List L2.Key := ps.map fun x => .inl (x.1 : Int)
structure TR (S : Sto) (D : Nat) (A : List Nat) (ps : List (Nat × Pt)) : Prop where
  ob : ∃ ws, S[D]? = some (.dK (pkeys ps) ws) ∧ Rows S D A ps ws
  nd : (ps.map (·.1)).Nodup
structure Cov (qs : List (Nat × Pt)) (base : Nat) (l : List Pt) : Prop where
  len : qs.length = l.length
  all : ∀ (i : Nat) (t : Pt), l[i]? = some t → (base + i, t) ∈ qs
  rng : ∀ x ∈ qs, base ≤ x.1 ∧ x.1 < base + l.length
theorem Cov.nil {base : Nat} : Cov [] base [] := ⟨rfl, fun i t h => by simp at h, fun x h => by cases h⟩
theorem Cov.app {q1 q2 : List (Nat × Pt)} {base : Nat} {l1 l2 : List Pt} (h1 : Cov q1 base l1) (h2 : Cov q2 (base + l1.length) l2) : Cov (q1 ++ q2) base (l1 ++ l2) where
  len := by simp [h1.len, h2.len]
  all := fun i t h => by
    by_cases hi : i < l1.length
    · rw [List.getElem?_append_left hi] at h
      exact List.mem_append_left _ (h1.all i t h)
    · rw [List.getElem?_append_right (by omega)] at h
      have := h2.all _ t h
      rw [show base + l1.length + (i - l1.length) = base + i by omega] at this
      exact List.mem_append_right _ this
  rng := fun x h => by
    rw [List.length_append]
    rcases List.mem_append.mp h with h | h
    · have := h1.rng x h; omega
    · have := h2.rng x h; omega
theorem Cov.own {q : List (Nat × Pt)} {base : Nat} {l : List Pt} {t : Pt} (h : Cov q (base + 1) l) : Cov (q ++ [(base, t)]) base (t :: l) where
  len := by simp [h.len]
  all := fun i u e => by
    cases i with
    | zero =>
      simp at e
      subst e
      exact List.mem_append_right _ (by simp)
    | succ i =>
      have := h.all i u (by simpa using e)
      rw [show base + 1 + i = base + (i + 1) by omega] at this
      exact List.mem_append_left _ this
  rng := fun x hx => by
    rw [List.length_cons]
    rcases List.mem_append.mp hx with hx | hx
    · have := h.rng x hx; omega
    · simp at hx; subst hx; dsimp only; omega
section
variable {S S' : Sto} {D : Nat} {A : List Nat}
theorem rowIn.keep {t : Pt} {w : W} (h : rowIn S D A t w) (hk : ∀ e, D < e → e ∉ A → ∀ o, S[e]? = some o → S'[e]? = some o) : rowIn S' D A t w := by
  obtain ⟨w4, e1, h⟩ := h
  refine ⟨w4, e1, ?_⟩
  rcases h with ⟨e, h1, h2, h3, h4⟩ | h
  · exact .inl ⟨e, h1, h2, h3, hk e h2 h3 _ h4⟩
  · exact .inr h
theorem Rows.keep (hk : ∀ e, D < e → e ∉ A → ∀ o, S[e]? = some o → S'[e]? = some o) : ∀ {ps : List (Nat × Pt)} {ws : List W}, Rows S D A ps ws → Rows S' D A ps ws
  | [], ws, h => h
  | x :: ps, ws, ⟨w, ws', e, h1, h2⟩ => ⟨w, ws', e, h1.keep hk, Rows.keep hk h2⟩
theorem Rows.snoc {x : Nat × Pt} {w : W} (hw : rowIn S D A x.2 w) : ∀ {ps : List (Nat × Pt)} {ws : List W}, Rows S D A ps ws → Rows S D A (ps ++ [x]) (ws ++ [w])
  | [], ws, h => by
    have : ws = [] := h
    subst this
    exact ⟨w, [], rfl, hw, rfl⟩
  | y :: ps, ws, ⟨v, ws', e, h1, h2⟩ => by
    subst e
    exact ⟨v, ws' ++ [w], rfl, h1, Rows.snoc hw h2⟩
theorem Rows.len : ∀ {ps : List (Nat × Pt)} {ws : List W}, Rows S D A ps ws → ws.length = ps.length
  | [], ws, h => by rw [show ws = [] from h]; rfl
  | x :: ps, ws, ⟨w, ws', e, h1, h2⟩ => by subst e; simp [Rows.len h2]
theorem Rows.also {a : Nat} (ha : S.length ≤ a) : ∀ {ps : List (Nat × Pt)} {ws : List W}, Rows S D A ps ws → Rows S D (a :: A) ps ws
  | [], ws, h => h
  | x :: ps, ws, ⟨w, ws', e, ⟨w4, e1, h1⟩, h2⟩ => ⟨w, ws', e, ⟨w4, e1, by
      rcases h1 with ⟨e, h1, h2, h3, h4⟩ | h
      · refine .inl ⟨e, h1, h2, ?_, h4⟩
        intro hm
        rcases List.mem_cons.mp hm with rfl | hm
        · have := (List.getElem?_eq_some_iff.mp h4).1; omega
        · exact h3 hm
      · exact .inr h⟩, Rows.also ha h2⟩
theorem Rows.less {a : Nat} : ∀ {ps : List (Nat × Pt)} {ws : List W}, Rows S D (a :: A) ps ws → Rows S D A ps ws
  | [], ws, h => h
  | x :: ps, ws, ⟨w, ws', e, ⟨w4, e1, h1⟩, h2⟩ => ⟨w, ws', e, ⟨w4, e1, by
      rcases h1 with ⟨e, h1, h2, h3, h4⟩ | h
      · exact .inl ⟨e, h1, h2, fun hm => h3 (List.mem_cons_of_mem _ hm), h4⟩
      · exact .inr h⟩, Rows.less h2⟩
theorem TR.keep {ps : List (Nat × Pt)} (h : TR S D A ps) (hD : S'[D]? = S[D]?) (hk : ∀ e, D < e → e ∉ A → ∀ o, S[e]? = some o → S'[e]? = some o) : TR S' D A ps := by
  obtain ⟨ws, h1, h2⟩ := h.ob
  exact ⟨⟨ws, by rw [hD]; exact h1, h2.keep hk⟩, h.nd⟩
theorem TR.also {ps : List (Nat × Pt)} (h : TR S D A ps) {a : Nat} (ha : S.length ≤ a) : TR S D (a :: A) ps := by
  obtain ⟨ws, h1, h2⟩ := h.ob
  exact ⟨⟨ws, h1, h2.also ha⟩, h.nd⟩
theorem TR.less {ps : List (Nat × Pt)} {a : Nat} (h : TR S D (a :: A) ps) : TR S D A ps := by
  obtain ⟨ws, h1, h2⟩ := h.ob
  exact ⟨⟨ws, h1, h2.less⟩, h.nd⟩
theorem TR.lt {ps : List (Nat × Pt)} (h : TR S D A ps) : D < S.length := by
  obtain ⟨ws, h1, _⟩ := h.ob
  exact (List.getElem?_eq_some_iff.mp h1).1
/-- a row is put in -/
theorem TR.put {ps : List (Nat × Pt)} (h : TR S D A ps) {i : Nat} {t : Pt} {w : W} (hw : rowIn S D A t w) (hi : i ∉ ps.map (·.1)) (hl : ps.length < sizeLine) :
    ∃ S', subW S (.ref D) (.int i) w = some S' ∧ TR S' D A (ps ++ [(i, t)]) ∧ S'.length = S.length ∧ ∀ x, x ≠ D → S'[x]? = S[x]? := by
  obtain ⟨ws, h1, h2⟩ := h.ob
  have hd := h.lt
  have hany : ((pkeys ps).any fun k => decide (k = (.inl (i : Int) : L2.Key))) = false := by
    rw [List.any_eq_false]
    intro k hk
    simp only [pkeys, List.mem_map] at hk
    obtain ⟨x, hx, rfl⟩ := hk
    simp only [decide_eq_true_eq]
    intro e
    have : (x.1 : Int) = (i : Int) := Sum.inl.inj e
    have : x.1 = i := by omega
    exact hi (List.mem_map.mpr ⟨x, hx, this⟩)
  refine ⟨S.set D (.dK (pkeys ps ++ [.inl (i : Int)]) (ws ++ [w])), ?_, ⟨⟨ws ++ [w], ?_, ?_⟩, ?_⟩, by simp, fun x hx => List.getElem?_set_ne (Ne.symm hx)⟩
  · rw [subW_dK (k := .inl (i : Int)) h1 rfl (by simpa using hl)]
    unfold dPut
    rw [if_neg (by rw [hany]; decide)]
  · rw [List.getElem?_set_self hd]
    simp
  · refine Rows.snoc (x := (i, t)) (hw.keep fun e he _ o ho => ?_) (h2.keep fun e he _ o ho => ?_)
    · rw [List.getElem?_set_ne (by omega)]; exact ho
    · rw [List.getElem?_set_ne (by omega)]; exact ho
  · rw [List.map_append, List.nodup_append]
    refine ⟨h.nd, by simp, fun a ha b hb => ?_⟩
    simp at hb
    subst hb
    rintro rfl
    exact hi ha
end
def FillSpec (P : Prog) (k D pr : Nat) (ss : List St) : Prop := ∀ (S : Sto) (A : List Nat) (ps : List (Nat × Pt)) (base behind : Nat), TR S D A ps → (∀ a ∈ A, a < S.length) → (∀ x ∈ ps, x.1 < base ∨ base + Sts.sz ss ≤ x.1) → ps.length + Sts.sz ss ≤ 5000 →
  ∃ S' qs, run P k 49 [.ref D, .tup (Sts.w ss), .int pr, .int base, .int behind] S = .ok .non S' ∧ TR S' D A (ps ++ qs) ∧ Cov qs base (lays pr base behind ss) ∧ Kp S S' D
theorem ixN_m1 (n : Nat) : ixN (n + 1) (-1) = some n := by
  unfold ixN
  rw [if_neg (by omega)]
  simp
  omega
abbrev fillIn : CS := .for_ (.nm 11) (.seq (.call 53 (.cons (.idx (.var 1) (.var 5)) .nil))) (.cons (.expr (.bm .append (.var 9) (.cons (.var 10) .nil))) (.cons (.if_ (.cmp .eq (.blt .len (.cons (.var 11) .nil)) (.int 0)) (.cons (.sub (.var 9) (.neg (.int 1)) (.var 8)) .nil) .nil) (.cons (.expr (.call 49 (.cons (.var 0) (.cons (.var 11) (.cons (.var 2) (.cons (.var 10) (.cons (.var 8) .nil))))))) (.cons (.asg (.nm 10) (.bin .add (.var 10) (.call 48 (.cons (.var 11) .nil)))) .nil))))
section
variable {P : Prog} {k : Nat}
theorem fill_in (L : LOwn P) {D pr n back place i : Nat} {ss : List St} {s : St} (hs : ss[i]? = some s) (hn : s.nd ≤ n) (hk : n + 2 ≤ k) (hB : ∀ B ∈ bods s, FillSpec P (k + 1) D pr B) {S : Sto} {A : List Nat} {ps : List (Nat × Pt)} (h : TR S D A ps) (hA : ∀ a ∈ A, a < S.length) (hrng : ∀ x ∈ ps, x.1 < place + 1 ∨ place + 1 + Bods.sz (bods s) ≤ x.1) (hsz : ps.length + Bods.sz (bods s) ≤ 5000)
    {v4 v6 v7 v11 : Option W} :
    ∃ S' qs v10 v11', exS P (clOf P (k + 1)) fillIn [some (.ref D), some (.tup (Sts.w ss)), some (.int pr), some (.int place), v4, some (.int i), v6, v7, some (.int back), some (.ref S.length), some (.int (place + 1 : Nat)), v11] (S ++ [.lst []]) =
      .ok (.nx [some (.ref D), some (.tup (Sts.w ss)), some (.int pr), some (.int place), v4, some (.int i), v6, v7, some (.int back), some (.ref S.length), v10, v11']) S' ∧
      TR S' D A (ps ++ qs) ∧ Cov qs (place + 1) (layB pr (place + 1) back (bods s)) ∧ S'[S.length]? = some (.lst ((entsB (place + 1) back (bods s)).map iw)) ∧ Kp S S' D := by
  have hDl := h.lt
  have hbl : (bods s).length ≤ 2 := by cases s <;> simp [bods]
  have hbo := fun S => lbodies_ok (P := P) (S := S) (k := k) L s
  have hat : atI (Sts.w ss) (i : Int) = some s.w := atI_nat (by
    have : ∀ (ss : List St) (i : Nat), (Sts.w ss)[i]? = (ss[i]?).map St.w := by
      intro ss
      induction ss with
      | nil => intro i; simp [Sts.w]
      | cons s ss ih => intro i; cases i <;> simp [Sts.w, ih]
    rw [this, hs]
    rfl)
  obtain ⟨env', S', e, v10, v11', qs, mid, en, he, hp, hc, h1, h2, h3, h4, h5, h6⟩ := for_go (P := P) (C := clOf P (k + 1)) (t := .nm 11) (it := .seq (.call 53 (.cons (.idx (.var 1) (.var 5)) .nil)))
    (b := (.cons (.expr (.bm .append (.var 9) (.cons (.var 10) .nil))) (.cons (.if_ (.cmp .eq (.blt .len (.cons (.var 11) .nil)) (.int 0)) (.cons (.sub (.var 9) (.neg (.int 1)) (.var 8)) .nil) .nil) (.cons (.expr (.call 49 (.cons (.var 0) (.cons (.var 11) (.cons (.var 2) (.cons (.var 10) (.cons (.var 8) .nil))))))) (.cons (.asg (.nm 10) (.bin .add (.var 10) (.call 48 (.cons (.var 11) .nil)))) .nil)))))
    (env := [some (.ref D), some (.tup (Sts.w ss)), some (.int pr), some (.int place), v4, some (.int i), v6, v7, some (.int back), some (.ref S.length), some (.int (place + 1 : Nat)), v11]) (S := S ++ [.lst []]) (S0 := S ++ [.lst []]) (xs := (bods s).map fun b => .tup (Sts.w b)) (g := [])
    (fun j env S2 => ∃ v10 v11 qs mid en, env = [some (.ref D), some (.tup (Sts.w ss)), some (.int pr), some (.int place), v4, some (.int i), v6, v7, some (.int back), some (.ref S.length), v10, v11] ∧ TR S2 D (S.length :: A) (ps ++ qs) ∧ Cov qs (place + 1) mid ∧ mid.length = Bods.sz ((bods s).take j) ∧ mid ++ layB pr (place + 1 + Bods.sz ((bods s).take j)) back ((bods s).drop j) = layB pr (place + 1) back (bods s) ∧
      S2[S.length]? = some (.lst (en.map iw)) ∧ en ++ entsB (place + 1 + Bods.sz ((bods s).take j)) back ((bods s).drop j) = entsB (place + 1) back (bods s) ∧ Kp S S2 D ∧ (en.length = j ∧ v10 = some (.int (place + 1 + Bods.sz ((bods s).take j) : Nat))))
    (by simp [evI, evE, evEs, hat, clOf_fn, full_no L.toLib (f := 53) (by decide), hbo]) (fun _ _ _ _ _ => gOk_nil)
    ⟨_, v11, [], [], [], rfl, by
      rw [List.append_nil]
      refine (h.also (Nat.le_refl _)).keep (by rw [List.getElem?_append_left hDl]) fun e _ _ o ho => ?_
      rw [List.getElem?_append_left (List.getElem?_eq_some_iff.mp ho).1]; exact ho, Cov.nil, rfl, by simp [Bods.sz], by simp, by simp [Bods.sz], Kp.app, rfl, by simp [Bods.sz]⟩
    (fun j x env S2 hx ⟨v10, v11, qs, mid, en, e1, p1, p2, p3, p4, p5, p6, p7, p8, p9⟩ => by
      subst e1
      subst p9
      rw [List.getElem?_map] at hx
      cases hBj : (bods s)[j]? with
      | none => rw [hBj] at hx; cases hx
      | some B =>
      rw [hBj] at hx
      simp only [Option.map_some, Option.some.injEq] at hx
      subst hx
      have hBm := List.mem_of_getElem? hBj
      have hjl := (List.getElem?_eq_some_iff.mp hBj).1
      have sp := hB B hBm
      have hdr : (bods s).drop j = B :: (bods s).drop (j + 1) := by
        obtain ⟨h1, rfl⟩ := List.getElem?_eq_some_iff.mp hBj
        exact List.drop_eq_getElem_cons h1
      rw [hdr] at p4 p6
      simp only [layB, entsB] at p4 p6
      have hle : Bods.sz ((bods s).take j) + Sts.sz B ≤ Bods.sz (bods s) := by
        rw [← szb_take hBj]
        have : Bods.sz (bods s) = Bods.sz ((bods s).take (j + 1)) + Bods.sz ((bods s).drop (j + 1)) := by rw [← szb_append, List.take_append_drop]
        omega
      have hl2 := p7.1
      have hSl2 : S.length < S2.length := (List.getElem?_eq_some_iff.mp p5).1
      generalize hpl : place + 1 + Bods.sz ((bods s).take j) = ins at p4 p6 ⊢
      have hsize := lsize_ok (P := P) L n (ss := B) (k := k) (S := S2) (x := .tup (Sts.w B)) (by have := nd_bods hBm; omega) (by omega) (.inl rfl)
      -- the entry
      have ha1 := append_ref (x := .int ins) p5 (by rw [List.length_map, p8]; exact Nat.lt_of_lt_of_le (show j < 3 by omega) (by decide))
      have hb1 := bmK_ref p5
      generalize hSa : S2.set S.length (.lst (en.map iw ++ [.int ins])) = Sa at ha1
      have hSal : Sa.length = S2.length := by rw [← hSa]; simp
      have hSa1 : Sa[S.length]? = some (.lst ((en ++ [ins]).map iw)) := by
        rw [← hSa, List.getElem?_set_self hSl2]
        simp [iw]
      have hsub : subW Sa (.ref S.length) (.int (-1)) (.int back) = some (Sa.set S.length (.lst ((en ++ [back]).map iw))) := by
        have hix : ixN ((en ++ [ins]).map iw).length (-1) = some en.length := by
          rw [List.length_map, List.length_append]
          exact ixN_m1 _
        unfold subW
        dsimp only
        rw [hSa1]
        dsimp only
        rw [hix]
        simp [iw]
      obtain ⟨Sb, hSb, hSbE, hSbl, hSbx⟩ : ∃ Sb, exS P (clOf P (k + 1)) (.if_ (.cmp .eq (.blt .len (.cons (.var 11) .nil)) (.int 0)) (.cons (.sub (.var 9) (.neg (.int 1)) (.var 8)) .nil) .nil) [some (.ref D), some (.tup (Sts.w ss)), some (.int pr), some (.int place), v4, some (.int i), v6, v7, some (.int back), some (.ref S.length), some (.int ins), some (.tup (Sts.w B))] Sa = .ok (.nx [some (.ref D), some (.tup (Sts.w ss)), some (.int pr), some (.int place), v4, some (.int i), v6, v7, some (.int back), some (.ref S.length), some (.int ins), some (.tup (Sts.w B))]) Sb ∧
          Sb[S.length]? = some (.lst ((en ++ [entB B ins back]).map iw)) ∧ Sb.length = S2.length ∧ ∀ x, x ≠ S.length → Sb[x]? = S2[x]? := by
        cases hBe : B with
        | nil =>
          refine ⟨Sa.set S.length (.lst ((en ++ [back]).map iw)), by simp [exS, exSs, evE, evEs, Sts.w, hsub], ?_, by simp [hSal], fun x hx => ?_⟩
          · rw [List.getElem?_set_self (by omega)]
            simp [entB]
          · rw [List.getElem?_set_ne (Ne.symm hx), ← hSa, List.getElem?_set_ne (Ne.symm hx)]
        | cons b bs =>
          have hz : ¬ (((Sts.w bs).length : Int) + 1 = 0) := by omega
          refine ⟨Sa, by simp [exS, exSs, evE, evEs, Sts.w, hz], ?_, hSal, fun x hx => ?_⟩
          · rw [hSa1]
            simp [entB]
          · rw [← hSa, List.getElem?_set_ne (Ne.symm hx)]
      generalize hE : entB B ins back = E at hSbE p6
      have p1b : TR Sb D (S.length :: A) (ps ++ qs) := p1.keep (hSbx _ (by omega)) fun e _ hne o ho => by
        rw [hSbx e (by intro z; exact hne (by rw [z]; exact List.mem_cons_self))]
        exact ho
      obtain ⟨S3, q3, r1, r2, r3, r4⟩ := sp Sb (S.length :: A) (ps ++ qs) ins back p1b (fun a ha => by
        rcases List.mem_cons.mp ha with rfl | ha
        · omega
        · have := hA a ha; omega) (fun x hx => by
        rcases List.mem_append.mp hx with hx | hx
        · have := hrng x hx; omega
        · have := p2.rng x hx; omega) (by
        rw [List.length_append, p2.len, p3]
        omega)
      have hS3l := r4.1
      have hsize3 := lsize_ok (P := P) L n (ss := B) (k := k) (S := S3) (x := .tup (Sts.w B)) (by have := nd_bods hBm; omega) (by omega) (.inl rfl)
      have hnew : ins + Sts.sz B = place + 1 + Bods.sz ((bods s).take (j + 1)) := by rw [szb_take hBj]; omega
      refine ⟨_, [some (.ref D), some (.tup (Sts.w ss)), some (.int pr), some (.int place), v4, some (.int i), v6, v7, some (.int back), some (.ref S.length), some (.int (place + 1 + Bods.sz ((bods s).take (j + 1)) : Nat)), some (.tup (Sts.w B))], S3, rfl, .inl ?_, _, _, qs ++ q3, mid ++ lays pr ins back B, en ++ [E], rfl, ?_, ?_, ?_, ?_, ?_, ?_, ?_, by simp [p8], rfl⟩
      · simp only [List.set_cons_succ, List.set_cons_zero]
        rw [ss_nx (env' := [some (.ref D), some (.tup (Sts.w ss)), some (.int pr), some (.int place), v4, some (.int i), v6, v7, some (.int back), some (.ref S.length), some (.int ins), some (.tup (Sts.w B))]) (S' := Sa) (by simp [exS, evE, evEs, hb1, ha1])]
        rw [ss_nx hSb]
        rw [ss_nx (env' := [some (.ref D), some (.tup (Sts.w ss)), some (.int pr), some (.int place), v4, some (.int i), v6, v7, some (.int back), some (.ref S.length), some (.int ins), some (.tup (Sts.w B))]) (S' := S3) (by simp [exS, evE, evEs, clOf_fn, full_no L.toLib (f := 49) (by decide), r1])]
        rw [← hnew]
        simp [exSs, exS, evE, evEs, clOf_fn, full_no L.toLib (f := 48) (by decide), hsize3]
      · rw [← List.append_assoc]; exact r2
      · exact p2.app (by rw [p3, hpl]; exact r3)
      · rw [List.length_append, lays_len, p3, szb_take hBj]
      · rw [List.append_assoc, ← hnew]; exact p4
      · rw [r4.2 _ (by omega) (by omega)]; exact hSbE
      · rw [List.append_assoc, ← hnew]; exact p6
      · refine ⟨by omega, fun x hx hne => ?_⟩
        rw [r4.2 x (by omega) hne, hSbx x (by omega), p7.2 x hx hne])
  subst he
  rw [List.length_map] at h1 h2 h4
  simp only [List.drop_length, layB, entsB, List.append_nil] at h2 h4
  subst h2 h4
  exact ⟨S', qs, v10, v11', e, hp.less, hc, h3, h5⟩
end
end Eng

set_option Elab.async false
set_option linter.all false
set_option maxHeartbeats 4000000
set_option maxRecDepth 100000
/-! K3: the laws' own table of points, further. -/
namespace Eng
open PySem L2
theorem swGet : ∀ (ss : List St) (i : Nat), (Sts.w ss)[i]? = (ss[i]?).map St.w
  | [], i => by simp [Sts.w]
  | s :: ss, 0 => by simp [Sts.w]
  | s :: ss, i + 1 => by simpa [Sts.w] using swGet ss i
structure LTab (P : Prog) : Prop extends LOwn P where
  f49 : P.fn 49 = some d__law_fill
  f45 : P.fn 45 = some d__law_table
section
variable {P : Prog} {k : Nat}
theorem fill_body (L : LTab P) {D pr n : Nat} {ss : List St} (hd : Sts.nd ss ≤ n) (hk : n + 4 ≤ k) (ih : ∀ s ∈ ss, ∀ B ∈ bods s, FillSpec P k D pr B) : FillSpec P (k + 1) D pr ss := by
  intro S A ps base behind h hA hrng hsz
  obtain ⟨k, rfl⟩ : ∃ k', k = k' + 1 := ⟨k - 1, by omega⟩
  have hDl := h.lt
  have l1 : (1 : Nat) ≤ sizeLine := by decide
  obtain ⟨env', S', e, v5, v6, v7, v8, v9, v10, v11, qs, mid, he, hp, hc, h1, h2, h3⟩ := for_go (P := P) (C := clOf P (k + 1)) (t := .nm 5) (it := .rng1 (.blt .len (.cons (.var 1) .nil)))
    (b := (.cons (.asg (.nm 6) (.call 48 (.cons (.lst (.disp (.cons (.idx (.var 1) (.var 5)) .nil))) .nil))) (.cons (.asg (.nm 7) (.var 4)) (.cons (.if_ (.cmp .lt (.bin .add (.var 5) (.int 1)) (.blt .len (.cons (.var 1) .nil))) (.cons (.asg (.nm 7) (.bin .add (.var 3) (.var 6))) .nil) .nil) (.cons (.asg (.nm 8) (.var 7)) (.cons (.if_ (.cmp .in_ (.idx (.idx (.var 1) (.var 5)) (.int 0)) (.lst (.disp (.cons (.str 36) (.cons (.str 37) .nil))))) (.cons (.asg (.nm 8) (.var 3)) .nil) .nil) (.cons (.asg (.nm 9) (.alloc (.disp .nil))) (.cons (.asg (.nm 10) (.bin .add (.var 3) (.int 1))) (.cons fillIn (.cons (.sub (.var 0) (.var 3) (.lst (.disp (.cons (.var 2) (.cons (.idx (.var 1) (.var 5)) (.cons (.var 7) (.cons (.var 9) .nil))))))) (.cons (.asg (.nm 3) (.bin .add (.var 3) (.var 6))) .nil)))))))))))
    (env := [some (.ref D), some (.tup (Sts.w ss)), some (.int pr), some (.int base), some (.int behind), none, none, none, none, none, none, none]) (S := S) (S0 := S) (xs := upTo 0 ss.length) (g := [])
    (fun i env S1 => ∃ v5 v6 v7 v8 v9 v10 v11 qs mid, env = [some (.ref D), some (.tup (Sts.w ss)), some (.int pr), some (.int (base + Sts.sz (ss.take i) : Nat)), some (.int behind), v5, v6, v7, v8, v9, v10, v11] ∧ TR S1 D A (ps ++ qs) ∧ Cov qs base mid ∧ mid.length = Sts.sz (ss.take i) ∧ mid ++ lays pr (base + Sts.sz (ss.take i)) behind (ss.drop i) = lays pr base behind ss ∧ Kp S S1 D)
    (evI_rngN (by simp [evE, evEs, sws_len]) (by have := len_sz ss; omega)) (fun _ _ _ _ _ => gOk_nil) ⟨none, none, none, none, none, none, none, [], [], by simp [Sts.sz], by simpa using h, Cov.nil, rfl, by simp [Sts.sz], Kp.refl⟩
    (fun i x env S1 hx ⟨v5, v6, v7, v8, v9, v10, v11, qs, mid, e1, p1, p2, p3, p4, p5⟩ => by
      subst e1
      obtain ⟨rfl, hil⟩ := upTo_at hx
      obtain ⟨s, hs⟩ : ∃ s, ss[i]? = some s := ⟨ss[i], by simp⟩
      have hsm := List.mem_of_getElem? hs
      have hdr : ss.drop i = s :: ss.drop (i + 1) := by
        obtain ⟨h1, rfl⟩ := List.getElem?_eq_some_iff.mp hs
        exact List.drop_eq_getElem_cons h1
      rw [hdr] at p4
      rw [lays, lay_eq] at p4
      have hle : Sts.sz (ss.take i) + s.sz ≤ Sts.sz ss := by
        rw [← szs_take hs]
        have : Sts.sz ss = Sts.sz (ss.take (i + 1)) + Sts.sz (ss.drop (i + 1)) := by rw [← szs_append, List.take_append_drop]
        omega
      have hszb := sz_bods s
      have hl1 := p5.1
      have hat : atI (Sts.w ss) (i : Int) = some s.w := atI_nat (by rw [swGet, hs]; rfl)
      have hsize := lsize_ok (P := P) L.toLOwn (n + 1) (ss := [s]) (k := k) (S := S1) (x := .lst (Sts.w [s])) (by have := nd_mem hsm; simp only [Sts.nd]; omega) (by omega) (.inr rfl)
      have hsz1 : Sts.sz [s] = s.sz := by simp [Sts.sz]
      rw [hsz1] at hsize
      have hsize' : run P (k + 1) 48 [.lst [s.w]] S1 = .ok (.int s.sz) S1 := hsize
      generalize hplace : base + Sts.sz (ss.take i) = place at p4 ⊢
      generalize hfol : (if (ss.drop (i + 1)).isEmpty then behind else place + s.sz) = fol at p4
      have hcond : exS P (clOf P (k + 1)) (.if_ (.cmp .lt (.bin .add (.var 5) (.int 1)) (.blt .len (.cons (.var 1) .nil))) (.cons (.asg (.nm 7) (.bin .add (.var 3) (.var 6))) .nil) .nil) [some (.ref D), some (.tup (Sts.w ss)), some (.int pr), some (.int place), some (.int behind), some (.int i), some (.int s.sz), some (.int behind), v8, v9, v10, v11] S1 = .ok (.nx [some (.ref D), some (.tup (Sts.w ss)), some (.int pr), some (.int place), some (.int behind), some (.int i), some (.int s.sz), some (.int fol), v8, v9, v10, v11]) S1 := by
        by_cases hlt : i + 1 < ss.length
        · have hne : (ss.drop (i + 1)).isEmpty = false := by
            rw [List.isEmpty_eq_false_iff]
            intro z
            have := congrArg List.length z
            simp at this
            omega
          rw [hne] at hfol
          have hc : ((i : Int) + 1 < ((Sts.w ss).length : Int)) := by rw [sws_len]; omega
          have hf : (place : Int) + (s.sz : Int) = (fol : Int) := by simp at hfol; omega
          simp [exS, exSs, evE, evEs, hc, hf]
        · have hem : (ss.drop (i + 1)).isEmpty = true := by
            rw [List.isEmpty_iff, List.drop_eq_nil_iff]
            omega
          rw [hem] at hfol
          simp at hfol
          subst hfol
          have hc : ¬ ((i : Int) + 1 < ((Sts.w ss).length : Int)) := by rw [sws_len]; omega
          simp [exS, exSs, evE, evEs, hc]
      obtain ⟨S2, q2, w10, w11, r1, r2, r3, r4, r5⟩ := fill_in (P := P) (k := k) L.toLOwn (D := D) (pr := pr) (n := n) (back := backS s place fol) (place := place) (i := i) hs (Nat.le_trans (nd_mem hsm) hd) (by omega) (fun B hB => ih s hsm B hB) p1 (fun a ha => by have := hA a ha; omega) (fun x hx => by
        rcases List.mem_append.mp hx with hx | hx
        · have := hrng x hx; omega
        · have := p2.rng x hx; omega) (by rw [List.length_append, p2.len, p3]; omega) (v4 := some (.int behind)) (v6 := some (.int s.sz)) (v7 := some (.int fol)) (v11 := v11)
      have hSl2 : S1.length < S2.length := (List.getElem?_eq_some_iff.mp r4).1
      have hlb : (layB pr (place + 1) (backS s place fol) (bods s)).length = Bods.sz (bods s) := by
        have := lay_len pr s place fol
        rw [lay_eq, sz_bods] at this
        simp at this
        omega
      obtain ⟨S3, u1, u2, u3, u4⟩ := r2.put (i := place) (t := ⟨pr, some s, entsB (place + 1) (backS s place fol) (bods s), some fol⟩) (w := .lst [.int pr, s.w, .int fol, .ref S1.length]) ⟨_, rfl, .inl ⟨S1.length, rfl, by omega, fun hm => by have := hA _ hm; omega, r4⟩⟩ (by
        intro hm
        rw [List.map_append, List.mem_append] at hm
        rcases hm with hm | hm
        · obtain ⟨x, hx, e⟩ := List.mem_map.mp hm
          rcases List.mem_append.mp hx with hx | hx
          · have := hrng x hx; omega
          · have := p2.rng x hx; omega
        · obtain ⟨x, hx, e⟩ := List.mem_map.mp hm
          have := r3.rng x hx; omega) (by
        rw [List.length_append, List.length_append, p2.len, p3, r3.len, hlb]
        exact Nat.lt_of_lt_of_le (show _ < 5001 by omega) (by decide))
      have hplace2 : place + s.sz = base + Sts.sz (ss.take (i + 1)) := by rw [szs_take hs]; omega
      refine ⟨[some (.ref D), some (.tup (Sts.w ss)), some (.int pr), some (.int place), some (.int behind), some (.int i), v6, v7, v8, v9, v10, v11], [some (.ref D), some (.tup (Sts.w ss)), some (.int pr), some (.int (base + Sts.sz (ss.take (i + 1)) : Nat)), some (.int behind), some (.int i), some (.int s.sz), some (.int fol), some (.int (backS s place fol)), some (.ref S1.length), w10, w11], S3, rfl, .inl ?_, _, _, _, _, _, _, _, qs ++ (q2 ++ [(place, ⟨pr, some s, entsB (place + 1) (backS s place fol) (bods s), some fol⟩)]), mid ++ (⟨pr, some s, entsB (place + 1) (backS s place fol) (bods s), some fol⟩ :: layB pr (place + 1) (backS s place fol) (bods s)), rfl, ?_, ?_, ?_, ?_, ?_⟩
      · rw [ss_nx (env' := [some (.ref D), some (.tup (Sts.w ss)), some (.int pr), some (.int place), some (.int behind), some (.int i), some (.int s.sz), v7, v8, v9, v10, v11]) (S' := S1) (by simp [exS, evE, evEs, evL, hat, l1, clOf_fn, full_no L.toLib (f := 48) (by decide), hsize'])]
        rw [ss_nx (env' := [some (.ref D), some (.tup (Sts.w ss)), some (.int pr), some (.int place), some (.int behind), some (.int i), some (.int s.sz), some (.int behind), v8, v9, v10, v11]) (S' := S1) (by simp [exS, evE])]
        rw [ss_nx hcond]
        rw [ss_nx (env' := [some (.ref D), some (.tup (Sts.w ss)), some (.int pr), some (.int place), some (.int behind), some (.int i), some (.int s.sz), some (.int fol), some (.int fol), v9, v10, v11]) (S' := S1) (by simp [exS, evE])]
        rw [ss_nx (env' := [some (.ref D), some (.tup (Sts.w ss)), some (.int pr), some (.int place), some (.int behind), some (.int i), some (.int s.sz), some (.int fol), some (.int (backS s place fol)), v9, v10, v11]) (S' := S1) (by
          have l2 : (2 : Nat) ≤ sizeLine := by decide
          cases s <;> simp [exS, exSs, evE, evEs, evL, hat, St.w, L.tag, inW, flatW, eqF, l2, backS])]
        rw [ss_nx (env' := [some (.ref D), some (.tup (Sts.w ss)), some (.int pr), some (.int place), some (.int behind), some (.int i), some (.int s.sz), some (.int fol), some (.int (backS s place fol)), some (.ref S1.length), v10, v11]) (S' := S1 ++ [.lst []]) (by simp [exS, evE, evEs, evL])]
        rw [ss_nx (env' := [some (.ref D), some (.tup (Sts.w ss)), some (.int pr), some (.int place), some (.int behind), some (.int i), some (.int s.sz), some (.int fol), some (.int (backS s place fol)), some (.ref S1.length), some (.int (place + 1 : Nat)), v11]) (S' := S1 ++ [.lst []]) (by simp [exS, evE, evEs])]
        rw [ss_nx r1]
        have l4 : (4 : Nat) ≤ sizeLine := by decide
        rw [ss_nx (env' := [some (.ref D), some (.tup (Sts.w ss)), some (.int pr), some (.int place), some (.int behind), some (.int i), some (.int s.sz), some (.int fol), some (.int (backS s place fol)), some (.ref S1.length), w10, w11]) (S' := S3) (by simp [exS, evE, evEs, evL, hat, l4, u1])]
        rw [← hplace2]
        simp [exSs, exS, evE, evEs]
      · simpa using u2
      · exact p2.app (by rw [p3, hplace]; exact r3.own)
      · rw [List.length_append, List.length_cons, hlb, p3, szs_take hs, sz_bods]
        omega
      · rw [← hplace2]
        simpa using p4
      · refine ⟨by have := r5.1; omega, fun x hx hne => ?_⟩
        rw [u4 x hne, r5.2 x (by omega) hne, p5.2 x hx hne])
  subst he
  rw [upTo_len] at e h1 h2
  simp only [List.drop_length, lays, List.append_nil] at h2
  subst h2
  refine ⟨S', qs, ?_, hp, hc, h3⟩
  refine run_nx L.f49 rfl rfl (env0 := [some (.ref D), some (.tup (Sts.w ss)), some (.int pr), some (.int base), some (.int behind), none, none, none, none, none, none, none]) (env1 := [some (.ref D), some (.tup (Sts.w ss)), some (.int pr), some (.int (base + Sts.sz (ss.take ss.length) : Nat)), some (.int behind), v5, v6, v7, v8, v9, v10, v11]) (S1 := S') ?_ rfl
  unfold d__law_fill
  dsimp only
  rw [ss_nx e, exSs]
theorem fill_ok (L : LTab P) {D pr : Nat} : ∀ (n : Nat) (ss : List St) (k : Nat), Sts.nd ss ≤ n → n + 4 ≤ k → FillSpec P (k + 1) D pr ss := by
  intro n
  induction n with
  | zero =>
    intro ss k hd hk
    refine fill_body L hd hk fun s hs B hB => ?_
    have h1 := nd_bods hB
    have h2 := nd_mem hs
    omega
  | succ n ih =>
    intro ss k hd hk
    obtain ⟨k, rfl⟩ : ∃ k', k = k' + 1 := ⟨k - 1, by omega⟩
    refine fill_body L hd hk fun s hs B hB => ?_
    have h1 := nd_bods hB
    have h2 := nd_mem hs
    exact ih B k (by omega) (by omega)
/-- the table that the law tells itself -/
structure Told (m : Mp) (told : W) : Prop where
  eq : ∃ ks ws, told = .lst [.dct ks ws, .lst (m.ents.map iw)] ∧ ks.length = m.pts.length ∧ ∀ (i : Nat) (t : Pt), m.pts[i]? = some t → dLook ks ws (.inl (i : Int)) = some (rowW t)
  pu : Pu told
theorem rows_out {S : Sto} {D N : Nat} {A : List Nat} (hN : N ≤ D) : ∀ {ps : List (Nat × Pt)} {ws : List W}, Rows S D A ps ws → resWs N (deref N (S.drop N) 7) ws = some (ps.map fun (x : Nat × Pt) => rowW x.2)
  | [], ws, h => by rw [show ws = [] from h]; rfl
  | x :: ps, ws, ⟨w, ws', e, ⟨w4, e1, h1⟩, h2⟩ => by
    subst e e1
    have hst : Pu x.2.stw := by
      unfold Pt.stw
      split
      · exact St.pu _
      · rfl
    have hfo : Pu x.2.fow := by
      unfold Pt.fow
      split <;> rfl
    have h4 : resW N (deref N (S.drop N) 7) w4 = some (.lst (x.2.en.map iw)) := by
      rcases h1 with ⟨e, rfl, h1, h2, h3⟩ | rfl
      · rw [resW_ref (by omega)]
        exact deref_lst (by rw [List.getElem?_drop]; rw [show N + (e - N) = e by omega]; exact h3) (pus_at (map_pu iw_pu) _)
      · exact res_below ((lst_pu (map_pu iw_pu)).at _)
    have hr : resWs N (deref N (S.drop N) 7) [.int x.2.pr, x.2.stw, x.2.fow, w4] = some [.int x.2.pr, x.2.stw, x.2.fow, .lst (x.2.en.map iw)] := by
      simp only [resWs, res_below (hst.at N), res_below (hfo.at N), h4]
      simp [resW]
    have hl : resW N (deref N (S.drop N) 7) (.lst [.int x.2.pr, x.2.stw, x.2.fow, w4]) = some (rowW x.2) := by
      unfold resW
      rw [hr]
      rfl
    rw [resWs, hl, rows_out hN h2]
    rfl
theorem look_of {ps : List (Nat × Pt)} : (ps.map (·.1)).Nodup → ∀ {i : Nat} {t : Pt}, (i, t) ∈ ps → dLook (pkeys ps) (ps.map fun (x : Nat × Pt) => rowW x.2) (.inl (i : Int)) = some (rowW t) := by
  induction ps with
  | nil => intro _ i t h; cases h
  | cons x ps ih =>
    intro hn i t h
    rw [List.map_cons, List.nodup_cons] at hn
    rw [pkeys, List.map_cons, List.map_cons, dLook_cons]
    rcases List.mem_cons.mp h with rfl | h
    · rw [if_pos rfl]
    · have : ¬ ((.inl (x.1 : Int) : L2.Key) = .inl (i : Int)) := fun e => by
        have e := Sum.inl.inj e
        have e : x.1 = i := by omega
        exact hn.1 (List.mem_map.mpr ⟨(i, t), h, e.symm⟩)
      rw [if_neg this]
      exact ih hn.2 h
theorem rowW_pu (t : Pt) : Pu (rowW t) := by
  have hst : Pu t.stw := by
    unfold Pt.stw
    split
    · exact St.pu _
    · rfl
  have hfo : Pu t.fow := by
    unfold Pt.fow
    split <;> rfl
  have h1 := lst_pu (map_pu iw_pu (xs := t.en))
  simp [Pu, rowW, below, belows] at hst hfo h1 ⊢
  exact ⟨hst, hfo, h1⟩
theorem table_ok (L : LTab P) {p : Pg} {n : Nat} (hnd : ∀ x ∈ p.procs, Sts.nd x.2 ≤ n) (hsz : (mpOf p.procs).pts.length ≤ 4000) (hpn : p.procs.length ≤ 1000) (hk : n + 8 ≤ k) {S : Sto} :
    ∃ told, Told (mpOf p.procs) told ∧ run P (k + 1) 45 [.lst [.int p.g, .lst (p.procs.map prw)]] S = .ok told S := by
  obtain ⟨k, rfl⟩ : ∃ k', k = k' + 2 := ⟨k - 2, by omega⟩
  have l2 : (2 : Nat) ≤ sizeLine := by decide
  have l4 : (4 : Nat) ≤ sizeLine := by decide
  have l0 : (0 : Nat) ≤ sizeLine := by decide
  generalize hpw : (W.lst [.int p.g, .lst (p.procs.map prw)]) = pw
  have hpr : ∀ env : Env, env[0]? = some (some pw) → ∀ S, evE P (clOf P (k + 2)) (.idx (.var 0) (.int 1)) env S = .ok (.lst (p.procs.map prw)) S := fun env h S => by
    subst hpw
    simp [evE, h]
  obtain ⟨env', S', e, v4, v5, qs, he, hp, hc, hen, hkp⟩ := for_go (P := P) (C := clOf P (k + 2)) (t := .nm 4) (it := .rng1 (.blt .len (.cons (.idx (.var 0) (.int 1)) .nil)))
    (b := (.cons (.asg (.nm 5) (.call 48 (.cons (.idx (.idx (.idx (.var 0) (.int 1)) (.var 4)) (.int 1)) .nil))) (.cons (.expr (.bm .append (.var 2) (.cons (.var 3) .nil))) (.cons (.expr (.call 49 (.cons (.var 1) (.cons (.idx (.idx (.idx (.var 0) (.int 1)) (.var 4)) (.int 1)) (.cons (.var 4) (.cons (.var 3) (.cons (.bin .add (.var 3) (.var 5)) .nil))))))) (.cons (.sub (.var 1) (.bin .add (.var 3) (.var 5)) (.lst (.disp (.cons (.var 4) (.cons .non (.cons .non (.cons (.lst (.disp .nil)) .nil))))))) (.cons (.asg (.nm 3) (.bin .add (.bin .add (.var 3) (.var 5)) (.int 1))) .nil))))))
    (env := [some pw, some (.ref S.length), some (.ref (S.length + 1)), some (.int 0), none, none]) (S := S ++ [.dK [] [], .lst []]) (S0 := S ++ [.dK [] [], .lst []]) (xs := upTo 0 p.procs.length) (g := [])
    (fun i env S1 => ∃ v4 v5 qs, env = [some pw, some (.ref S.length), some (.ref (S.length + 1)), some (.int (pbase p.procs i)), v4, v5] ∧ TR S1 S.length [S.length + 1] qs ∧ Cov qs 0 (ptsFrom 0 0 (p.procs.take i)) ∧ S1[S.length + 1]? = some (.lst ((entsFrom 0 (p.procs.take i)).map iw)) ∧ ∀ x, x < S.length → S1[x]? = S[x]?)
    (evI_rngN (by
      have := hpr [some pw, some (.ref S.length), some (.ref (S.length + 1)), some (.int 0), none, none] rfl (S ++ [.dK [] [], .lst []])
      generalize (CE.idx (.var 0) (.int 1)) = ce at this ⊢
      simp [evE, evEs, this]) (by omega)) (fun _ _ _ _ _ => gOk_nil)
    ⟨none, none, [], by simp [pbase, ptsFrom], ⟨⟨[], by simp, rfl⟩, by simp⟩, Cov.nil, by simp [entsFrom], fun x hx => by rw [List.getElem?_append_left hx]⟩
    (fun i x env S1 hx ⟨v4, v5, qs, e1, p1, p2, p3, p4⟩ => by
      subst e1
      obtain ⟨rfl, hil⟩ := upTo_at hx
      obtain ⟨pc, hpc⟩ : ∃ pc, p.procs[i]? = some pc := ⟨p.procs[i], by simp⟩
      obtain ⟨post, hsp, hb1⟩ := pts_split hpc
      obtain ⟨lc, body⟩ := pc
      have hbd := hnd _ (List.mem_of_getElem? hpc)
      dsimp only at hbd hb1 hsp
      have htk : p.procs.take (i + 1) = p.procs.take i ++ [(lc, body)] := by rw [List.take_add_one, hpc]; rfl
      have hti : (p.procs.take i).length = i := by rw [List.length_take]; omega
      have hpf := ptsFrom_append [(lc, body)] (p.procs.take i) 0 0
      have hef := entsFrom_append [(lc, body)] (p.procs.take i) 0 0
      rw [← htk, hti] at hpf
      rw [← htk] at hef
      simp only [Nat.zero_add, ptsFrom, entsFrom] at hpf hef
      have hB : (ptsFrom 0 0 (p.procs.take i)).length = pbase p.procs i := rfl
      rw [hB] at hpf hef
      have hle : pbase p.procs i + Sts.sz body + 1 ≤ 4000 := by
        have h2 : (ptsFrom 0 0 p.procs).length ≤ 4000 := hsz
        rw [hsp] at h2
        simp [lays_len, hB] at h2
        omega
      generalize hbase : pbase p.procs i = base at *
      have hlen1 : S.length + 1 < S1.length := (List.getElem?_eq_some_iff.mp p3).1
      have hbod : ∀ env : Env, env[0]? = some (some pw) → env[4]? = some (some (.int i)) → ∀ S, evE P (clOf P (k + 2)) (.idx (.idx (.idx (.var 0) (.int 1)) (.var 4)) (.int 1)) env S = .ok (.tup (Sts.w body)) S := fun env h0 h4 S => by
        have e2 : L2.atI (p.procs.map prw) (i : Int) = some (prw (lc, body)) := atI_nat (by simp [hpc])
        have := hpr env h0 S
        generalize (CE.idx (.var 0) (.int 1)) = ce at this ⊢
        simp [evE, this, h4, e2, prw]
      have hsize := lsize_ok (P := P) L.toLOwn n (ss := body) (k := k + 1) (S := S1) (x := .tup (Sts.w body)) hbd (by omega) (.inl rfl)
      have hel : (entsFrom 0 (p.procs.take i)).length = i := by
        have hl : ∀ (xs : List (Nat × List St)) (b : Nat), (entsFrom b xs).length = xs.length := by
          intro xs
          induction xs with
          | nil => intro b; rfl
          | cons x xs ih => intro b; simp [entsFrom, ih]
        rw [hl, hti]
      have ha := append_ref (x := .int base) p3 (by rw [List.length_map, hel]; exact Nat.lt_of_lt_of_le (show i < 1001 by omega) (by decide))
      have hb := bmK_ref p3
      generalize hSa : S1.set (S.length + 1) (.lst ((entsFrom 0 (p.procs.take i)).map iw ++ [.int base])) = Sa at ha
      have hSal : Sa.length = S1.length := by rw [← hSa]; simp
      have hSax : ∀ x, x ≠ S.length + 1 → Sa[x]? = S1[x]? := fun x hx => by rw [← hSa, List.getElem?_set_ne (Ne.symm hx)]
      have hSae : Sa[S.length + 1]? = some (.lst ((entsFrom 0 (p.procs.take (i + 1))).map iw)) := by
        rw [← hSa, List.getElem?_set_self hlen1, hef]
        simp [iw]
      have p1a : TR Sa S.length [S.length + 1] qs := p1.keep (hSax _ (by omega)) fun e _ hne o ho => by
        rw [hSax e (by intro z; exact hne (by rw [z]; exact List.mem_cons_self))]
        exact ho
      obtain ⟨S2, q2, r1, r2, r3, r4⟩ := fill_ok (P := P) L (D := S.length) (pr := i) n body (k + 1) hbd (by omega) Sa [S.length + 1] qs base (base + Sts.sz body) p1a (fun a ha => by simp at ha; omega) (fun x hx => by
        have := p2.rng x hx
        rw [hB] at this
        omega) (by rw [p2.len, hB]; omega)
      have hS2e : S2[S.length + 1]? = some (.lst ((entsFrom 0 (p.procs.take (i + 1))).map iw)) := by rw [r4.2 _ (by omega) (by omega)]; exact hSae
      obtain ⟨S3, u1, u2, u3, u4⟩ := r2.put (i := base + Sts.sz body) (t := ⟨i, none, [], none⟩) (w := .lst [.int i, .non, .non, .lst []]) ⟨_, rfl, .inr rfl⟩ (by
        intro hm
        rw [List.map_append, List.mem_append] at hm
        rcases hm with hm | hm
        · obtain ⟨x, hx, e⟩ := List.mem_map.mp hm
          have := p2.rng x hx
          rw [hB] at this
          omega
        · obtain ⟨x, hx, e⟩ := List.mem_map.mp hm
          have := r3.rng x hx
          rw [lays_len] at this
          omega) (by
        rw [List.length_append, p2.len, r3.len, lays_len, hB]
        exact Nat.lt_of_lt_of_le (show _ < 5001 by omega) (by decide))
      refine ⟨[some pw, some (.ref S.length), some (.ref (S.length + 1)), some (.int base), some (.int i), v5], [some pw, some (.ref S.length), some (.ref (S.length + 1)), some (.int (pbase p.procs (i + 1))), some (.int i), some (.int (Sts.sz body))], S3, rfl, .inl ?_, some (.int i), some (.int (Sts.sz body)), qs ++ q2 ++ [(base + Sts.sz body, ⟨i, none, [], none⟩)], rfl, u2, ?_, ?_, ?_⟩
      · have hbe := hbod [some pw, some (.ref S.length), some (.ref (S.length + 1)), some (.int base), some (.int i), v5] rfl rfl
        have hbe2 := hbod [some pw, some (.ref S.length), some (.ref (S.length + 1)), some (.int base), some (.int i), some (.int (Sts.sz body))] rfl rfl
        generalize (CE.idx (.idx (.idx (.var 0) (.int 1)) (.var 4)) (.int 1)) = ce at hbe hbe2 ⊢
        rw [ss_nx (env' := [some pw, some (.ref S.length), some (.ref (S.length + 1)), some (.int base), some (.int i), some (.int (Sts.sz body))]) (S' := S1) (by simp [exS, evE, evEs, hbe, clOf_fn, full_no L.toLib (f := 48) (by decide), hsize])]
        rw [ss_nx (env' := [some pw, some (.ref S.length), some (.ref (S.length + 1)), some (.int base), some (.int i), some (.int (Sts.sz body))]) (S' := Sa) (by simp [exS, evE, evEs, hb, ha])]
        have hadd : (base : Int) + (Sts.sz body : Int) = ((base + Sts.sz body : Nat) : Int) := by omega
        rw [ss_nx (env' := [some pw, some (.ref S.length), some (.ref (S.length + 1)), some (.int base), some (.int i), some (.int (Sts.sz body))]) (S' := S2) (by
          simp only [exS, evE, evEs, List.getElem?_cons_succ, List.getElem?_cons_zero, Option.join_some, R.of_some_, R.bind_ok_, hbe2, binW_add, hadd, clOf_fn, full_no L.toLib (f := 49) (by decide), r1])]
        rw [ss_nx (env' := [some pw, some (.ref S.length), some (.ref (S.length + 1)), some (.int base), some (.int i), some (.int (Sts.sz body))]) (S' := S3) (by
          simp only [exS, evE, evEs, evL, List.length_cons, List.length_nil, List.getElem?_cons_succ, List.getElem?_cons_zero, Option.join_some, R.of_some_, R.bind_ok_, binW_add, hadd]
          rw [if_pos (by exact l0)]
          simp only [R.bind_ok_]
          rw [if_pos (by exact l4)]
          simp only [R.bind_ok_, u1])]
        have hnb : (base : Int) + (Sts.sz body : Int) + 1 = ((pbase p.procs (i + 1) : Nat) : Int) := by omega
        simp [exSs, exS, evE, evEs, hnb]
      · rw [hpf, List.append_assoc]
        have c1 : Cov [(base + Sts.sz body, (⟨i, none, [], none⟩ : Pt))] (base + (lays i base (base + Sts.sz body) body).length) [⟨i, none, [], none⟩] := by
          rw [lays_len]
          exact ⟨rfl, fun j t h => by
            cases j with
            | zero => simp at h; subst h; simp
            | succ j => simp at h, fun x hx => by simp at hx; subst hx; dsimp only; simp⟩
        have := p2.app (q2 := q2 ++ [(base + Sts.sz body, (⟨i, none, [], none⟩ : Pt))]) (l2 := lays i base (base + Sts.sz body) body ++ [⟨i, none, [], none⟩]) (by
          rw [hB, Nat.zero_add]
          exact r3.app c1)
        exact this
      · rw [u4 _ (by omega)]; exact hS2e
      · intro x hx
        rw [u4 x (by omega), r4.2 x (by omega) (by omega), hSax x (by omega)]
        exact p4 x hx)
  subst he
  rw [upTo_len] at hc hen
  rw [List.take_length] at hc hen
  obtain ⟨ws, hw1, hw2⟩ := hp.ob
  have hend : S.length + 1 < S'.length := (List.getElem?_eq_some_iff.mp hen).1
  refine ⟨.lst [.dct (pkeys qs) (qs.map fun (x : Nat × Pt) => rowW x.2), .lst ((entsFrom 0 p.procs).map iw)], ⟨⟨_, _, rfl, by simp [hc.len, mpOf], fun i t ht => look_of hp.nd (by have := hc.all i t ht; rwa [Nat.zero_add] at this)⟩, ?_⟩, ?_⟩
  · have h1 : belows 0 (qs.map fun (x : Nat × Pt) => rowW x.2) = true := pus_at (map_pu (fun (x : Nat × Pt) => rowW_pu x.2)) 0
    have h2 := lst_pu (map_pu iw_pu (xs := entsFrom 0 p.procs))
    simp [Pu, below, belows] at h1 h2 ⊢
    exact ⟨h1, h2⟩
  · refine run_ret L.f45 rfl rfl (w := .lst [.ref S.length, .ref (S.length + 1)]) (env0 := [some pw, none, none, none, none, none]) (S1 := S') ?_ ?_
    · unfold d__law_table
      dsimp only
      rw [ss_nx (env' := [some pw, some (.ref S.length), none, none, none, none]) (S' := S ++ [.dK [] []]) (by simp [exS, evE, evEs, xW])]
      rw [ss_nx (env' := [some pw, some (.ref S.length), some (.ref (S.length + 1)), none, none, none]) (S' := S ++ [.dK [] [], .lst []]) (by simp [exS, evE, evEs, evL])]
      rw [ss_nx (env' := [some pw, some (.ref S.length), some (.ref (S.length + 1)), some (.int 0), none, none]) (S' := S ++ [.dK [] [], .lst []]) (by simp [exS, evE])]
      rw [ss_nx e]
      simp [exSs, exS, evE, evEs, evL, l2]
    · refine exit_keep hkp (by omega) ?_
      have at_ : ∀ x, S.length ≤ x → (S'.drop S.length)[x - S.length]? = S'[x]? := fun x hx => by rw [List.getElem?_drop]; congr 1; omega
      have d1 : deref S.length (S'.drop S.length) 8 S.length = some (.dct (pkeys qs) (qs.map fun (x : Nat × Pt) => rowW x.2)) := by
        unfold deref
        rw [at_ _ (Nat.le_refl _), hw1]
        dsimp only
        rw [rows_out (Nat.le_refl _) hw2]
        rfl
      have d2 : deref S.length (S'.drop S.length) 8 (S.length + 1) = some (.lst ((entsFrom 0 p.procs).map iw)) := deref_lst (by rw [at_ _ (by omega)]; exact hen) (pus_at (map_pu iw_pu) _)
      have r1 : resWs S.length (deref S.length (S'.drop S.length) 8) [.ref S.length, .ref (S.length + 1)] = some [.dct (pkeys qs) (qs.map fun (x : Nat × Pt) => rowW x.2), .lst ((entsFrom 0 p.procs).map iw)] := by
        simp only [resWs, resW_ref (Nat.le_refl S.length), resW_ref (show S.length ≤ S.length + 1 by omega), d1, d2]
      unfold resW
      rw [r1]
      rfl
end
end Eng

set_option Elab.async false
set_option linter.all false
set_option maxHeartbeats 4000000
set_option maxRecDepth 100000
/-! K4: the laws' own: what follows a situation. -/
namespace Eng
open PySem L2
/-- a law's program -/
abbrev lpw (p : Pg) : W := .lst [.int p.g, .lst (p.procs.map prw)]
structure LAft (P : Prog) : Prop extends LTab P where
  f54 : P.fn 54 = some d__law_frame
  f55 : P.fn 55 = some d__law_with
  f56 : P.fn 56 = some d__law_value
  f51 : P.fn 51 = some d__law_after
def gow (x : Nat × List Bool × List Bool) : W := .tup [.int x.1, lw x.2.1 x.2.2]
theorem gow_pu (x : Nat × List Bool × List Bool) : Pu (gow x) := by
  have h1 := lw_pu x.2.1 x.2.2
  simp only [gow, Pu, below, belows, Bool.and_true, Bool.true_and] at h1 ⊢
  exact h1
section
variable {P : Prog} {S : Sto} {k : Nat} {p : Pg} {m : Mp} {told : W}
theorem after_end {gs : List Bool} {f : Fr} {t : Pt} (ht : m.pts[f.1]? = some t) (hs : t.st = none) : m.after p gs f = [(gs, [])] := by
  unfold Mp.after
  rw [ht]
  dsimp only
  rw [hs]
theorem after_ret {gs : List Bool} {f : Fr} {t : Pt} (ht : m.pts[f.1]? = some t) (hs : t.st = some .ret) : m.after p gs f = [(gs, [])] := by
  unfold Mp.after
  rw [ht]
  dsimp only
  rw [hs]
theorem after_call {gs : List Bool} {f : Fr} {t : Pt} {q : Nat} (ht : m.pts[f.1]? = some t) (hs : t.st = some (.call q)) : m.after p gs f = [(gs, [(m.ents.getD q 0, List.replicate (p.procs.getD q (0, [])).1 false), (t.fo.getD 0, f.2)])] := by
  unfold Mp.after
  rw [ht]
  dsimp only
  rw [hs]
theorem after_in {gs : List Bool} {f : Fr} {t : Pt} {s : St} (ht : m.pts[f.1]? = some t) (hs : t.st = some s) (hi : s.in_) : m.after p gs f = (t.go gs f.2).map fun x => (x.2.1, [(x.1, x.2.2)]) := by
  unfold Mp.after
  rw [ht]
  dsimp only
  rw [hs]
  cases s <;> first | rfl | exact hi.elim
theorem lframe_ok (L : LAft P) (T : Told m told) {q : Nat} (h1 : q < m.ents.length) (h2 : q < p.procs.length) (h3 : (p.procs.getD q (0, [])).1 ≤ 1000) : run P (k + 1) 54 [lpw p, told, .int q] S = .ok (fw (m.ents.getD q 0, List.replicate (p.procs.getD q (0, [])).1 false)) S := by
  obtain ⟨ks, ws, rfl, _, _⟩ := T.eq
  have e1 : L2.atI (m.ents.map iw) (q : Int) = some (.int (m.ents.getD q 0 : Nat)) := atI_nat (by simp [h1, iw])
  have e2 : L2.atI (p.procs.map prw) (q : Int) = some (prw (p.procs.getD q (0, []))) := atI_nat (by simp [h2])
  have l2 : (2 : Nat) ≤ sizeLine := by decide
  generalize p.procs.getD q (0, []) = pc at e2 h3 ⊢
  generalize m.ents.getD q 0 = en at e1 ⊢
  refine run_ret L.f54 rfl rfl (w := fw (en, List.replicate pc.1 false)) (env0 := [some (lpw p), some (.lst [.dct ks ws, .lst (m.ents.map iw)]), some (.int q), none]) (S1 := S) ?_ (fin_pu0 (fw_pu _))
  have ec := comp_go (P := P) (C := clOf P k) (own := [3]) (t := .nm 3) (it := .rng1 (.idx (.idx (.idx (.var 0) (.int 1)) (.var 2)) (.int 0))) (tst := .nil) (e := .bl false) (env := [some (lpw p), some (.lst [.dct ks ws, .lst (m.ents.map iw)]), some (.int q), none]) (S := S) (xs := upTo 0 pc.1) (g := []) (h := fun _ => some (.bl false)) (evI_rngN (by simp [evE, e2, prw]) (by omega)) (fun _ => gOk_nil)
    (by rw [upTo_len]; exact Nat.le_trans h3 (by decide)) (fun x hx acc => ⟨_, rfl, true, by simp [evAll], .inr ⟨_, rfl, rfl, by simp [evE], rfl⟩⟩)
  have e3 : (upTo 0 pc.1).filterMap (fun _ => some (W.bl false)) = (List.replicate pc.1 false).map W.bl := by
    rw [List.filterMap_eq_map']
    rw [List.map_const', upTo_len, List.map_replicate]
  rw [e3] at ec
  unfold d__law_frame
  generalize (CE.comp true [3] (.nm 3) (.rng1 (.idx (.idx (.idx (.var 0) (.int 1)) (.var 2)) (.int 0))) .nil (.bl false)) = ce at ec ⊢
  simp [exSs, exS, evE, evEs, e1, ec, l2, fw]
theorem lafter_ok (L : LAft P) (T : Told m told) {gs : List Bool} {f : Fr} {r : List Fr} {t : Pt} (ht : m.pts[f.1]? = some t) (ho : t.ok gs.length f.2.length)
    (hc : ∀ q, t.st = some (.call q) → q < m.ents.length ∧ q < p.procs.length ∧ (p.procs.getD q (0, [])).1 ≤ 1000) (hr : r.length ≤ 1000) (hk : 14 ≤ k) :
    run P (k + 1) 51 [lpw p, told, aw (gs, f :: r)] S = .ok (.lst ((m.after p gs f).map fun x => aw (x.1, x.2 ++ r))) S := by
  obtain ⟨k, rfl⟩ : ∃ k', k = k' + 1 := ⟨k - 1, by omega⟩
  obtain ⟨ks, ws, htold, hkl, hlook⟩ := T.eq
  have l2 : (2 : Nat) ≤ sizeLine := by decide
  have l1 : (1 : Nat) ≤ sizeLine := by decide
  have l0 : (0 : Nat) ≤ sizeLine := by decide
  have lr1 : 1 + r.length ≤ sizeLine := Nat.le_trans (show 1 + r.length ≤ 1002 by omega) (by decide)
  have lr2 : 2 + r.length ≤ sizeLine := Nat.le_trans (show 2 + r.length ≤ 1002 by omega) (by decide)
  obtain ⟨pl, ls⟩ := f
  dsimp only at ht ho
  have e1 : dLook ks ws (.inl (pl : Int)) = some (rowW t) := hlook _ _ ht
  have hz : ¬ (((r.map fw).length : Int) + 1 = 0) := by omega
  refine run_ret L.f51 rfl rfl (w := .lst _) (env0 := [some (lpw p), some told, some (aw (gs, (pl, ls) :: r)), none, none, none, none, none, none, none, none]) (S1 := S) ?_ (fin_pu0 (lst_pu (map_pu fun x => aw_pu _)))
  unfold d__law_after
  dsimp only
  rw [ss_nx (env' := [some (lpw p), some told, some (aw (gs, (pl, ls) :: r)), none, none, none, none, none, none, none, none]) (S' := S) (by simp at hz; simp [exS, exSs, evE, evEs, aw, hz])]
  rw [ss_nx (env' := [some (lpw p), some told, some (aw (gs, (pl, ls) :: r)), some (fw (pl, ls)), none, none, none, none, none, none, none]) (S' := S) (by simp [exS, evE, aw])]
  rw [ss_nx (env' := [some (lpw p), some told, some (aw (gs, (pl, ls) :: r)), some (fw (pl, ls)), some (.tup (r.map fw)), none, none, none, none, none, none]) (S' := S) (by simp [exS, evE, aw, isOmit, toI, cut_tail])]
  rw [ss_nx (env' := [some (lpw p), some told, some (aw (gs, (pl, ls) :: r)), some (fw (pl, ls)), some (.tup (r.map fw)), some (rowW t), none, none, none, none, none]) (S' := S) (by rw [htold]; simp [exS, evE, fw, e1])]
  rw [ss_nx (env' := [some (lpw p), some told, some (aw (gs, (pl, ls) :: r)), some (fw (pl, ls)), some (.tup (r.map fw)), some (rowW t), some (lw gs ls), none, none, none, none]) (S' := S) (by simp [exS, evE, evEs, evL, aw, fw, l2])]
  have hrow : rowW t = .lst [.int t.pr, t.stw, t.fow, .lst (t.en.map iw)] := rfl
  cases hst : t.st with
  | none =>
    rw [after_end ht hst]
    refine ss_ret ?_
    have : t.stw = .non := by unfold Pt.stw; rw [hst]
    simp [exS, exSs, evE, evEs, evL, evOr, hrow, this, l1, l2, aw]
  | some s =>
    have hsw : t.stw = s.w := by unfold Pt.stw; rw [hst]
    have hv := fun {e : Ex} (S : Sto) (hw : e.wf gs.length ls.length) (hd : e.dp ≤ 10) => lvalue_ok (P := P) (S := S) (k := k) L.toLib L.f56 (gs := gs) (ls := ls) hw (by omega)
    have hwi := fun {g : Bool} {i : Nat} (v : Bool) (S : Sto) (hi : i < if g then gs.length else ls.length) => lwith_ok (P := P) (S := S) (k := k) L.toLib L.f55 (v := v) hi
    -- the last comprehension
    have fin : ∀ (gos : List (Nat × List Bool × List Bool)) (v7 v9 : Option W), gos.length ≤ 2 → evE P (clOf P (k + 1)) (.comp true [10] (.nm 10) (.seq (.var 8)) .nil (.tup (.cons (.idx (.idx (.var 10) (.int 1)) (.int 0)) (.cons (.bin .add (.tup (.cons (.tup (.cons (.idx (.var 10) (.int 0)) (.cons (.idx (.idx (.var 10) (.int 1)) (.int 1)) .nil))) .nil)) (.var 4)) .nil))))
        [some (lpw p), some told, some (aw (gs, (pl, ls) :: r)), some (fw (pl, ls)), some (.tup (r.map fw)), some (rowW t), some (lw gs ls), v7, some (.lst (gos.map gow)), v9, none] S = .ok (.lst (gos.map fun x => aw (x.2.1, (x.1, x.2.2) :: r))) S := fun gos v7 v9 hl => by
      refine comp_map (ys := gos) (wy := gow) (h := fun x => aw (x.2.1, (x.1, x.2.2) :: r)) (g := []) (by simp [evI, evE]) (fun _ => gOk_nil) (Nat.le_trans hl l2) fun x hx acc => ⟨_, rfl, ?_, (aw_pu _).at _⟩
      have lr1' : 1 + (r.map fw).length ≤ sizeLine := by rw [List.length_map]; exact lr1
      have lr1'' : 0 + 1 + r.length ≤ sizeLine := by omega
      simp [evE, evEs, wipeE, gow, l1, l2, lr1, aw, fw]
    generalize (CE.comp true [10] (.nm 10) (.seq (.var 8)) .nil (.tup (.cons (.idx (.idx (.var 10) (.int 1)) (.int 0)) (.cons (.bin .add (.tup (.cons (.tup (.cons (.idx (.var 10) (.int 0)) (.cons (.idx (.idx (.var 10) (.int 1)) (.int 1)) .nil))) .nil)) (.var 4)) .nil)))) = ce at fin ⊢
    by_cases hi : s.in_
    · rw [after_in ht hst hi, List.map_map]
      dsimp only
      have hgl : (t.go gs ls).length ≤ 2 := by
        unfold Pt.go
        split <;> simp
      have done : ∀ v7 v9, exSs P (clOf P (k + 1)) (.cons (.ret ce) .nil) [some (lpw p), some told, some (aw (gs, (pl, ls) :: r)), some (fw (pl, ls)), some (.tup (r.map fw)), some (rowW t), some (lw gs ls), v7, some (.lst ((t.go gs ls).map gow)), v9, none] S = .ok (.ret (.lst ((t.go gs ls).map ((fun x => aw (x.1, x.2 ++ r)) ∘ fun x => (x.2.1, [(x.1, x.2.2)]))))) S := fun v7 v9 => by
        rw [exSs, exS, fin _ v7 v9 hgl]
        rfl
      obtain ⟨pr, st, en, fo⟩ := t
      dsimp only at hst
      subst hst
      simp only [Pt.ok] at ho
      generalize hG : (Pt.go ⟨pr, some s, en, fo⟩ gs ls) = G at done ⊢
      cases s with
      | call _ => exact hi.elim
      | ret => exact hi.elim
      | set g i e =>
        obtain ⟨o1, o2, o3, o4⟩ := ho
        cases fo with
        | none => cases o4
        | some f =>
          have e1 := fun S => hv S o2 o3
          have e2 := fun v S => hwi v S o1
          have hGe : G.map gow = [gow (f, setB true g gs i (e.ev gs ls), setB false g ls i (e.ev gs ls))] := by rw [← hG]; rfl
          have d := done (some (.str (tg 31))) none
          rw [hGe] at d
          generalize hDD : (R.ok (Fl.ret (W.lst (G.map ((fun x => aw (x.1, x.2 ++ r)) ∘ fun x => (x.2.1, [(x.1, x.2.2)]))))) S) = DD at d ⊢
          simp [exSs, exS, evE, evEs, evL, evOr, evAnd, rowW, Pt.stw, Pt.fow, St.w, L.tag, clOf_fn, full_no L.toLib (f := 56) (by decide), full_no L.toLib (f := 55) (by decide), e1, e2, l1, l2, gow] at d ⊢
          exact d
      | free g i =>
        obtain ⟨o1, o4⟩ := ho
        cases fo with
        | none => cases o4
        | some f =>
          have e2 := fun v S => hwi v S o1
          have ec : evE P (clOf P (k + 1)) (.comp true [9] (.nm 9) (.seq (.lst (.disp (.cons (.bl false) (.cons (.bl true) .nil))))) .nil (.tup (.cons (.idx (.var 5) (.int 2)) (.cons (.call 55 (.cons (.var 6) (.cons (.idx (.idx (.var 5) (.int 1)) (.int 1)) (.cons (.var 9) .nil)))) .nil)))) [some (lpw p), some told, some (aw (gs, (pl, ls) :: r)), some (fw (pl, ls)), some (.tup (r.map fw)), some (rowW ⟨pr, some (.free g i), en, some f⟩), some (lw gs ls), some (.str (tg 32)), some (.lst [.tup [.int f, lw gs ls]]), none, none] S = .ok (.lst ([false, true].map fun v => gow (f, setB true g gs i v, setB false g ls i v))) S := by
            refine comp_map (ys := [false, true]) (wy := W.bl) (h := fun v => gow (f, setB true g gs i v, setB false g ls i v)) (g := []) (by simp [evI, evE, evEs, evL, l2]) (fun _ => gOk_nil) l2 fun v hv acc => ⟨_, rfl, ?_, (gow_pu _).at _⟩
            simp [evE, evEs, wipeE, rowW, Pt.fow, Pt.stw, St.w, L.tag, clOf_fn, full_no L.toLib (f := 55) (by decide), e2, l2, gow]
          generalize (CE.comp true [9] (.nm 9) (.seq (.lst (.disp (.cons (.bl false) (.cons (.bl true) .nil))))) .nil (.tup (.cons (.idx (.var 5) (.int 2)) (.cons (.call 55 (.cons (.var 6) (.cons (.idx (.idx (.var 5) (.int 1)) (.int 1)) (.cons (.var 9) .nil)))) .nil)))) = c9 at ec ⊢
          have hGe : G.map gow = [gow (f, setB true g gs i false, setB false g ls i false), gow (f, setB true g gs i true, setB false g ls i true)] := by rw [← hG]; rfl
          have d := done (some (.str (tg 32))) none
          rw [hGe] at d
          generalize hDD : (R.ok (Fl.ret (W.lst (G.map ((fun x => aw (x.1, x.2 ++ r)) ∘ fun x => (x.2.1, [(x.1, x.2.2)]))))) S) = DD at d ⊢
          simp [exSs, exS, evE, evEs, evL, evOr, evAnd, rowW, Pt.stw, Pt.fow, St.w, L.tag, l1, l2, gow] at ec d ⊢
          simp [ec, d]
      | pass n =>
        cases fo with
        | none => cases ho
        | some f =>
          have hGe : G.map gow = [gow (f, gs, ls)] := by rw [← hG]; rfl
          have d := done (some (.str (tg 33))) none
          rw [hGe] at d
          generalize hDD : (R.ok (Fl.ret (W.lst (G.map ((fun x => aw (x.1, x.2 ++ r)) ∘ fun x => (x.2.1, [(x.1, x.2.2)]))))) S) = DD at d ⊢
          simp [exSs, exS, evE, evEs, evL, evOr, evAnd, rowW, Pt.stw, Pt.fow, St.w, L.tag, l1, l2, gow] at d ⊢
          exact d
      | either a b =>
        match en, ho with
        | x :: y :: en, _ =>
          have hGe : G.map gow = [gow (x, gs, ls), gow (y, gs, ls)] := by rw [← hG]; rfl
          have d := done (some (.str (tg 35))) none
          rw [hGe] at d
          generalize hDD : (R.ok (Fl.ret (W.lst (G.map ((fun x => aw (x.1, x.2 ++ r)) ∘ fun x => (x.2.1, [(x.1, x.2.2)]))))) S) = DD at d ⊢
          simp [exSs, exS, evE, evEs, evL, evOr, evAnd, rowW, Pt.stw, Pt.fow, St.w, L.tag, l1, l2, gow, iw] at d ⊢
          exact d
      | rep a =>
        obtain ⟨o1, o4⟩ := ho
        cases fo with
        | none => cases o4
        | some f =>
          match en, o1 with
          | x :: en, _ =>
            have hGe : G.map gow = [gow (x, gs, ls), gow (f, gs, ls)] := by rw [← hG]; rfl
            have d := done (some (.str (tg 37))) none
            rw [hGe] at d
            generalize hDD : (R.ok (Fl.ret (W.lst (G.map ((fun x => aw (x.1, x.2 ++ r)) ∘ fun x => (x.2.1, [(x.1, x.2.2)]))))) S) = DD at d ⊢
            simp [exSs, exS, evE, evEs, evL, evOr, evAnd, rowW, Pt.stw, Pt.fow, St.w, L.tag, l1, l2, gow, iw] at d ⊢
            exact d
      | ifs e a b =>
        obtain ⟨o1, o2, o3⟩ := ho
        have eV := fun S => hv S o2 o3
        match en, o1 with
        | x :: y :: en, _ =>
          have hGe : G.map gow = [gow (if e.ev gs ls then x else y, gs, ls)] := by
            rw [← hG]
            unfold Pt.go
            dsimp only
            cases c : e.ev gs ls <;> simp
          have d := done (some (.str (tg 34))) none
          rw [hGe] at d
          generalize hDD : (R.ok (Fl.ret (W.lst (G.map ((fun x => aw (x.1, x.2 ++ r)) ∘ fun x => (x.2.1, [(x.1, x.2.2)]))))) S) = DD at d ⊢
          have a1 : ((1 : Int) - 1) = 0 := rfl
          have a2 : ((1 : Int) - 0) = 1 := rfl
          cases c : e.ev gs ls with
          | true =>
            have e1' : ∀ S, run P (k + 1) 56 [e.w, lw gs ls] S = .ok (.bl true) S := fun S => by rw [eV, c]
            rw [c] at d
            simp [exSs, exS, evE, evEs, evL, evOr, evAnd, rowW, Pt.stw, Pt.fow, St.w, L.tag, clOf_fn, full_no L.toLib (f := 56) (by decide), e1', a1, a2, l1, l2, gow, iw] at d ⊢
            exact d
          | false =>
            have e1' : ∀ S, run P (k + 1) 56 [e.w, lw gs ls] S = .ok (.bl false) S := fun S => by rw [eV, c]
            rw [c] at d
            simp [exSs, exS, evE, evEs, evL, evOr, evAnd, rowW, Pt.stw, Pt.fow, St.w, L.tag, clOf_fn, full_no L.toLib (f := 56) (by decide), e1', a1, a2, l1, l2, gow, iw] at d ⊢
            exact d
      | wh e a =>
        obtain ⟨o1, o4, o2, o3⟩ := ho
        have eV := fun S => hv S o2 o3
        cases fo with
        | none => cases o4
        | some f =>
          match en, o1 with
          | x :: en, _ =>
            have hGe : G.map gow = [gow (if e.ev gs ls then x else f, gs, ls)] := by
              rw [← hG]
              unfold Pt.go
              dsimp only
              cases c : e.ev gs ls <;> simp
            have d := done (some (.str (tg 36))) none
            rw [hGe] at d
            generalize hDD : (R.ok (Fl.ret (W.lst (G.map ((fun x => aw (x.1, x.2 ++ r)) ∘ fun x => (x.2.1, [(x.1, x.2.2)]))))) S) = DD at d ⊢
            cases c : e.ev gs ls with
            | true =>
              have e1' : ∀ S, run P (k + 1) 56 [e.w, lw gs ls] S = .ok (.bl true) S := fun S => by rw [eV, c]
              rw [c] at d
              simp [exSs, exS, evE, evEs, evL, evOr, evAnd, rowW, Pt.stw, Pt.fow, St.w, L.tag, clOf_fn, full_no L.toLib (f := 56) (by decide), e1', l1, l2, gow, iw] at d ⊢
              exact d
            | false =>
              have e1' : ∀ S, run P (k + 1) 56 [e.w, lw gs ls] S = .ok (.bl false) S := fun S => by rw [eV, c]
              rw [c] at d
              simp [exSs, exS, evE, evEs, evL, evOr, evAnd, rowW, Pt.stw, Pt.fow, St.w, L.tag, clOf_fn, full_no L.toLib (f := 56) (by decide), e1', l1, l2, gow, iw] at d ⊢
              exact d
    · cases s <;> first | exact absurd trivial hi | skip
      · -- call
        rename_i q
        rw [after_call ht hst]
        obtain ⟨q1, q2, q3⟩ := hc q hst
        unfold Pt.ok at ho
        rw [hst] at ho
        dsimp only at ho
        cases hfo : t.fo with
        | none => rw [hfo] at ho; cases ho
        | some fo =>
          have e3 := lframe_ok (P := P) (S := S) (k := k) L T (p := p) q1 q2 q3
          have hfw : t.fow = .int fo := by unfold Pt.fow; rw [hfo]
          simp [exSs, exS, evE, evEs, evL, evOr, hrow, hsw, hfw, St.w, L.tag, clOf_fn, full_no L.toLib (f := 54) (by decide), l0, l1, l2, lr2, aw, fw] at e3 ⊢
          simp [e3, l1, l2, lr2]
      · rw [after_ret ht hst]
        simp [exSs, exS, evE, evEs, evL, evOr, hrow, hsw, St.w, L.tag, l0, l1, l2, aw]
end
end Eng

set_option Elab.async false
set_option linter.all false
set_option maxHeartbeats 4000000
set_option maxRecDepth 100000
/-! K5: the laws' own letters. -/
namespace Eng
open PySem L2
structure LLet (P : Prog) : Prop extends LAft P where
  f50 : P.fn 50 = some d__law_bits
  f52 : P.fn 52 = some d__law_sum
  f46 : P.fn 46 = some d__law_frames
theorem bits_same : d__law_bits = d_values_of := rfl
section
variable {P : Prog} {S : Sto} {k : Nat} {p : Pg} {m : Mp} {told : W}
theorem lbits_ok (L : LLet P) {n c : Nat} (hc : c ≤ 60) : run P (k + 1) 50 [.int n, .int c] S = .ok (bw (bits n c)) S := values_of_ok (by rw [L.f50, bits_same]) hc
theorem lsum_ok (h : P.fn 52 = some d__law_sum) {bs : List Bool} : run P (k + 1) 52 [bw bs] S = .ok (.int (num bs)) S := by
  obtain ⟨v, e⟩ := for_fold (P := P) (C := clOf P k) (t := .nm 2) (it := .seq (.op .revT (.cons (.var 0) .nil))) (b := .cons (.asg (.nm 1) (.bin .add (.bin .mul (.int 2) (.var 1)) (.blt .int (.cons (.var 2) .nil)))) .nil) (S := S) (xs := (bs.map W.bl).reverse)
    (fun (t : Nat) v => [some (bw bs), some (.int t), v]) (fun t x => match x with | .bl b => 2 * t + b2n b | _ => t) (a0 := 0) (v0 := none)
    (by simp [evI, evE, evEs, xW]) (fun a v x hx => by
      simp only [List.mem_reverse, List.mem_map] at hx
      obtain ⟨b, _, rfl⟩ := hx
      refine ⟨_, some (.bl b), rfl, ?_⟩
      cases b <;> simp [exSs, exS, evE, evEs, CMul, b2n])
  refine run_ret h rfl rfl (w := .int (num bs)) (env0 := [some (bw bs), none, none]) (S1 := S) ?_ (fin_pu0 (by simp [Pu, below]))
  unfold d__law_sum
  dsimp only
  rw [ss_nx (env' := [some (bw bs), some (.int (0 : Nat)), none]) (S' := S) (by simp [exS, evE]), ss_nx e]
  have : ((bs.map W.bl).reverse.foldl (fun t x => match x with | .bl b => 2 * t + b2n b | _ => t) 0) = num bs := by
    rw [num_foldr, ← List.map_reverse, List.foldl_map]
  simp [exSs, exS, evE, this]
/-- the written powers of two -/
theorem pow_at {c : Nat} (h : c ≤ 3) : atI [W.int 1, .int 2, .int 4, .int 8] (c : Int) = some (.int (2 ^ c : Nat)) := by
  have : c = 0 ∨ c = 1 ∨ c = 2 ∨ c = 3 := by omega
  rcases this with rfl | rfl | rfl | rfl <;> rfl
theorem lframes_ok (L : LLet P) (T : Told m told) (hpr : ∀ t ∈ m.pts, t.pr < p.procs.length) (hc : ∀ c ∈ csOf p m, c ≤ 3) (hl : m.pts.length ≤ 1000) (hB : ∀ i, i ≤ m.pts.length → (framesTo (csOf p m) i).length ≤ 1000000) (hk : 3 ≤ k) :
    run P (k + 1) 46 [lpw p, told] S = .ok (.lst ((framesTo (csOf p m) m.pts.length).map fw)) S := by
  obtain ⟨k, rfl⟩ : ∃ k', k = k' + 1 := ⟨k - 1, by omega⟩
  obtain ⟨ks, ws, htold, hkl, hlook⟩ := T.eq
  have l1 : (1100000 : Nat) ≤ sizeLine := by decide
  have l2 : (2 : Nat) ≤ sizeLine := by decide
  have l4 : (4 : Nat) ≤ sizeLine := by decide
  obtain ⟨env', S', e, v3, v4, he, hS⟩ := for_go (P := P) (C := clOf P (k + 1)) (t := .nm 3) (it := .rng1 (.blt .len (.cons (.idx (.var 1) (.int 0)) .nil)))
    (b := (.cons (.for_ (.nm 4) (.rng1 (.idx (.lst (.disp (.cons (.int 1) (.cons (.int 2) (.cons (.int 4) (.cons (.int 8) .nil)))))) (.idx (.idx (.idx (.var 0) (.int 1)) (.idx (.idx (.idx (.var 1) (.int 0)) (.var 3)) (.int 0))) (.int 0)))) (.cons (.expr (.bm .append (.var 2) (.cons (.tup (.cons (.var 3) (.cons (.call 50 (.cons (.var 4) (.cons (.idx (.idx (.idx (.var 0) (.int 1)) (.idx (.idx (.idx (.var 1) (.int 0)) (.var 3)) (.int 0))) (.int 0)) .nil))) .nil))) .nil))) .nil)) .nil))
    (env := [some (lpw p), some told, some (.ref S.length), none, none]) (S := S ++ [.lst []]) (S0 := S ++ [.lst []]) (xs := upTo 0 m.pts.length) (g := [])
    (fun i env S1 => ∃ v3 v4, env = [some (lpw p), some told, some (.ref S.length), v3, v4] ∧ S ++ [.lst ((framesTo (csOf p m) i).map fw)] = S1)
    (evI_rngN (by rw [htold]; simp [evE, evEs, bltW, hkl]) (by omega)) (fun _ _ _ _ _ => gOk_nil) ⟨none, none, rfl, by simp [framesTo]⟩
    (fun i x env S1 hx ⟨v3, v4, e1, e2⟩ => by
      subst e1 e2
      obtain ⟨rfl, hi⟩ := upTo_at hx
      obtain ⟨t, ht⟩ : ∃ t, m.pts[i]? = some t := ⟨m.pts[i], by simp⟩
      have htm := List.mem_of_getElem? ht
      have hcs : (csOf p m).getD i 0 = (p.procs.getD t.pr (0, [])).1 := by simp [csOf, List.getD_eq_getElem?_getD, ht]
      have hc3 : (p.procs.getD t.pr (0, [])).1 ≤ 3 := hc _ (by
        unfold csOf
        exact List.mem_map.mpr ⟨t, htm, rfl⟩)
      have e2 : L2.atI (p.procs.map prw) (t.pr : Int) = some (prw (p.procs.getD t.pr (0, []))) := atI_nat (by simp [hpr t htm])
      have e3 := hlook i t ht
      generalize hcc : p.procs.getD t.pr (0, []) = pc at hcs hc3 e2
      generalize hBB : (framesTo (csOf p m) i).map fw = B
      have hBl : B.length = (framesTo (csOf p m) i).length := by rw [← hBB]; simp
      have hBb := hB i (by omega)
      have hpw : 2 ^ pc.1 ≤ 2 ^ 3 := Nat.pow_le_pow_right (by decide) hc3
      have hcnt : ∀ env : Env, env[0]? = some (some (lpw p)) → env[1]? = some (some told) → env[3]? = some (some (.int i)) → ∀ S, evE P (clOf P (k + 1)) (.idx (.idx (.idx (.var 0) (.int 1)) (.idx (.idx (.idx (.var 1) (.int 0)) (.var 3)) (.int 0))) (.int 0)) env S = .ok (.int pc.1) S := fun env h0 h1 h3 S => by
        rw [htold] at h1
        simp [evE, h0, h1, h3, e3, rowW, e2, prw]
      obtain ⟨env2, S2, e', v, he', hS'⟩ := for_go (P := P) (C := clOf P (k + 1)) (t := .nm 4) (it := .rng1 (.idx (.lst (.disp (.cons (.int 1) (.cons (.int 2) (.cons (.int 4) (.cons (.int 8) .nil)))))) (.idx (.idx (.idx (.var 0) (.int 1)) (.idx (.idx (.idx (.var 1) (.int 0)) (.var 3)) (.int 0))) (.int 0))))
        (b := (.cons (.expr (.bm .append (.var 2) (.cons (.tup (.cons (.var 3) (.cons (.call 50 (.cons (.var 4) (.cons (.idx (.idx (.idx (.var 0) (.int 1)) (.idx (.idx (.idx (.var 1) (.int 0)) (.var 3)) (.int 0))) (.int 0)) .nil))) .nil))) .nil))) .nil))
        (env := [some (lpw p), some told, some (.ref S.length), some (.int i), v4]) (S := S ++ [Ob.lst B]) (S0 := S ++ [Ob.lst B]) (xs := upTo 0 (2 ^ pc.1)) (g := [])
        (fun j env S1 => ∃ v, env = [some (lpw p), some told, some (.ref S.length), some (.int i), v] ∧ S ++ [Ob.lst (B ++ (((List.range j).map fun j => (i, bits j pc.1)).map fw))] = S1)
        (evI_rngN (by
          have h1 := hcnt [some (lpw p), some told, some (.ref S.length), some (.int i), v4] rfl rfl rfl (S ++ [Ob.lst B])
          have h2 := pow_at hc3
          generalize (CE.idx (.idx (.idx (.var 0) (.int 1)) (.idx (.idx (.idx (.var 1) (.int 0)) (.var 3)) (.int 0))) (.int 0)) = ce at h1 ⊢
          simp [evE, evEs, evL, l4, h1, h2]) (by omega)) (fun _ _ _ _ _ => gOk_nil) ⟨v4, rfl, by simp⟩
        (fun j x env S1 hx ⟨v, e1, e2⟩ => by
          subst e1 e2
          obtain ⟨rfl, hj⟩ := upTo_at hx
          generalize hB2 : B ++ (((List.range j).map fun j => (i, bits j pc.1)).map fw) = B2
          have hlen : B2.length < sizeLine := by
            rw [← hB2]
            simp
            omega
          have q2 := lbits_ok (P := P) (S := S ++ [Ob.lst B2]) (k := k) L (n := j) (c := pc.1) (by omega)
          have q3 := append_ref (S := S ++ [Ob.lst B2]) (l := S.length) (x := fw (i, bits j pc.1)) (xs := B2) (by simp) hlen
          have hb : bmK (S ++ [Ob.lst B2]) .append (.ref S.length) = true := bmK_ref (xs := B2) (by simp)
          have hset : (S ++ [Ob.lst B2]).set S.length (.lst (B2 ++ [fw (i, bits j pc.1)])) = S ++ [Ob.lst (B ++ (((List.range (j + 1)).map fun j => (i, bits j pc.1)).map fw))] := by
            rw [List.range_succ, List.map_append, List.map_append, ← List.append_assoc, hB2]
            simp
          rw [hset] at q3
          refine ⟨_, _, _, rfl, .inl ?_, some (.int j), rfl, rfl⟩
          simp only [List.set_cons_succ, List.set_cons_zero]
          have h1 := hcnt [some (lpw p), some told, some (.ref S.length), some (.int i), some (.int j)] rfl rfl rfl (S ++ [Ob.lst B2])
          generalize (CE.idx (.idx (.idx (.var 0) (.int 1)) (.idx (.idx (.idx (.var 1) (.int 0)) (.var 3)) (.int 0))) (.int 0)) = ce at h1 ⊢
          generalize S ++ [Ob.lst B2] = SA at *
          simp only [fw] at q3
          simp [exSs, exS, evE, evEs, hb, h1, clOf_fn, full_no L.toLib (f := 50) (by decide), q2, l2]
          rw [q3]
          simp)
      subst he' hS'
      rw [upTo_len] at e'
      refine ⟨_, _, S ++ [Ob.lst ((framesTo (csOf p m) (i + 1)).map fw)], rfl, .inl ?_, some (.int i), v, rfl, rfl⟩
      simp only [List.set_cons_succ, List.set_cons_zero]
      rw [ss_nx e', exSs, framesTo_succ, List.map_append, hBB, hcs]
      rfl)
  subst he hS
  rw [upTo_len] at e
  refine run_ret L.f46 rfl rfl (w := .ref S.length) (env0 := [some (lpw p), some told, none, none, none]) (S1 := S ++ [.lst ((framesTo (csOf p m) m.pts.length).map fw)]) ?_ ?_
  · unfold d__law_frames
    dsimp only
    rw [ss_nx (env' := [some (lpw p), some told, some (.ref S.length), none, none]) (S' := S ++ [.lst []]) (by simp [exS, evE, evEs, evL])]
    rw [ss_nx e]
    simp [exSs, exS, evE]
  · refine exit_same ?_
    rw [resW_ref (Nat.le_refl _)]
    exact deref_lst (by simp) (pus_at (map_pu fw_pu) _)
end
/-! ### the first place of a frame -/
theorem bw_eqv : ∀ {a b : List Bool}, PyData.eqvAll (toDs (a.map W.bl)) (toDs (b.map W.bl)) = true → a = b
  | [], [], _ => rfl
  | [], y :: ys, h => by simp [toDs, PyData.eqvAll] at h
  | x :: xs, [], h => by simp [toDs, PyData.eqvAll] at h
  | x :: xs, y :: ys, h => by
    simp only [List.map_cons, toDs, PyData.eqvAll, toD, PyData.eqv, Bool.and_eq_true] at h
    have h1 : x = y := by
      have := h.1
      cases x <;> cases y <;> simp at this ⊢
    rw [h1, bw_eqv h.2]
theorem fw_eqv {f f' : Fr} (h : PyData.eqv (toD (fw f')) (toD (fw f)) = true) : f' = f := by
  obtain ⟨a, as⟩ := f
  obtain ⟨b, bs⟩ := f'
  simp only [fw, toD, toDs, PyData.eqv, PyData.eqvAll, Bool.and_eq_true] at h
  obtain ⟨h1, h2, _⟩ := h
  have e1 : b = a := by
    simp at h1
    omega
  rw [e1, bw_eqv h2]
theorem framesTo_ix (cs : List Nat) : ∀ (n m : Nat) (f : Fr), (framesTo cs n)[m]? = some f → m = (framesTo cs f.1).length + num f.2
  | 0, m, f, h => by simp [framesTo] at h
  | n + 1, m, f, h => by
    rw [framesTo_succ] at h
    by_cases hm : m < (framesTo cs n).length
    · rw [List.getElem?_append_left hm] at h
      exact framesTo_ix cs n m f h
    · rw [List.getElem?_append_right (by omega)] at h
      unfold framesAt at h
      have hl : m - (framesTo cs n).length < 2 ^ cs.getD n 0 := by
        have := (List.getElem?_eq_some_iff.mp h).1
        simpa using this
      rw [List.getElem?_map] at h
      rw [List.getElem?_range hl] at h
      simp at h
      subst h
      dsimp only
      rw [num_bits _ _ (by simpa [List.getD_eq_getElem?_getD] using hl)]
      omega
theorem ixOf_at {d : PyData} : ∀ {ws : List W} {j : Nat} {w : W}, ws[j]? = some w → PyData.eqv (toD w) d = true → (∀ i w', i < j → ws[i]? = some w' → PyData.eqv (toD w') d = false) → ixOf d ws = some j
  | [], j, w, h, _, _ => by simp at h
  | x :: xs, 0, w, h, e, _ => by
    cases h
    unfold ixOf
    rw [if_pos e]
  | x :: xs, j + 1, w, h, e, hn => by
    have h0 := hn 0 x (by omega) rfl
    unfold ixOf
    rw [if_neg (by rw [h0]; decide), ixOf_at (j := j) (w := w) (by simpa using h) e fun i w' hi hw => hn (i + 1) w' (by omega) (by simpa using hw)]
    rfl
theorem index_fw {S : Sto} {cs : List Nat} {f : Fr} (h1 : f.1 < cs.length) (h2 : f.2.length = cs.getD f.1 0) : bmW S .index (.lst ((framesTo cs cs.length).map fw)) [fw f] = .ok (.int ((coOf cs).letter f)) S := by
  have hD : Dat 3 (.lst ((framesTo cs cs.length).map fw)) := dat_lst (n := 2) fun w hw => by
    obtain ⟨g, _, rfl⟩ := List.mem_map.mp hw
    exact dat_fw
  have hF : Dat 2 (fw f) := dat_fw
  have r1 : readW S (.lst ((framesTo cs cs.length).map fw)) = some (.lst ((framesTo cs cs.length).map fw)) := by unfold readW; rw [if_pos hD.1]
  have r2 : readW S (fw f) = some (fw f) := by unfold readW; rw [if_pos hF.1]
  have sh : ∀ {n : Nat} {w : W}, Dat n w → n ≤ 60 → SeqAt.shaped (toD w) = true := fun {n w} h hn => by
    unfold SeqAt.shaped
    simp only [Bool.and_eq_true, decide_eq_true_eq]
    exact ⟨h.2.1, by have := h.2.2; omega⟩
  have hat := framesTo_at cs cs.length f h1 h2
  have hlet : (coOf cs).letter f = (framesTo cs f.1).length + num f.2 := by
    unfold Co.letter coOf
    dsimp only
    have e : ((List.range cs.length).map fun i => (framesTo cs i).length).getD f.1 0 = (framesTo cs f.1).length := by simp [List.getD_eq_getElem?_getD, h1]
    rw [e]
  simp only [bmW]
  rw [r1, r2]
  dsimp only
  rw [if_pos ⟨by have := hD.1; simpa [isD] using this, hF.1, by have := sh hD (by decide); simpa [toD] using this, sh hF (by decide)⟩]
  rw [ixOf_at (j := (coOf cs).letter f) (w := fw f) (by rw [hlet, List.getElem?_map, hat]; rfl) (eqv_refl hF.1) fun i w' hi hw => by
    rw [List.getElem?_map] at hw
    cases c : (framesTo cs cs.length)[i]? with
    | none => rw [c] at hw; cases hw
    | some g =>
      rw [c] at hw
      cases hw
      have hix := framesTo_ix cs _ _ _ c
      cases q : PyData.eqv (toD (fw g)) (toD (fw f)) with
      | false => rfl
      | true =>
        have := fw_eqv q
        subst this
        rw [← hlet] at hix
        omega]
end Eng

set_option Elab.async false
set_option linter.all false
set_option maxHeartbeats 4000000
set_option maxRecDepth 100000
/-! K6: the law k74's own steps. -/
namespace Eng
open PySem L2
structure LStp (P : Prog) : Prop extends LLet P where
  f47 : P.fn 47 = some d__law_steps
def stw5 (x : Stp) : W := .tup [.int x.s, .int x.l, .int x.g, .tup (x.laid.map iw), .int 1]
theorem dat_stw5 {x : Stp} : Dat 2 (stw5 x) := dat_tup fun w hw => by
  simp at hw
  rcases hw with rfl | rfl | rfl | rfl | rfl
  · exact dat_int.up (by omega)
  · exact dat_int.up (by omega)
  · exact dat_int.up (by omega)
  · exact dat_tup fun w hw => by
      obtain ⟨f, _, rfl⟩ := List.mem_map.mp hw
      exact dat_int
  · exact dat_int.up (by omega)
theorem stw5_pu (x : Stp) : Pu (stw5 x) := by
  have h2 := tup_pu (map_pu iw_pu (xs := x.laid))
  unfold Pu at h2
  simp [stw5, Pu, below, belows] at h2 ⊢
  exact h2
abbrev lst3 : CSs := (.cons (.asg (.nm 7) (.blt .tuple (.cons (.comp true [8] (.nm 8) (.seq (.idx (.var 6) (.int 1))) .nil (.bm .index (.var 2) (.cons (.var 8) .nil))) .nil))) (.cons (.expr (.bm .append (.var 3) (.cons (.tup (.cons (.var 5) (.cons (.var 4) (.cons (.call 52 (.cons (.idx (.var 6) (.int 0)) .nil)) (.cons (.var 7) (.cons (.int 1) .nil)))))) .nil))) .nil))
abbrev lst2 : CS := .for_ (.nm 6) (.seq (.call 51 (.cons (.var 0) (.cons (.var 1) (.cons (.tup (.cons (.call 50 (.cons (.var 5) (.cons (.idx (.var 0) (.int 0)) .nil))) (.cons (.tup (.cons (.idx (.var 2) (.var 4)) .nil)) .nil))) .nil))))) lst3
abbrev lst1 : CS := .for_ (.nm 5) (.rng1 (.idx (.lst (.disp (.cons (.int 1) (.cons (.int 2) (.cons (.int 4) (.cons (.int 8) .nil)))))) (.idx (.var 0) (.int 0)))) (.cons lst2 .nil)
section
variable {P : Prog} {S : Sto} {k : Nat} {p : Pg} {told : W}
abbrev lfr (p : Pg) : W := .lst ((coOf (csP p)).frames.map fw)
theorem lst2_ok (L : LStp P) (w : p.Wf) (T : Told (mpOf p.procs) told) (hk : 16 ≤ k) {l s : Nat} (hl : l < (coOf (csP p)).frames.length) {B : List W} (hB : B.length + 2 ≤ sizeLine) {v6 v7 v8 : Option W} :
    ∃ w6 w7, exS P (clOf P k) lst2 [some (lpw p), some told, some (lfr p), some (.ref S.length), some (.int l), some (.int s), v6, v7, v8] (S ++ [Ob.lst B]) = .ok (.nx [some (lpw p), some told, some (lfr p), some (.ref S.length), some (.int l), some (.int s), w6, w7, v8])
      (S ++ [Ob.lst (B ++ ((coOf (csP p)).steps p (mpOf p.procs) l s ((coOf (csP p)).frames.getD l (0, []))).map stw5)]) := by
  obtain ⟨k, rfl⟩ : ∃ k', k = k' + 1 := ⟨k - 1, by omega⟩
  have G := good_of w
  have hg := w.g
  have l2 : (2 : Nat) ≤ sizeLine := by decide
  have l1 : (1 : Nat) ≤ sizeLine := by decide
  have l5 : (5 : Nat) ≤ sizeLine := by decide
  have hf : (coOf (csP p)).frames[l]? = some ((coOf (csP p)).frames.getD l (0, [])) := by simp [hl]
  obtain ⟨f1, f2⟩ := G.fr _ (List.mem_of_getElem? hf)
  generalize hff : (coOf (csP p)).frames.getD l (0, []) = f at *
  obtain ⟨t, ht⟩ : ∃ t, (mpOf p.procs).pts[f.1]? = some t := ⟨(mpOf p.procs).pts[f.1]'(by rw [G.pts]; exact f1), by simp⟩
  obtain ⟨t1, t2⟩ := G.pt _ t ht
  have q1 := fun S => lbits_ok (P := P) (S := S) (k := k) L.toLLet (n := s) (c := p.g) (by omega)
  have q2 := fun S => lafter_ok (P := P) (S := S) (k := k) L.toLAft T (p := p) (gs := bits s p.g) (f := f) (r := []) ht (by rw [bits_len, f2]; exact t1) t2 (by simp) (by omega)
  have ef : L2.atI ((coOf (csP p)).frames.map fw) (l : Int) = some (fw f) := atI_nat (by simp [hf])
  have hn : ∀ x ∈ (mpOf p.procs).after p (bits s p.g) f, x.2.length ≤ 2 ∧ ∀ y ∈ x.2, y.1 < (csP p).length ∧ y.2.length = (csP p).getD y.1 0 := fun x hx => by
    obtain ⟨_, n2, n3⟩ := G.next _ _ x (bits_len _ _) f1 f2 hx
    exact ⟨n2, n3⟩
  have hfew := G.few (bits s p.g) f
  simp only [List.append_nil] at q2
  unfold Co.steps
  generalize hgos : (mpOf p.procs).after p (bits s p.g) f = gos at hn hfew q2 ⊢
  obtain ⟨env', S', e, w6, w7, he, hS⟩ := for_go (P := P) (C := clOf P (k + 1)) (t := .nm 6) (it := .seq (.call 51 (.cons (.var 0) (.cons (.var 1) (.cons (.tup (.cons (.call 50 (.cons (.var 5) (.cons (.idx (.var 0) (.int 0)) .nil))) (.cons (.tup (.cons (.idx (.var 2) (.var 4)) .nil)) .nil))) .nil))))) (b := lst3)
    (env := [some (lpw p), some told, some (lfr p), some (.ref S.length), some (.int l), some (.int s), v6, v7, v8]) (S := S ++ [Ob.lst B]) (S0 := S ++ [Ob.lst B]) (xs := gos.map aw) (g := [])
    (fun i env S1 => ∃ w6 w7, env = [some (lpw p), some told, some (lfr p), some (.ref S.length), some (.int l), some (.int s), w6, w7, v8] ∧ S ++ [Ob.lst (B ++ ((gos.take i).map fun x => (⟨s, l, num x.1, x.2.map (coOf (csP p)).letter⟩ : Stp)).map stw5)] = S1)
    (by
      have e1 := q1 (S ++ [Ob.lst B])
      have e2 := q2 (S ++ [Ob.lst B])
      generalize S ++ [Ob.lst B] = SA at e1 e2 ⊢
      simp only [aw, List.map_cons, List.map_nil] at e2
      simp [evI, evE, evEs, clOf_fn, full_no L.toLib (f := 50) (by decide), full_no L.toLib (f := 51) (by decide), e1, ef, l1, l2]
      rw [e2]
      simp
      intro a b _
      rfl) (fun _ _ _ _ _ => gOk_nil) ⟨v6, v7, rfl, by simp⟩ (fun i x env S1 hx ⟨w6, w7, e1, e2⟩ => by
      subst e1 e2
      rw [List.getElem?_map] at hx
      cases cc : gos[i]? with
      | none => rw [cc] at hx; cases hx
      | some y =>
        rw [cc] at hx
        simp only [Option.map_some, Option.some.injEq] at hx
        subst hx
        have hil : i < gos.length := (List.getElem?_eq_some_iff.mp cc).1
        obtain ⟨y1, y2⟩ := hn y (List.mem_of_getElem? cc)
        have htk : gos.take (i + 1) = gos.take i ++ [y] := by
          rw [List.take_add_one, cc]
          rfl
        generalize hT : B ++ ((gos.take i).map fun x => (⟨s, l, num x.1, x.2.map (coOf (csP p)).letter⟩ : Stp)).map stw5 = T2
        have hTl : T2.length < sizeLine := by
          rw [← hT]
          simp
          omega
        have r1 := lsum_ok (P := P) (S := S ++ [Ob.lst T2]) (k := k) L.f52 (bs := y.1)
        have r4 := append_ref (S := S ++ [Ob.lst T2]) (l := S.length) (x := stw5 ⟨s, l, num y.1, y.2.map (coOf (csP p)).letter⟩) (xs := T2) (by simp) hTl
        have hb : bmK (S ++ [Ob.lst T2]) .append (.ref S.length) = true := bmK_ref (xs := T2) (by simp)
        have hfin : (S ++ [Ob.lst T2]).set S.length (.lst (T2 ++ [stw5 ⟨s, l, num y.1, y.2.map (coOf (csP p)).letter⟩])) = S ++ [Ob.lst (B ++ ((gos.take (i + 1)).map fun x => (⟨s, l, num x.1, x.2.map (coOf (csP p)).letter⟩ : Stp)).map stw5)] := by
          rw [htk, List.map_append, List.map_append, ← List.append_assoc, hT]
          simp
        rw [hfin] at r4
        have ec : ∀ v7, evE P (clOf P (k + 1)) (.comp true [8] (.nm 8) (.seq (.idx (.var 6) (.int 1))) .nil (.bm .index (.var 2) (.cons (.var 8) .nil))) [some (lpw p), some told, some (lfr p), some (.ref S.length), some (.int l), some (.int s), some (aw y), v7, v8] (S ++ [Ob.lst T2]) = .ok (.lst (y.2.map fun f => iw ((coOf (csP p)).letter f))) (S ++ [Ob.lst T2]) := fun v7 => by
          refine comp_map (ys := y.2) (wy := fw) (h := fun f => iw ((coOf (csP p)).letter f)) (g := []) ?_ (fun _ => gOk_nil) (Nat.le_trans y1 (by decide)) fun f hfm acc => ⟨[some (lpw p), some told, some (lfr p), some (.ref S.length), some (.int l), some (.int s), some (aw y), v7, some (fw f)], rfl, ?_, (iw_pu _).at _⟩
          · generalize S ++ [Ob.lst T2] = SA
            simp [evI, evE, aw]
          · have hix := index_fw (S := S ++ [Ob.lst T2] ++ [.lst acc]) (cs := csP p) (y2 f hfm).1 (y2 f hfm).2
            generalize S ++ [Ob.lst T2] ++ [Ob.lst acc] = SA at hix ⊢
            have hbk : bmK SA .index (lfr p) = true := rfl
            rw [evE, evE]
            simp only [List.getElem?_cons_succ, List.getElem?_cons_zero, Option.join_some, R.of_some_, R.bind_ok_]
            rw [if_pos hbk]
            simp only [evEs, evE, List.getElem?_cons_succ, List.getElem?_cons_zero, Option.join_some, R.of_some_, R.bind_ok_]
            exact hix
        refine ⟨_, [some (lpw p), some told, some (lfr p), some (.ref S.length), some (.int l), some (.int s), some (aw y), some (.tup ((y.2.map (coOf (csP p)).letter).map iw)), v8], S ++ [Ob.lst (B ++ ((gos.take (i + 1)).map fun x => (⟨s, l, num x.1, x.2.map (coOf (csP p)).letter⟩ : Stp)).map stw5)], rfl, .inl ?_, some (aw y), _, rfl, rfl⟩
        simp only [List.set_cons_succ, List.set_cons_zero]
        have ec' := ec w7
        unfold lst3
        generalize (CE.comp true [8] (.nm 8) (.seq (.idx (.var 6) (.int 1))) .nil (.bm .index (.var 2) (.cons (.var 8) .nil))) = ce at ec' ⊢
        generalize S ++ [Ob.lst T2] = SA at *
        rw [ss_nx (env' := [some (lpw p), some told, some (lfr p), some (.ref S.length), some (.int l), some (.int s), some (aw y), some (.tup ((y.2.map (coOf (csP p)).letter).map iw)), v8]) (S' := SA) (by
          rw [exS, evE, evEs, ec']
          simp [evEs])]
        simp only [stw5] at r4
        simp [exSs, exS, evE, evEs, hb, clOf_fn, full_no L.toLib (f := 52) (by decide), r1, l5, aw] at r4 ⊢
        rw [r4]
        simp)
  subst he hS
  rw [List.length_map, List.take_length] at e
  exact ⟨w6, w7, e⟩
theorem lst1_ok (L : LStp P) (w : p.Wf) (T : Told (mpOf p.procs) told) (hk : 16 ≤ k) {l : Nat} (hl : l < (coOf (csP p)).frames.length) {B : List W} (hB : B.length + 16 ≤ sizeLine) {v5 v6 v7 v8 : Option W} :
    ∃ w5 w6 w7, exS P (clOf P k) lst1 [some (lpw p), some told, some (lfr p), some (.ref S.length), some (.int l), v5, v6, v7, v8] (S ++ [Ob.lst B]) = .ok (.nx [some (lpw p), some told, some (lfr p), some (.ref S.length), some (.int l), w5, w6, w7, v8])
      (S ++ [Ob.lst (B ++ ((List.range (2 ^ p.g)).flatMap fun s => (coOf (csP p)).steps p (mpOf p.procs) l s ((coOf (csP p)).frames.getD l (0, []))).map stw5)]) := by
  have G := good_of w
  have l4 : (4 : Nat) ≤ sizeLine := by decide
  have hg8 : 2 ^ p.g ≤ 2 ^ 3 := Nat.pow_le_pow_right (by decide) w.g
  have h2 := pow_at w.g
  obtain ⟨env', S', e, w5, w6, w7, he, hS⟩ := for_go (P := P) (C := clOf P k) (t := .nm 5) (it := .rng1 (.idx (.lst (.disp (.cons (.int 1) (.cons (.int 2) (.cons (.int 4) (.cons (.int 8) .nil)))))) (.idx (.var 0) (.int 0)))) (b := .cons lst2 .nil)
    (env := [some (lpw p), some told, some (lfr p), some (.ref S.length), some (.int l), v5, v6, v7, v8]) (S := S ++ [Ob.lst B]) (S0 := S ++ [Ob.lst B]) (xs := upTo 0 (2 ^ p.g)) (g := [])
    (fun i env S1 => ∃ w5 w6 w7, env = [some (lpw p), some told, some (lfr p), some (.ref S.length), some (.int l), w5, w6, w7, v8] ∧ S ++ [Ob.lst (B ++ ((List.range i).flatMap fun s => (coOf (csP p)).steps p (mpOf p.procs) l s ((coOf (csP p)).frames.getD l (0, []))).map stw5)] = S1)
    (evI_rngN (by
      generalize S ++ [Ob.lst B] = SA
      simp [evE, evEs, evL, l4, h2]) (by omega)) (fun _ _ _ _ _ => gOk_nil) ⟨v5, v6, v7, rfl, by simp⟩ (fun i x env S1 hx ⟨w5, w6, w7, e1, e2⟩ => by
      subst e1 e2
      obtain ⟨rfl, hi⟩ := upTo_at hx
      generalize hT2 : B ++ ((List.range i).flatMap fun s => (coOf (csP p)).steps p (mpOf p.procs) l s ((coOf (csP p)).frames.getD l (0, []))).map stw5 = T2
      have hlen : T2.length + 2 ≤ sizeLine := by
        have h1 := len_flat (fun s => steps_few G l s ((coOf (csP p)).frames.getD l (0, []))) (List.range i)
        rw [List.length_range] at h1
        rw [← hT2, List.length_append, List.length_map]
        omega
      obtain ⟨u6, u7, ev⟩ := lst2_ok (P := P) (S := S) (k := k) L w T hk hl (s := i) hlen (v6 := w6) (v7 := w7) (v8 := v8)
      refine ⟨_, _, S ++ [Ob.lst (B ++ ((List.range (i + 1)).flatMap fun s => (coOf (csP p)).steps p (mpOf p.procs) l s ((coOf (csP p)).frames.getD l (0, []))).map stw5)], rfl, .inl ?_, some (.int i), u6, u7, rfl, rfl⟩
      simp only [List.set_cons_succ, List.set_cons_zero]
      rw [ss_nx ev, exSs, range_take, List.map_append, ← List.append_assoc, hT2])
  subst he hS
  rw [upTo_len] at e
  exact ⟨w5, w6, w7, e⟩
theorem lsteps_ok (L : LStp P) (w : p.Wf) (T : Told (mpOf p.procs) told) (hfr : ∀ S, run P k 46 [lpw p, told] S = .ok (lfr p) S) (hk : 16 ≤ k) :
    run P (k + 1) 47 [lpw p, told] S = .ok (.lst (((coOf (csP p)).all p (mpOf p.procs)).map stw5)) S := by
  have G := good_of w
  have hsz := G.size
  have hg8 : 2 ^ p.g ≤ 2 ^ 3 := Nat.pow_le_pow_right (by decide) w.g
  have hline : 100000 ≤ sizeLine := by decide
  have hF : ∀ l, ((List.range (2 ^ p.g)).flatMap fun s => (coOf (csP p)).steps p (mpOf p.procs) l s ((coOf (csP p)).frames.getD l (0, []))).length ≤ 16 := fun l => by
    have := len_flat (fun s => steps_few G l s ((coOf (csP p)).frames.getD l (0, []))) (List.range (2 ^ p.g))
    rw [List.length_range] at this
    omega
  obtain ⟨env', S', e, v4, v5, v6, v7, he, hS⟩ := for_go (P := P) (C := clOf P k) (t := .nm 4) (it := .rng1 (.blt .len (.cons (.var 2) .nil))) (b := .cons lst1 .nil)
    (env := [some (lpw p), some told, some (lfr p), some (.ref S.length), none, none, none, none, none]) (S := S ++ [Ob.lst []]) (S0 := S ++ [Ob.lst []]) (xs := upTo 0 (coOf (csP p)).frames.length) (g := [])
    (fun i env S1 => ∃ v4 v5 v6 v7, env = [some (lpw p), some told, some (lfr p), some (.ref S.length), v4, v5, v6, v7, none] ∧ S ++ [Ob.lst (((List.range i).flatMap fun l => (List.range (2 ^ p.g)).flatMap fun s => (coOf (csP p)).steps p (mpOf p.procs) l s ((coOf (csP p)).frames.getD l (0, []))).map stw5)] = S1)
    (evI_rngN (by simp [evE, evEs]) (by omega)) (fun _ _ _ _ _ => gOk_nil) ⟨none, none, none, none, rfl, by simp⟩ (fun i x env S1 hx ⟨v4, v5, v6, v7, e1, e2⟩ => by
      subst e1 e2
      obtain ⟨rfl, hi⟩ := upTo_at hx
      generalize hT2 : ((List.range i).flatMap fun l => (List.range (2 ^ p.g)).flatMap fun s => (coOf (csP p)).steps p (mpOf p.procs) l s ((coOf (csP p)).frames.getD l (0, []))).map stw5 = T2
      have hlen : T2.length + 16 ≤ sizeLine := by
        have h1 := len_flat hF (List.range i)
        rw [List.length_range] at h1
        rw [← hT2, List.length_map]
        omega
      obtain ⟨u5, u6, u7, ev⟩ := lst1_ok (P := P) (S := S) (k := k) L w T hk hi hlen (v5 := v5) (v6 := v6) (v7 := v7) (v8 := none)
      refine ⟨_, _, S ++ [Ob.lst (((List.range (i + 1)).flatMap fun l => (List.range (2 ^ p.g)).flatMap fun s => (coOf (csP p)).steps p (mpOf p.procs) l s ((coOf (csP p)).frames.getD l (0, []))).map stw5)], rfl, .inl ?_, some (.int i), u5, u6, u7, rfl, rfl⟩
      simp only [List.set_cons_succ, List.set_cons_zero]
      rw [ss_nx ev, exSs, range_take (f := fun l => (List.range (2 ^ p.g)).flatMap fun s => (coOf (csP p)).steps p (mpOf p.procs) l s ((coOf (csP p)).frames.getD l (0, []))), List.map_append, hT2])
  subst he hS
  rw [upTo_len] at e
  have hall : ((List.range (coOf (csP p)).frames.length).flatMap fun l => (List.range (2 ^ p.g)).flatMap fun s => (coOf (csP p)).steps p (mpOf p.procs) l s ((coOf (csP p)).frames.getD l (0, []))) = (coOf (csP p)).all p (mpOf p.procs) := rfl
  rw [hall] at e
  refine run_ret L.f47 rfl rfl (w := .ref S.length) (env0 := [some (lpw p), some told, none, none, none, none, none, none, none]) (S1 := S ++ [Ob.lst (((coOf (csP p)).all p (mpOf p.procs)).map stw5)]) ?_ ?_
  · unfold d__law_steps
    dsimp only
    rw [ss_nx (env' := [some (lpw p), some told, some (lfr p), none, none, none, none, none, none]) (S' := S) (by simp [exS, evE, evEs, clOf_fn, full_no L.toLib (f := 46) (by decide), hfr])]
    rw [ss_nx (env' := [some (lpw p), some told, some (lfr p), some (.ref S.length), none, none, none, none, none]) (S' := S ++ [Ob.lst []]) (by simp [exS, evE, evEs, evL])]
    rw [ss_nx e]
    simp [exSs, exS, evE]
  · refine exit_same ?_
    rw [resW_ref (Nat.le_refl _)]
    exact deref_lst (by simp) (pus_at (map_pu stw5_pu) _)
end
end Eng

set_option Elab.async false
set_option linter.all false
set_option maxHeartbeats 4000000
set_option maxRecDepth 100000
/-! K7: the laws' own frames, of a well formed program. -/
namespace Eng
open PySem L2
theorem lfr_ok {P : Prog} {k : Nat} {S : Sto} {p : Pg} {told : W} (L : LLet P) (w : p.Wf) (T : Told (mpOf p.procs) told) (hk : 3 ≤ k) : run P (k + 1) 46 [lpw p, told] S = .ok (lfr p) S := by
  have hsz := w.sz
  have hpr : ∀ t ∈ (mpOf p.procs).pts, t.pr < p.procs.length := fun t ht => by
    obtain ⟨i, hi⟩ := List.mem_iff_getElem?.mp ht
    have hil : i < (ptsFrom 0 0 p.procs).length := (List.getElem?_eq_some_iff.mp hi).1
    rw [← pbase_len] at hil
    obtain ⟨j, x, h1, h2, h3, h4⟩ := pt_proc _ i (Nat.le_refl _) hil
    obtain ⟨t', e, q⟩ := pt_at w h1 h3 h4
    have e' : (mpOf p.procs).pts[i]? = some t' := e
    rw [hi] at e'
    cases e'
    rw [q.pr]
    exact h2
  have hc3 : ∀ c ∈ csP p, c ≤ 3 := fun c hc => by
    simp only [csP, csOf, List.mem_map] at hc
    obtain ⟨t, ht, rfl⟩ := hc
    have := hpr t ht
    exact w.lc _ (by simp [List.getD_eq_getElem?_getD, this])
  have hB : ∀ i, i ≤ (mpOf p.procs).pts.length → (framesTo (csP p) i).length ≤ 1000000 := fun i hi => by
    have hg : ∀ j, (csP p).getD j 0 ≤ 3 := fun j => by
      by_cases hj : j < (csP p).length
      · exact hc3 _ (getD_mem hj)
      · simp [List.getD_eq_getElem?_getD, hj]
    have h8 : ∀ j, (framesAt j ((csP p).getD j 0)).length ≤ 8 := fun j => by
      rw [framesAt_len]
      have : 2 ^ ((csP p).getD j 0) ≤ 2 ^ 3 := Nat.pow_le_pow_right (by decide) (hg j)
      omega
    have h := len_flat h8 (List.range i)
    rw [List.length_range] at h
    have hi' : i ≤ (ptsFrom 0 0 p.procs).length := hi
    unfold framesTo
    omega
  have hlen : (mpOf p.procs).pts.length = (csP p).length := by simp [csP, csOf]
  have := lframes_ok (P := P) (S := S) (k := k) L T (p := p) hpr hc3 (by show (ptsFrom 0 0 p.procs).length ≤ 1000; omega) hB hk
  rw [this, hlen]
  rfl
end Eng

set_option Elab.async false
set_option linter.all false
set_option maxHeartbeats 4000000
/-! K8: what repr shows of data is short. -/
namespace Eng
open PySem L2
/-- data that repr shows in at most b signs -/
structure Shw (n b : Nat) (w : W) : Prop where
  d : isD w = true
  s : (toD w).showable = true
  h : (toD w).hasDict = false
  n : (toD w).depth ≤ n
  l : (toD w).shown.length ≤ b
theorem toDs_map : ∀ ws : List W, toDs ws = ws.map toD
  | [] => rfl
  | w :: ws => by rw [toDs, toDs_map ws]; rfl
theorem piled_le {b : Nat} : ∀ {ts : List Str}, (∀ t ∈ ts, t.length ≤ b) → piled ts ≤ ts.length * (b + 2)
  | [], _ => by simp [piled]
  | t :: ts, h => by
    have h1 := h t List.mem_cons_self
    have h2 := piled_le fun x hx => h x (List.mem_cons_of_mem _ hx)
    rw [piled_cons, List.length_cons, Nat.add_mul, Nat.one_mul]
    omega
theorem tupleText_le {b : Nat} {ts : List Str} (h : ∀ t ∈ ts, t.length ≤ b) : (tupleText ts).length ≤ ts.length * (b + 2) + 3 := by
  have h1 := piled_le h
  cases ts with
  | nil => exact Nat.le_trans (show (tupleText []).length ≤ 3 by decide +kernel) (by omega)
  | cons t ts =>
    have h2 := join_length_add (t :: ts) (by simp)
    unfold tupleText
    simp only [strLen_append] at *
    have h3 : (("(" : String) : Str).length = 1 := by decide +kernel
    have h4 : ((if (t :: ts).length == 1 then ",)" else ")" : String) : Str).length ≤ 2 := by split <;> decide +kernel
    omega
theorem listText_le {b : Nat} {ts : List Str} (h : ∀ t ∈ ts, t.length ≤ b) : (listText ts).length ≤ ts.length * (b + 2) + 3 := by
  cases ts with
  | nil => exact Nat.le_trans (show (listText []).length ≤ 3 by decide +kernel) (by omega)
  | cons t ts =>
    have h1 := piled_le (ts := ts) fun x hx => h x (List.mem_cons_of_mem _ hx)
    have h0 := h t List.mem_cons_self
    unfold listText
    rw [textFrom, strLen_append, textFrom_length_pos _ _ _ (by omega), strLen_append, strLen_append]
    have h3 : (("[" : String) : Str).length = 1 := by decide +kernel
    have h4 : ((if 0 > 0 then ", " else "" : String) : Str).length = 0 := by decide +kernel
    have h5 : (("]" : String) : Str).length = 1 := by decide +kernel
    simp only [List.length_cons, Nat.add_mul, Nat.one_mul]
    omega
theorem shownAll_map : ∀ ds : List PyData, PyData.shownAll ds = ds.map PyData.shown
  | [] => rfl
  | d :: ds => by rw [PyData.shownAll, shownAll_map ds]; rfl
theorem sh_all {n b : Nat} : ∀ {ws : List W}, (∀ w ∈ ws, Shw n b w) → isDs ws = true ∧ PyData.showableAll (toDs ws) = true ∧ PyData.hasDictAll (toDs ws) = false ∧ PyData.depthAll (toDs ws) ≤ n ∧ ∀ t ∈ PyData.shownAll (toDs ws), t.length ≤ b
  | [], _ => ⟨rfl, rfl, rfl, Nat.zero_le _, fun t h => by simp [toDs, PyData.shownAll] at h⟩
  | w :: ws, h => by
    have h1 := h w List.mem_cons_self
    obtain ⟨a1, a2, a3, a4, a5⟩ := sh_all fun x hx => h x (List.mem_cons_of_mem _ hx)
    refine ⟨by rw [isDs, h1.d, a1]; rfl, by rw [toDs, PyData.showableAll, h1.s, a2]; rfl, by rw [toDs, PyData.hasDictAll, h1.h, a3]; rfl, ?_, fun t ht => ?_⟩
    · rw [toDs, PyData.depthAll]
      have := h1.n
      omega
    · rw [toDs, PyData.shownAll] at ht
      rcases List.mem_cons.mp ht with rfl | ht
      · exact h1.l
      · exact a5 t ht
theorem sh_tup {n b c : Nat} {ws : List W} (h : ∀ w ∈ ws, Shw n b w) (hc : ws.length ≤ c) : Shw (n + 1) (c * (b + 2) + 3) (.tup ws) := by
  obtain ⟨a1, a2, a3, a4, a5⟩ := sh_all h
  refine ⟨by rw [isD]; exact a1, by rw [toD, PyData.showable]; exact a2, by rw [toD, PyData.hasDict]; exact a3, by rw [toD, PyData.depth]; omega, ?_⟩
  rw [toD, PyData.shown]
  refine Nat.le_trans (tupleText_le a5) ?_
  rw [shownAll_map, toDs_map, List.length_map, List.length_map]
  have := Nat.mul_le_mul_right (b + 2) hc
  omega
theorem sh_lst {n b c : Nat} {ws : List W} (h : ∀ w ∈ ws, Shw n b w) (hc : ws.length ≤ c) : Shw (n + 1) (c * (b + 2) + 3) (.lst ws) := by
  obtain ⟨a1, a2, a3, a4, a5⟩ := sh_all h
  refine ⟨by rw [isD]; exact a1, by rw [toD, PyData.showable]; exact a2, by rw [toD, PyData.hasDict]; exact a3, by rw [toD, PyData.depth]; omega, ?_⟩
  rw [toD, PyData.shown]
  refine Nat.le_trans (listText_le a5) ?_
  rw [shownAll_map, toDs_map, List.length_map, List.length_map]
  have := Nat.mul_le_mul_right (b + 2) hc
  omega
theorem Shw.mono {n n' b b' : Nat} {w : W} (h : Shw n b w) (h1 : n ≤ n') (h2 : b ≤ b') : Shw n' b' w := ⟨h.d, h.s, h.h, Nat.le_trans h.n h1, Nat.le_trans h.l h2⟩
theorem sh_bl (x : Bool) : Shw 0 8 (.bl x) := ⟨rfl, rfl, rfl, Nat.zero_le _, by cases x <;> decide +kernel⟩
theorem ints_short : (List.range 200).all (fun i => PyData.showable (.int (i : Int)) && decide ((PyData.shown (.int (i : Int))).length ≤ 8)) = true := by decide +kernel
theorem sh_int {i : Nat} (h : i < 200) : Shw 0 8 (.int i) := by
  have := List.all_eq_true.mp ints_short i (List.mem_range.mpr h)
  simp only [Bool.and_eq_true, decide_eq_true_eq] at this
  exact ⟨rfl, this.1, rfl, Nat.zero_le _, this.2⟩
theorem sh_bw {bs : List Bool} (h : bs.length ≤ 3) : Shw 1 33 (bw bs) := sh_tup (n := 0) (b := 8) (c := 3) (fun w hw => by
  obtain ⟨x, _, rfl⟩ := List.mem_map.mp hw
  exact sh_bl x) (by rw [List.length_map]; exact h)
theorem sh_fw {f : Fr} (h1 : f.1 < 200) (h2 : f.2.length ≤ 3) : Shw 2 73 (fw f) := sh_tup (n := 1) (b := 33) (c := 2) (fun w hw => by
  simp only [List.mem_cons, List.not_mem_nil, or_false] at hw
  rcases hw with rfl | rfl
  · exact (sh_int h1).mono (by decide) (by decide)
  · exact sh_bw h2) (by simp)
theorem sh_aw {x : List Bool × List Fr} {c : Nat} (h0 : x.1.length ≤ 3) (h : ∀ f ∈ x.2, f.1 < 200 ∧ f.2.length ≤ 3) (hc : x.2.length ≤ c) : Shw 4 (2 * (c * 75 + 45) + 3) (aw x) := by
  have := sh_tup (n := 3) (b := c * 75 + 43) (c := 2) (ws := [bw x.1, .tup (x.2.map fw)]) (fun w hw => by
    simp only [List.mem_cons, List.not_mem_nil, or_false] at hw
    rcases hw with rfl | rfl
    · exact (sh_bw h0).mono (by decide) (by omega)
    · exact (sh_tup (n := 2) (b := 73) (c := c) (fun w hw => by
        obtain ⟨f, hf, rfl⟩ := List.mem_map.mp hw
        exact sh_fw (h f hf).1 (h f hf).2) (by rw [List.length_map]; exact hc)).mono (by decide) (by omega)) (by simp)
  exact this
theorem show_of {S : Sto} {n b : Nat} {w : W} (h : Shw n b w) (hn : n ≤ 60) (hb : b ≤ sizeLine) (hq : isSq w = true) : showD S w = some (toD w) := by
  have h1 : readW S w = some w := by unfold readW; rw [if_pos h.d]
  have h2 : okD (toD w) = true := by
    unfold okD
    have := h.n
    have := h.l
    rw [h.s, h.h, decide_eq_true (show (toD w).depth ≤ 60 by omega), decide_eq_true (show (toD w).shown.length ≤ sizeLine by omega)]
    rfl
  unfold showD
  rw [h1]
  dsimp only
  rw [if_pos ⟨hq, h.d, h2⟩]
end Eng

set_option Elab.async false
set_option linter.all false
set_option maxHeartbeats 4000000
set_option maxRecDepth 100000
/-! K9: the law's bits of any number, its letters. -/
namespace Eng
open PySem L2
/-- the bits of any number, the lowest first -/
def bz (z : Int) : Nat → List Bool
  | 0 => []
  | n + 1 => decide (z.fmod 2 = 1) :: bz (z.fdiv 2) n
theorem bz_len : ∀ (n : Nat) (z : Int), (bz z n).length = n
  | 0, z => rfl
  | n + 1, z => by rw [bz, List.length_cons, bz_len n]
section
variable {P : Prog} {S : Sto} {k : Nat} {p : Pg} {m : Mp} {told : W}
theorem lbitsZ_ok (h : P.fn 50 = some d__law_bits) {z : Int} {c : Nat} (hc : c ≤ 60) : ∃ bs : List Bool, bs.length = c ∧ ∀ S, run P (k + 1) 50 [.int z, .int c] S = .ok (bw bs) S := by
  refine ⟨bz z c, bz_len c z, fun S => ?_⟩
  obtain ⟨env', S', e, m, acc, v, he, hS, ha⟩ := for_go (P := P) (C := clOf P k) (t := .nm 3) (it := .rng1 (.var 1)) (b := .cons (.expr (.bm .append (.var 2) (.cons (.cmp .eq (.bin .mod (.var 0) (.int 2)) (.int 1)) .nil))) (.cons (.asg (.nm 0) (.bin .fdiv (.var 0) (.int 2))) .nil)) (S := S ++ [.lst []]) (S0 := S ++ [.lst []]) (xs := upTo 0 c) (g := []) (env := [some (.int z), some (.int c), some (.ref S.length), none])
    (fun i env S1 => ∃ (m : Int) (acc : List Bool) (v : Option W), env = [some (.int m), some (.int c), some (.ref S.length), v] ∧ S ++ [.lst (acc.map W.bl)] = S1 ∧ acc ++ bz m (c - i) = bz z c ∧ acc.length = i)
    (evI_rngN (by simp [evE]) (by omega)) (fun _ _ _ _ _ => gOk_nil) ⟨z, [], none, rfl, rfl, rfl, rfl⟩ (fun i x env S1 hx ⟨m, acc, v, e1, e2, e3, e4⟩ => by
      subst e1 e2
      have hi : i < c := by
        have := (List.getElem?_eq_some_iff.mp hx).1
        rwa [upTo_len] at this
      have e5 : c - i = (c - (i + 1)) + 1 := by omega
      rw [e5, bz] at e3
      have hz : acc.length < sizeLine := Nat.lt_of_lt_of_le (show acc.length < 1000 by omega) (by decide)
      refine ⟨_, [some (.int (m.fdiv 2)), some (.int c), some (.ref S.length), some x], S ++ [.lst ((acc ++ [decide (m.fmod 2 = 1)]).map W.bl)], rfl, .inl ?_, m.fdiv 2, acc ++ [decide (m.fmod 2 = 1)], some x, rfl, rfl, by simpa using e3, by simp [e4]⟩
      simp [exSs, exS, evE, evEs, bmK, bmW, hz, CDivN])
  subst he hS
  refine run_ret h rfl rfl (w := bw (bz z c)) (S1 := S ++ [.lst ((bz z c).map W.bl)]) ?_ (fin_pu (bw_pu _))
  rw [upTo_len, Nat.sub_self, bz, List.append_nil] at ha
  have ha := ha.1
  subst ha
  unfold d__law_bits
  dsimp only
  rw [ss_nx (env' := [some (.int z), some (.int c), some (.ref S.length), none]) (S' := S ++ [.lst []]) (by simp [exS, evE, evL, evEs]), ss_nx e]
  simp [exSs, exS, evE, evEs]
theorem lletter_ok (h52 : P.fn 52 = some d__law_sum) (h58 : P.fn 58 = some d__law_letter) (L : Lib P) (T : Told m told) (hpr : ∀ t ∈ m.pts, t.pr < p.procs.length) (hc : ∀ c ∈ csOf p m, c ≤ 3) (hl : m.pts.length ≤ 1000) {f : Fr} (hf : f.1 < m.pts.length) (hk : 1 ≤ k) :
    run P (k + 1) 58 [lpw p, told, fw f] S = .ok (.int ((coOf (csOf p m)).letter f)) S := by
  obtain ⟨k, rfl⟩ : ∃ k', k = k' + 1 := ⟨k - 1, by omega⟩
  obtain ⟨ks, ws, htold, hkl, hlook⟩ := T.eq
  have l4 : (4 : Nat) ≤ sizeLine := by decide
  have q1 := fun S => lsum_ok (P := P) (S := S) (k := k) h52 (bs := f.2)
  obtain ⟨env', S', e, v, he, hS⟩ := for_go (P := P) (C := clOf P (k + 1)) (t := .nm 4) (it := .rng1 (.idx (.var 2) (.int 0)))
    (b := (.cons (.asg (.nm 3) (.bin .add (.var 3) (.idx (.lst (.disp (.cons (.int 1) (.cons (.int 2) (.cons (.int 4) (.cons (.int 8) .nil)))))) (.idx (.idx (.idx (.var 0) (.int 1)) (.idx (.idx (.idx (.var 1) (.int 0)) (.var 4)) (.int 0))) (.int 0))))) .nil))
    (env := [some (lpw p), some told, some (fw f), some (.int (num f.2 : Nat)), none]) (S := S) (S0 := S) (xs := upTo 0 f.1) (g := [])
    (fun i env S1 => ∃ v, env = [some (lpw p), some told, some (fw f), some (.int (num f.2 + (framesTo (csOf p m) i).length : Nat)), v] ∧ S = S1)
    (evI_rngN (by simp [evE, fw]) (by omega)) (fun _ _ _ _ _ => gOk_nil) ⟨none, by simp [framesTo], rfl⟩
    (fun i x env S1 hx ⟨v, e1, e2⟩ => by
      subst e1 e2
      obtain ⟨rfl, hi⟩ := upTo_at hx
      obtain ⟨t, ht⟩ : ∃ t, m.pts[i]? = some t := ⟨m.pts[i], by simp⟩
      have htm := List.mem_of_getElem? ht
      have hcs : (csOf p m).getD i 0 = (p.procs.getD t.pr (0, [])).1 := by simp [csOf, List.getD_eq_getElem?_getD, ht]
      have hc3 : (p.procs.getD t.pr (0, [])).1 ≤ 3 := hc _ (by
        unfold csOf
        exact List.mem_map.mpr ⟨t, htm, rfl⟩)
      have e2 : L2.atI (p.procs.map prw) (t.pr : Int) = some (prw (p.procs.getD t.pr (0, []))) := atI_nat (by simp [hpr t htm])
      have e3 := hlook i t ht
      generalize hcc : p.procs.getD t.pr (0, []) = pc at hcs hc3 e2
      generalize hA : num f.2 + (framesTo (csOf p m) i).length = A
      have hA2 : num f.2 + (framesTo (csOf p m) (i + 1)).length = A + 2 ^ pc.1 := by
        rw [framesTo_succ, List.length_append, framesAt_len, hcs]
        omega
      have hcnt : evE P (clOf P (k + 1)) (.idx (.idx (.idx (.var 0) (.int 1)) (.idx (.idx (.idx (.var 1) (.int 0)) (.var 4)) (.int 0))) (.int 0)) [some (lpw p), some told, some (fw f), some (.int A), some (.int i)] S = .ok (.int pc.1) S := by
        simp [evE, htold, e3, rowW, e2, prw]
      have h2 := pow_at hc3
      refine ⟨_, _, S, rfl, .inl ?_, some (.int i), rfl, rfl⟩
      rw [hA2]
      simp only [List.set_cons_succ, List.set_cons_zero]
      generalize (CE.idx (.idx (.idx (.var 0) (.int 1)) (.idx (.idx (.idx (.var 1) (.int 0)) (.var 4)) (.int 0))) (.int 0)) = ce at hcnt ⊢
      generalize hpw : 2 ^ pc.1 = pw at h2 ⊢
      simp [exSs, exS, evE, evEs, evL, l4, hcnt, h2])
  subst he hS
  rw [upTo_len] at e
  have hlet : (coOf (csOf p m)).letter f = num f.2 + (framesTo (csOf p m) f.1).length := by
    have hlen : (csOf p m).length = m.pts.length := by simp [csOf]
    unfold Co.letter coOf
    simp only [List.getD_eq_getElem?_getD, List.getElem?_map, List.getElem?_range (show f.1 < (csOf p m).length by omega), Option.map_some, Option.getD_some]
    omega
  rw [hlet]
  refine run_ret h58 rfl rfl (w := .int (num f.2 + (framesTo (csOf p m) f.1).length : Nat)) (env0 := [some (lpw p), some told, some (fw f), none, none]) (S1 := S) ?_ (fin_pu0 (by simp [Pu, below]))
  unfold d__law_letter
  dsimp only
  generalize num f.2 + (framesTo (csOf p m) f.1).length = A at e
  rw [ss_nx (env' := [some (lpw p), some told, some (fw f), some (.int (num f.2 : Nat)), none]) (S' := S) (by simp [exS, evE, evEs, fw, clOf_fn, full_no L (f := 52) (by decide), q1])]
  rw [ss_nx e]
  simp [exSs, exS, evE]
end
end Eng

set_option Elab.async false
set_option linter.all false
set_option maxHeartbeats 4000000
/-! K10: small facts for the laws of situations. -/
namespace Eng
open PySem L2
theorem Pg.Wf.pr {p : Pg} (w : p.Wf) : ∀ t ∈ (mpOf p.procs).pts, t.pr < p.procs.length := fun t ht => by
  obtain ⟨i, hi⟩ := List.mem_iff_getElem?.mp ht
  have hil : i < (ptsFrom 0 0 p.procs).length := (List.getElem?_eq_some_iff.mp hi).1
  rw [← pbase_len] at hil
  obtain ⟨j, x, h1, h2, h3, h4⟩ := pt_proc _ i (Nat.le_refl _) hil
  obtain ⟨t', e, q⟩ := pt_at w h1 h3 h4
  have e' : (mpOf p.procs).pts[i]? = some t' := e
  rw [hi] at e'
  cases e'
  rw [q.pr]
  exact h2
theorem Pg.Wf.cs3 {p : Pg} (w : p.Wf) : ∀ c ∈ csP p, c ≤ 3 := fun c hc => by
  simp only [csP, csOf, List.mem_map] at hc
  obtain ⟨t, ht, rfl⟩ := hc
  have := w.pr t ht
  exact w.lc _ (by simp [List.getD_eq_getElem?_getD, this])
theorem Pg.Wf.csD {p : Pg} (w : p.Wf) (j : Nat) : (csP p).getD j 0 ≤ 3 := by
  by_cases hj : j < (csP p).length
  · exact w.cs3 _ (getD_mem hj)
  · simp [List.getD_eq_getElem?_getD, hj]
theorem Pg.Wf.pos {p : Pg} (w : p.Wf) : 0 < (mpOf p.procs).pts.length := by
  have hx : p.procs[0]? = some (p.procs[0]'(by have := w.np.1; omega)) := by simp
  obtain ⟨t, e, _⟩ := pt_at w hx (Nat.le_refl _) (by omega)
  have e' : (mpOf p.procs).pts[pbase p.procs 0]? = some t := e
  have := (List.getElem?_eq_some_iff.mp e').1
  omega
theorem eq_self_dat {S : Sto} {n : Nat} {xs : List W} (h : Dat n (.tup xs)) (hn : n ≤ 60) : eqW S (.tup xs) (.tup xs) = some true := by
  obtain ⟨a, b, c⟩ := h
  have hs : SeqAt.shaped (toD (.tup xs)) = true := by
    unfold SeqAt.shaped
    simp only [Bool.and_eq_true, decide_eq_true_eq]
    exact ⟨b, by omega⟩
  unfold eqW eqS
  dsimp only
  unfold eqDeep readW
  rw [if_pos a]
  dsimp only
  rw [if_pos ⟨a, a, hs, hs⟩, eqv_refl a]
theorem clG_fn {P : Prog} {k : Nat} {gb : Bool} : (clG P k gb).fn = run P k := rfl
theorem mkR_clG {P : Prog} {k : Nat} {gb : Bool} {pu : Bool} {c : Nat} {ws : List W} {S : Sto} : mkR P (clG P k gb) pu c ws S = mkR P (clOf P k) pu c ws S := by
  unfold mkR
  cases P.init c <;> rfl
theorem top_ret {P : Prog} {k f : Nat} {d : FDef} {ws : List W} {S S1 : Sto} {w : W} {r : R W} {env0 : Env} (h : P.fn f = some d) (hw : ws.length = d.np) (he : ws.map some ++ List.replicate (d.ns - d.np) none = env0) (hb : exSs P (clG P k true) d.body env0 S = .ok (.ret w) S1) (hx : finF d.pure S w S1 = r) : runTop P k f ws S = r := by
  unfold runTop
  rw [h]
  dsimp only
  rw [if_pos hw, he, hb]
  exact hx
end Eng

set_option Elab.async false
set_option linter.all false
set_option maxHeartbeats 4000000
set_option maxRecDepth 100000
/-! K11: after() with a list that stands in the store; the law's first situation; the deep program. -/
namespace Eng
open PySem L2
theorem comp_mapA {α : Type} {wy h : α → W} {P : Prog} {C : Cl} {own : List Nat} {t : CT} {it : CI} {e : CE} {env : Env} {S : Sto} {ys : List α} {g : List (Nat × List W)} (hi : evI P C it env S = .ok (ys.map wy, g) S) (hg : ∀ acc, gOk (S ++ [.lst acc]) g) (hl : ys.length ≤ sizeLine)
    (hf : ∀ y ∈ ys, ∀ acc, ∃ env', asgT t (wy y) (wipeE env own) = some env' ∧ evE P C e env' (S ++ [.lst acc]) = .ok (h y) (S ++ [.lst acc])) :
    evE P C (.comp false own t it .nil e) env S = .ok (.ref S.length) (S ++ [.lst (ys.map h)]) := by
  rw [evE, hi]
  simp only [R.bind_ok_]
  rw [compL_ty (h := fun y => some (h y)) hg ys [] (fun y hy acc => by
    obtain ⟨env', e1, e2⟩ := hf y hy acc
    rw [e1]
    simp [evAll, e2]) (by simpa using hl)]
  simp only [R.bind_ok_, List.nil_append, Bool.false_eq_true, if_false]
  rw [List.filterMap_eq_map']
section
variable {P : Prog} {S : Sto} {k : Nat} {p : Pg} {m : Mp} {told : W}
theorem after2_ok (L : LMean P) (h : P.fn 62 = some d_after_) {k0 : Nat} (hm : MkOk P p m k0) {gs : List Bool} {f : Fr} {r : List Fr} {t : Pt} (ht : m.pts[f.1]? = some t) (ho : t.ok gs.length f.2.length)
    (hc : ∀ q, t.st = some (.call q) → q < m.ents.length ∧ q < p.procs.length ∧ (p.procs.getD q (0, [])).1 ≤ 1000) (hfew : (m.after p gs f).length ≤ 2 ∧ ∀ x ∈ m.after p gs f, x.2.length ≤ 2) (hr : r.length ≤ 1000) (hk : 20 ≤ k) (hk0 : k0 ≤ k) :
    run P (k + 1) 62 [p.w, aw (gs, f :: r)] S = .ok (.ref S.length) (S ++ [.lst ((m.after p gs f).map fun x => aw (x.1, x.2 ++ r))]) := by
  obtain ⟨k, rfl⟩ : ∃ k', k = k' + 1 := ⟨k - 1, by omega⟩
  have hz : ¬ ((r.length : Int) + 1 = 0) := by omega
  have l2 : (2 : Nat) ≤ sizeLine := by decide
  have l1002 : (1002 : Nat) ≤ sizeLine := by decide
  have hwa := fun S => wafter_ok (S := S) (k := k) L (p := p) ht ho hc (by omega)
  have hmk := hm (k + 1) (by omega)
  refine run_ret h rfl rfl (w := .ref S.length) (S1 := S ++ [.lst ((m.after p gs f).map fun x => aw (x.1, x.2 ++ r))]) ?_ rfl
  unfold d_after_
  dsimp only
  rw [ss_nx (env' := [some p.w, some (aw (gs, f :: r)), some (bw gs), some (.tup ((f :: r).map fw)), none, none]) (S' := S) (by simp [exS, evE, aw])]
  rw [ss_nx (env' := [some p.w, some (aw (gs, f :: r)), some (bw gs), some (.tup ((f :: r).map fw)), none, none]) (S' := S) (by simp [exS, exSs, evE, evEs, hz])]
  refine ss_ret ?_
  rw [exS, comp_mapA (ys := m.after p gs f) (wy := aw) (h := fun x => aw (x.1, x.2 ++ r)) (g := []) ?_ (fun _ => gOk_nil) (Nat.le_trans hfew.1 l2) ?_]
  · rfl
  · rw [evI, evE, evE]
    simp only [evE, evEs, List.getElem?_cons_succ, List.getElem?_cons_zero, Option.join_some, R.of_some_, R.bind_ok_, hmk]
    simp only [wkw, asIns_ins, L.m9, List.map_cons, idxW_tup, atI_0, R.of_some_, R.bind_ok_, clOf, clG, full_no L.toLib (f := 25) (by decide)]
    rw [if_neg (by decide)]
    have := hwa S
    simp only [wkw] at this
    rw [this]
    simp
  · intro x hx acc
    obtain ⟨g1, fs⟩ := x
    have hfs := hfew.2 _ hx
    dsimp only at hfs
    have hcut : cut (fw f :: r.map fw) (some 1) none = r.map fw := by
      have : HT.sIx (fw f :: r.map fw).length 0 (some 1) = 1 := by
        have := HT.sIx_nat (fw f :: r.map fw).length 0 1
        rw [show ((1 : Nat) : Int) = 1 from rfl] at this
        rw [this]
        simp
      unfold cut
      rw [this, HT.sIx_none]
      simp
      rw [← List.map_take, List.take_length]
    refine ⟨_, rfl, ?_⟩
    have hs : fs.length + r.length ≤ sizeLine := by omega
    simp [evE, evEs, wipeE, aw, isOmit, toI, hcut, l2, hs]
theorem after2_nil (h : P.fn 62 = some d_after_) {w : W} {gs : List Bool} : run P (k + 1) 62 [w, .tup [bw gs, .tup []]] S = .ok (.ref S.length) (S ++ [.lst []]) := by
  refine run_ret h rfl rfl (w := .ref S.length) (S1 := S ++ [.lst []]) ?_ rfl
  unfold d_after_
  dsimp only
  rw [ss_nx (env' := [some w, some (.tup [bw gs, .tup []]), some (bw gs), some (.tup []), none, none]) (S' := S) (by simp [exS, evE])]
  simp [exSs, exS, evE, evEs, evL, bltW, asDict, asSeq]
theorem lafter_nil (L : LAft P) {gs : List Bool} {lp : W} : run P (k + 1) 51 [lp, told, .tup [bw gs, .tup []]] S = .ok (.lst []) S := by
  refine run_ret L.f51 rfl rfl (w := .lst []) (S1 := S) ?_ (fin_pu0 rfl)
  unfold d__law_after
  dsimp only
  simp [exSs, exS, evE, evEs, evL, bltW, asDict, asSeq]
theorem lfirst_ok (L : LAft P) (h61 : P.fn 61 = some d__law_first) (T : Told m told) (h1 : 0 < m.ents.length) (h2 : 0 < p.procs.length) (h3 : (p.procs.getD 0 (0, [])).1 ≤ 1000) (hg : p.g ≤ 1000) (hk : 2 ≤ k) :
    run P (k + 1) 61 [lpw p, told] S = .ok (aw (List.replicate p.g false, [(m.ents.getD 0 0, List.replicate (p.procs.getD 0 (0, [])).1 false)])) S := by
  obtain ⟨k, rfl⟩ : ∃ k', k = k' + 1 := ⟨k - 1, by omega⟩
  have l2 : (2 : Nat) ≤ sizeLine := by decide
  have l1 : (1 : Nat) ≤ sizeLine := by decide
  have l1000 : (1000 : Nat) ≤ sizeLine := by decide
  have q1 := fun S => lframe_ok (P := P) (S := S) (k := k) L T (q := 0) h1 h2 h3
  have q1' : ∀ S, run P (k + 1) 54 [lpw p, told, .int 0] S = .ok (fw (m.ents.getD 0 0, List.replicate (p.procs.getD 0 (0, [])).1 false)) S := q1
  refine run_ret h61 rfl rfl (w := aw _) (S1 := S) ?_ (fin_pu0 (aw_pu _))
  unfold d__law_first
  dsimp only
  have haw : aw (List.replicate p.g false, [(m.ents.getD 0 0, List.replicate (p.procs.getD 0 (0, [])).1 false)]) = .tup [bw (List.replicate p.g false), .tup [fw (m.ents.getD 0 0, List.replicate (p.procs.getD 0 (0, [])).1 false)]] := rfl
  rw [haw]
  generalize fw (m.ents.getD 0 0, List.replicate (p.procs.getD 0 (0, [])).1 false) = F at q1' ⊢
  have ec : evE P (clOf P (k + 1)) (.comp true [2] (.nm 2) (.rng1 (.idx (.var 0) (.int 0))) .nil (.bl false)) [some (lpw p), some told, none] S = .ok (.lst ((List.range p.g).map fun _ => W.bl false)) S := by
    refine comp_map (ys := List.range p.g) (wy := fun (i : Nat) => W.int i) (h := fun _ => W.bl false) (g := []) ?_ (fun _ => gOk_nil) (by rw [List.length_range]; omega) fun x hx acc => ⟨_, rfl, by simp [evE], rfl⟩
    rw [evI_rngN (n := p.g) (S1 := S) (by simp [evE]) (by omega)]
    have : ∀ (n : Nat) (a : Nat), upTo (a : Int) n = (List.range' a n).map fun (i : Nat) => W.int i := fun n => by
      induction n with
      | zero => intro a; rfl
      | succ n ih =>
        intro a
        rw [upTo, List.range'_succ, List.map_cons]
        have := ih (a + 1)
        rw [Int.natCast_add] at this
        rw [← this]
        rfl
    rw [List.range_eq_range', ← this p.g 0]
    rfl
  have hrep : (List.range p.g).map (fun _ => W.bl false) = (List.replicate p.g false).map W.bl := by
    rw [List.map_replicate, List.map_const', List.length_range]
  rw [hrep] at ec
  generalize (CE.comp true [2] (.nm 2) (.rng1 (.idx (.var 0) (.int 0))) .nil (.bl false)) = ce at ec ⊢
  generalize lpw p = lp at ec q1' ⊢
  simp [exSs, exS, evE, evEs, ec, clOf_fn, full_no L.toLib (f := 54) (by decide), q1', l1, l2, bltW, asSeq, asList]
end
/-! ### the deep program -/
def deepP (s : St) : Pg := ⟨1, [(0, [s, .free true 0])]⟩
theorem deep_wf {s : St} (h1 : s.wf 1 0 1) (h2 : s.nd ≤ 25) (h3 : s.sz ≤ 100) : (deepP s).Wf where
  g := by show 1 ≤ 3; omega
  np := ⟨by show 1 ≤ 1; omega, by show 1 ≤ 6; omega⟩
  lc := fun x hx => by
    simp only [deepP, List.mem_singleton] at hx
    subst hx
    show 0 ≤ 3
    omega
  st := fun x hx => by
    simp only [deepP, List.mem_singleton] at hx
    subst hx
    exact ⟨h1, (show 0 < (if true = true then 1 else 0) by decide), trivial⟩
  nd := fun x hx => by
    simp only [deepP, List.mem_singleton] at hx
    subst hx
    simp only [Sts.nd, St.nd]
    omega
  sz := by
    simp only [deepP, ptsFrom, List.length_append, List.length_cons, List.length_nil, lays_len, Sts.sz, St.sz]
    omega
theorem deep_ok {P : Prog} {k : Nat} {S : Sto} (h60 : P.fn 60 = some d__law_deep) (L : Lib P) {zs : List Int} (hz : 37 < zs.length) : ∃ p : Pg, p.Wf ∧ run P (k + 1) 60 [.lst (zs.map W.int)] S = .ok (lpw p) S := by
  have zat : ∀ n : Nat, n < 38 → ∃ z : Int, L2.atI (zs.map W.int) (n : Int) = some (.int z) := fun n hn => by
    obtain ⟨z, hz⟩ : ∃ z, zs[n]? = some z := ⟨_, List.getElem?_eq_getElem (by omega)⟩
    exact ⟨z, Eng.atI_nat (by rw [List.getElem?_map, hz]; rfl)⟩
  obtain ⟨za, z35⟩ := zat 35 (by decide)
  obtain ⟨zb, z36⟩ := zat 36 (by decide)
  obtain ⟨zc, z37⟩ := zat 37 (by decide)
  have z35 : L2.atI (zs.map W.int) 35 = some (.int za) := z35
  have z36 : L2.atI (zs.map W.int) 36 = some (.int zb) := z36
  have z37 : L2.atI (zs.map W.int) 37 = some (.int zc) := z37
  generalize hzw : zs.map W.int = zw at z35 z36 z37 ⊢
  obtain ⟨n, hn, hnn⟩ := fmod_rng zc (show 0 < 18 by decide)
  have hn : zc.fmod 18 = (n : Int) := hn
  have l : ∀ n : Nat, n ≤ 10 → n ≤ sizeLine := fun n h => Nat.le_trans h (by decide)
  have l1 := l 1 (by decide)
  have l2 := l 2 (by decide)
  have l3 := l 3 (by decide)
  have l4 := l 4 (by decide)
  have l5 := l 5 (by decide)
  obtain ⟨env', S', e, s, v3, v4, v5, he, hS, hw, hd, hs⟩ := for_go (P := P) (C := clOf P k) (t := .nm 3) (it := .rng1 (.var 1))
    (b := (.cons (.asg (.nm 4) (.tup (.cons (.str 44) (.cons (.cmp .gt (.bin .mod (.bin .fdiv (.idx (.var 0) (.int 36)) (.bin .add (.var 3) (.int 1))) (.int 3)) (.int 0)) .nil)))) (.cons (.asg (.nm 5) (.lst (.disp (.cons (.tup (.cons (.str 34) (.cons (.var 4) (.cons (.tup (.cons (.var 2) .nil)) (.cons (.tup .nil) .nil))))) (.cons (.tup (.cons (.str 35) (.cons (.tup .nil) (.cons (.tup (.cons (.var 2) .nil)) .nil)))) (.cons (.tup (.cons (.str 36) (.cons (.var 4) (.cons (.tup (.cons (.var 2) .nil)) .nil)))) (.cons (.tup (.cons (.str 37) (.cons (.tup (.cons (.var 2) .nil)) .nil))) .nil))))))) (.cons (.asg (.nm 2) (.idx (.lst (.cat (.var 5) (.lst (.disp (.cons (.tup (.cons (.str 34) (.cons (.tup (.cons (.str 46) (.cons (.var 4) .nil))) (.cons (.tup .nil) (.cons (.tup (.cons (.var 2) (.cons (.tup (.cons (.str 27) .nil)) .nil))) .nil))))) .nil))))) (.bin .mod (.bin .fdiv (.idx (.var 0) (.int 35)) (.bin .add (.var 3) (.int 1))) (.int 5)))) .nil))))
    (env := [some (.lst zw), some (.int (n + 1 : Nat)), some (St.pass 7).w, none, none, none]) (S := S) (S0 := S) (xs := upTo 0 (n + 1)) (g := [])
    (fun i env S1 => ∃ (s : St) (v3 v4 v5 : Option W), env = [some (.lst zw), some (.int (n + 1 : Nat)), some s.w, v3, v4, v5] ∧ S = S1 ∧ s.wf 1 0 1 ∧ s.nd ≤ i ∧ s.sz ≤ 1 + 2 * i)
    (evI_rngN (by simp [evE]) (by omega)) (fun _ _ _ _ _ => gOk_nil) ⟨.pass 7, none, none, none, rfl, rfl, by simp [St.wf], by simp [St.nd], by simp [St.sz]⟩
    (fun i x env S1 hx ⟨s, v3, v4, v5, e1, e2, e3, e4, e5⟩ => by
      subst e1 e2
      obtain ⟨rfl, hi⟩ := upTo_at hx
      have dv : ∀ z : Int, CDivN z ((i : Int) + 1) := fun z => ⟨by omega, by omega⟩
      obtain ⟨a, ha⟩ : ∃ a, a = (decide (0 < (zb.fdiv ((i : Int) + 1)).fmod 3)) := ⟨_, rfl⟩
      obtain ⟨j, hj, hj5⟩ := fmod_rng (za.fdiv ((i : Int) + 1)) (show 0 < 5 by decide)
      have hj : (za.fdiv ((i : Int) + 1)).fmod 5 = (j : Int) := hj
      have hT : W.tup [.str (tg 44), .bl a] = (Ex.tr a).w := rfl
      have hrows : ∃ s' : St, L2.atI [(St.ifs (.tr a) [s] []).w, (St.either [] [s]).w, (St.wh (.tr a) [s]).w, (St.rep [s]).w, (St.ifs (.nt (.tr a)) [] [s, .ret]).w] (j : Int) = some s'.w ∧ s'.wf 1 0 1 ∧ s'.nd ≤ i + 1 ∧ s'.sz ≤ 1 + 2 * (i + 1) := by
        have : j = 0 ∨ j = 1 ∨ j = 2 ∨ j = 3 ∨ j = 4 := by omega
        rcases this with rfl | rfl | rfl | rfl | rfl
        · exact ⟨St.ifs (.tr a) [s] [], rfl, ⟨trivial, by simp [Ex.dp], ⟨e3, trivial⟩, trivial⟩, by simp only [St.nd, Sts.nd]; omega, by simp only [St.sz, Sts.sz]; omega⟩
        · exact ⟨St.either [] [s], rfl, ⟨trivial, e3, trivial⟩, by simp only [St.nd, Sts.nd]; omega, by simp only [St.sz, Sts.sz]; omega⟩
        · exact ⟨St.wh (.tr a) [s], rfl, ⟨trivial, by simp [Ex.dp], e3, trivial⟩, by simp only [St.nd, Sts.nd]; omega, by simp only [St.sz, Sts.sz]; omega⟩
        · exact ⟨St.rep [s], rfl, ⟨e3, trivial⟩, by simp only [St.nd, Sts.nd]; omega, by simp only [St.sz, Sts.sz]; omega⟩
        · exact ⟨St.ifs (.nt (.tr a)) [] [s, .ret], rfl, ⟨trivial, by simp [Ex.dp], trivial, e3, trivial, trivial⟩, by simp only [St.nd, Sts.nd]; omega, by simp only [St.sz, Sts.sz]; omega⟩
      obtain ⟨s', h1, h2, h3, h4⟩ := hrows
      simp only [St.w, Sts.w, Ex.w] at h1
      refine ⟨_, [some (.lst zw), some (.int (n + 1 : Nat)), some s'.w, some (.int i), some (.tup [.str (tg 44), .bl a]), some (.lst [.tup [.str (tg 34), .tup [.str (tg 44), .bl a], .tup [s.w], .tup []], .tup [.str (tg 35), .tup [], .tup [s.w]], .tup [.str (tg 36), .tup [.str (tg 44), .bl a], .tup [s.w]], .tup [.str (tg 37), .tup [s.w]]])], S, rfl, .inl ?_, s', _, _, _, rfl, rfl, h2, h3, h4⟩
      simp only [List.set_cons_succ, List.set_cons_zero]
      generalize s.w = sw at h1 ⊢
      rw [ss_nx (env' := [some (.lst zw), some (.int (n + 1 : Nat)), some sw, some (.int i), some (.tup [.str (tg 44), .bl a]), v5]) (S' := S) (by simp [exS, evE, evEs, z36, dv, L.tag, l2, ha])]
      rw [ss_nx (env' := [some (.lst zw), some (.int (n + 1 : Nat)), some sw, some (.int i), some (.tup [.str (tg 44), .bl a]), some (.lst [.tup [.str (tg 34), .tup [.str (tg 44), .bl a], .tup [sw], .tup []], .tup [.str (tg 35), .tup [], .tup [sw]], .tup [.str (tg 36), .tup [.str (tg 44), .bl a], .tup [sw]], .tup [.str (tg 37), .tup [sw]]])]) (S' := S) (by simp [exS, evE, evEs, evL, L.tag, l1, l2, l3, l4])]
      simp [exSs, exS, evE, evEs, evL, asLst, z35, dv, hj, h1, L.tag, l1, l2, l3, l4, l5])
  subst he hS
  rw [upTo_len] at hd hs
  refine ⟨deepP s, deep_wf hw (by omega) (by omega), ?_⟩
  refine run_ret h60 rfl rfl (w := lpw (deepP s)) (env0 := [some (.lst zw), none, none, none, none, none]) (S1 := S) ?_ (fin_pu0 (lst_pu (by intro w hw; simp only [List.mem_cons, List.not_mem_nil, or_false] at hw; rcases hw with rfl | rfl <;> first | rfl | exact lst_pu (map_pu prw_pu))))
  unfold d__law_deep
  dsimp only
  have hlp : lpw (deepP s) = .lst [.int 1, .lst [.tup [.int 0, .tup [s.w, .tup [.str (tg 32), .tup [.str (tg 11), .int 0]]]]]] := rfl
  rw [hlp]
  rw [ss_nx (env' := [some (.lst zw), some (.int (n + 1 : Nat)), none, none, none, none]) (S' := S) (by simp [exS, evE, z37, hn])]
  rw [ss_nx (env' := [some (.lst zw), some (.int (n + 1 : Nat)), some (St.pass 7).w, none, none, none]) (S' := S) (by simp [exS, evE, evEs, L.tag, l2, St.w])]
  rw [ss_nx e]
  simp [exSs, exS, evE, evEs, evL, L.tag, l1, l2]
end Eng

set_option Elab.async false
set_option linter.all false
set_option maxHeartbeats 4000000
set_option maxRecDepth 100000
/-! H72: the law k72 holds. -/
namespace L72
open Eng PySem L2
theorem lib_Lib : Lib pg where
  tag := rfl
  dfl := fun f _ => rfl
theorem lib_LOwn : LOwn pg where
  toLib := lib_Lib
  f48 := rfl
  f53 := rfl
theorem lib_LTab : LTab pg where
  toLOwn := lib_LOwn
  f49 := rfl
  f45 := rfl
theorem lib_LAft : LAft pg where
  toLTab := lib_LTab
  f54 := rfl
  f55 := rfl
  f56 := rfl
  f51 := rfl
theorem lib_LMean : LMean pg where
  toLib := lib_Lib
  f20 := rfl
  f42 := rfl
  f43 := rfl
  f34 := rfl
  f21 := rfl
  f25 := rfl
  m5 := rfl
  m30 := rfl
  m9 := rfl
theorem lib_LPts : LPts pg where
  toLMean := lib_LMean
  f29 := rfl
  f32 := rfl
  f39 := rfl
  f40 := rfl
  f41 := rfl
  f19 := rfl
  i7 := rfl
  i6 := rfl
  i4 := rfl
  m42 := rfl
  m43 := rfl
  ptF := by decide
  psF := by decide
  wkF := by decide
theorem lib_LProg : LProg pg where
  toLPts := lib_LPts
  f3 := rfl
  f13 := rfl
  f14 := rfl
  f28 := rfl
  f37 := rfl
  f38 := rfl
  i0 := rfl
  i1 := rfl
  m14 := rfl
  m0 := rfl
  m38 := rfl
  m39 := rfl
  g40 := rfl
  scF := by decide
  pgF := by decide
theorem lib_LDraw : LDraw pg where
  toLProg := lib_LProg
  f1 := rfl
  f2 := rfl
  f11 := rfl
  f12 := rfl
  f27 := rfl
  f35 := rfl
  f36 := rfl
end L72
namespace L72
open Eng PySem L2
theorem f59 : pg.fn 59 = some d_law_4 := rfl
theorem eq_ref_dat {S : Sto} {l : Nat} {xs : List W} (hl : S[l]? = some (.lst xs)) (hp : ∀ w ∈ xs, Pu w) {n : Nat} (h : ∀ w ∈ xs, Dat n w) (hn : n ≤ 60) : readW S (.ref l) = some (.lst xs) ∧ eqW S (.ref l) (.lst xs) = some true := by
  obtain ⟨a, b, c⟩ := dat_lst h
  have hs : SeqAt.shaped (toD (.lst xs)) = true := by
    unfold SeqAt.shaped
    simp only [Bool.and_eq_true, decide_eq_true_eq]
    exact ⟨b, by omega⟩
  have hr : readW S (.ref l) = some (.lst xs) := by
    unfold readW
    rw [if_neg (by simp [isD])]
    show resW 0 (deref 0 S 8) (.ref l) = _
    rw [resW, if_neg (by omega), deref]
    simp only [Nat.sub_zero, hl]
    have : resWs 0 (deref 0 S 7) xs = some xs := res_belows (pus_at hp 0)
    rw [this]
    rfl
  refine ⟨hr, ?_⟩
  have hr2 : readW S (.lst xs) = some (.lst xs) := by unfold readW; rw [if_pos a]
  unfold eqW eqS
  dsimp only
  unfold eqDeep
  rw [hr, hr2]
  dsimp only
  rw [if_pos ⟨a, a, hs, hs⟩, eqv_refl a]
theorem show_read {S : Sto} {n b : Nat} {w w' : W} (hr : readW S w = some w') (h : Shw n b w') (hn : n ≤ 60) (hb : b ≤ sizeLine) (hq : isSq w' = true) : showD S w = some (toD w') := by
  have h2 : okD (toD w') = true := by
    unfold okD
    have := h.n
    have := h.l
    rw [h.s, h.h, decide_eq_true (show (toD w').depth ≤ 60 by omega), decide_eq_true (show (toD w').shown.length ≤ sizeLine by omega)]
    rfl
  unfold showD
  rw [hr]
  dsimp only
  rw [if_pos ⟨hq, h.d, h2⟩]
theorem hrun (ns : List Int) : ∃ S1, runTop pg 99 59 [.fro (ns.map W.int)] [] = .ok (.bl true) S1 := by
  have D := lib_LDraw
  have L := lib_LAft
  have h9 : pg.fn 62 = some d_after_ := rfl
  have h5 : pg.fn 5 = some d_begin := rfl
  have h60 : pg.fn 60 = some d__law_deep := rfl
  have h61 : pg.fn 61 = some d__law_first := rfl
  have fl : ∀ f, f ≠ 30 → ∀ ws, full pg f ws = ws := fun f hf ws => full_no lib_Lib hf
  obtain ⟨C, hC⟩ : ∃ C, C = clG pg 99 true := ⟨_, rfl⟩
  have hCk : C = clG pg 99 true := hC
  have crp : C.rp = true := by rw [hC]; rfl
  obtain ⟨zs, hzl, r1⟩ := numbers_ok (P := pg) (k := 98) D (S := []) (ns := ns) (cnt := 40) (by decide)
  have hz : zs ≠ [] := fun h => by rw [h] at hzl; cases hzl
  obtain ⟨p0, w0, r2⟩ := program_drawn (P := pg) (k := 98) D hz (by omega) (bd := 10) (by decide) (lg := true) (by decide) (S := [])
  obtain ⟨p1, w1, r60⟩ := deep_ok (P := pg) (k := 98) (S := []) h60 lib_Lib (zs := zs) (by omega)
  have zat : ∀ n : Nat, n < 40 → ∃ z : Int, L2.atI (zs.map W.int) (n : Int) = some (.int z) := fun n hn => by
    obtain ⟨z, hz⟩ : ∃ z, zs[n]? = some z := ⟨_, List.getElem?_eq_getElem (by omega)⟩
    exact ⟨z, Eng.atI_nat (by rw [List.getElem?_map, hz]; rfl)⟩
  have c1 : C.fn 1 [.fro (ns.map W.int), .int 40] [] = .ok (.lst (zs.map W.int)) [] := by rw [hC, clG_fn]; exact r1
  have c2 : C.fn 2 [.lst (zs.map W.int), .int 10, .bl true] [] = .ok (lpw p0) [] := by rw [hC, clG_fn]; exact r2
  have c60 : C.fn 60 [.lst (zs.map W.int)] [] = .ok (lpw p1) [] := by rw [hC, clG_fn]; exact r60
  have g1 := fl 1 (by decide)
  have g2 := fl 2 (by decide)
  have g5 := fl 5 (by decide)
  have g45 := fl 45 (by decide)
  have g51 := fl 51 (by decide)
  have g60 := fl 60 (by decide)
  have g61 := fl 61 (by decide)
  have g62 := fl 62 (by decide)
  generalize hscr : W.fro (ns.map W.int) = scr at c1 ⊢
  generalize hzw : zs.map W.int = zw at c1 c2 c60 zat
  obtain ⟨za, z38⟩ := zat 38 (by decide)
  have z38 : L2.atI zw 38 = some (.int za) := z38
  obtain ⟨zb, z39⟩ := zat 39 (by decide)
  have z39 : L2.atI zw 39 = some (.int zb) := z39
  obtain ⟨m8, hm8, _⟩ := fmod_rng za (show 0 < 8 by decide)
  have hm8 : za.fmod 8 = (m8 : Int) := hm8
  obtain ⟨n13, hn13, hn13l⟩ := fmod_rng zb (show 0 < 13 by decide)
  have hn13 : zb.fmod 13 = (n13 : Int) := hn13
  obtain ⟨p, w, hif⟩ : ∃ p : Pg, p.Wf ∧ exS pg C (.if_ (.cmp .eq (.bin .mod (.idx (.var 1) (.int 38)) (.int 8)) (.int 1)) (.cons (.asg (.nm 2) (.call 60 (.cons (.var 1) .nil))) .nil) .nil) [some scr, some (.lst zw), some (lpw p0), none, none, none, none, none, none] [] = .ok (.nx [some scr, some (.lst zw), some (lpw p), none, none, none, none, none, none]) [] := by
    by_cases h : (m8 : Int) = 1
    · refine ⟨p1, w1, ?_⟩
      generalize lpw p1 = l1 at c60 ⊢
      simp [exS, exSs, evE, evEs, z38, hm8, h, g60, c60]
    · refine ⟨p0, w0, ?_⟩
      generalize lpw p0 = l0 at c2 ⊢
      simp [exS, exSs, evE, evEs, z38, hm8, h]
  have r3 := mk_program (P := pg) (S := []) (k := 97) D.toLProg w (by decide)
  have hm := walker_made (P := pg) (p := p) (n := 30) D.toLPts w.nd (Nat.le_trans w.sz (by decide)) (by have := w.np; omega)
  have G := good_of w
  have hsz : (mpOf p.procs).pts.length ≤ 150 := w.sz
  have hcd := w.csD
  have hcl : (csP p).length = (mpOf p.procs).pts.length := by simp [csP, csOf]
  have hg := w.g
  have hnp := w.np.1
  have hel : (mpOf p.procs).ents.length = p.procs.length := ents_len
  have hl0 : (p.procs.getD 0 (0, [])).1 ≤ 1000 := by
    have := w.lc (p.procs.getD 0 (0, [])) (by simp [List.getD_eq_getElem?_getD, show 0 < p.procs.length by omega])
    omega
  obtain ⟨told, T, r5⟩ := table_ok (P := pg) (k := 98) L.toLTab (p := p) (n := 30) w.nd (Nat.le_trans w.sz (by decide)) (by have := w.np; omega) (by decide) (S := [])
  have rb := begin_ok (P := pg) (S := []) (k := 98) lib_LMean h5 hm (p := p) (m := mpOf p.procs) (by omega) (by omega) hl0 (by omega) (by decide) (by decide)
  have rf := lfirst_ok (P := pg) (S := []) (k := 98) L h61 T (p := p) (by omega) (by omega) hl0 (by omega) (by decide)
  have s0 := sit_begin w
  have c3 : mkR pg C true 0 [.int p.g, .lst (p.procs.map prw)] [] = .ok p.w [] := by rw [hC, mkR_clG]; exact r3
  have c45 : C.fn 45 [lpw p] [] = .ok told [] := by rw [hC, clG_fn]; exact r5
  have c5 : C.fn 5 [p.w] [] = .ok (aw (List.replicate p.g false, [((mpOf p.procs).ents.getD 0 0, List.replicate (p.procs.getD 0 (0, [])).1 false)])) [] := by rw [hC, clG_fn]; exact rb
  have c61 : C.fn 61 [lpw p, told] [] = .ok (aw (List.replicate p.g false, [((mpOf p.procs).ents.getD 0 0, List.replicate (p.procs.getD 0 (0, [])).1 false)])) [] := by rw [hC, clG_fn]; exact rf
  have cN : ∀ (n : Nat) (x : List Bool × List Fr), Sit p (csP p) n x → n ≤ 100 → ∃ ys : List (List Bool × List Fr), (∀ S, C.fn 51 [lpw p, told, aw x] S = .ok (.lst (ys.map aw)) S) ∧ (∀ S, C.fn 62 [p.w, aw x] S = .ok (.ref S.length) (S ++ [.lst (ys.map aw)])) ∧ ys.length ≤ 2 ∧ ∀ y ∈ ys, Sit p (csP p) (n + 1) y := by
    intro n x hx hn
    obtain ⟨gs, fs⟩ := x
    rw [hC, clG_fn]
    cases fs with
    | nil => exact ⟨[], fun S => lafter_nil (P := pg) (k := 98) L, fun S => after2_nil (P := pg) (k := 98) h9, by simp, by simp⟩
    | cons f r =>
      have hf := hx.fr f List.mem_cons_self
      have hrl : r.length + 1 ≤ n := by simpa using hx.few
      obtain ⟨t, ht⟩ : ∃ t, (mpOf p.procs).pts[f.1]? = some t := ⟨_, List.getElem?_eq_getElem (by rw [← hcl]; exact hf.1)⟩
      obtain ⟨q1, q2⟩ := G.pt f.1 _ ht
      have hg1 : gs.length = p.g := hx.g
      have ho : t.ok gs.length f.2.length := by rw [hg1, hf.2]; exact q1
      have hnx := fun y hy => G.next gs f y hg1 hf.1 hf.2 hy
      refine ⟨((mpOf p.procs).after p gs f).map fun x => (x.1, x.2 ++ r), fun S => ?_, fun S => ?_, ?_, fun y hy => ?_⟩
      · have := lafter_ok (P := pg) (S := S) (k := 98) L T ht (gs := gs) (f := f) (r := r) ho q2 (by omega) (by decide)
        rw [List.map_map]
        exact this
      · have := after2_ok (P := pg) (S := S) (k := 98) lib_LMean h9 hm ht (gs := gs) (f := f) (r := r) ho q2 ⟨G.few gs f, fun y hy => (hnx y hy).2.1⟩ (by omega) (by decide) (by decide)
        rw [List.map_map]
        exact this
      · rw [List.length_map]
        exact G.few gs f
      · obtain ⟨y0, hy0, rfl⟩ := List.mem_map.mp hy
        obtain ⟨k1, k2, k3⟩ := hnx y0 hy0
        refine ⟨k1, fun f' hf' => ?_, ?_⟩
        · rcases List.mem_append.mp hf' with hf' | hf'
          · exact k3 f' hf'
          · exact hx.fr f' (List.mem_cons_of_mem _ hf')
        · simp only [List.length_append]
          omega
  have cE : ∀ S gs, C.fn 62 [p.w, .tup [bw gs, .tup []]] S = .ok (.ref S.length) (S ++ [.lst []]) := fun S gs => by rw [hC, clG_fn]; exact after2_nil (P := pg) (k := 98) h9
  clear r1 r2 r60 r3 r5 rb rf hm hC
  have l2 : (2 : Nat) ≤ sizeLine := by decide
  have l100 : (100 : Nat) < sizeLine := by decide
  have hsh : ∀ (n : Nat) (x : List Bool × List Fr), Sit p (csP p) n x → n ≤ 100 → Shw 4 (2 * (100 * 75 + 45) + 3) (aw x) := fun n x h hn =>
    sh_aw (c := 100) (by rw [h.g]; omega) (fun f hf => ⟨by have := (h.fr f hf).1; omega, by rw [(h.fr f hf).2]; exact hcd f.1⟩) (Nat.le_trans h.few hn)
  generalize hx0 : ((List.replicate p.g false, [((mpOf p.procs).ents.getD 0 0, List.replicate (p.procs.getD 0 (0, [])).1 false)]) : List Bool × List Fr) = x0 at c5 c61 s0
  have sh0 := show_of (S := []) (hsh 1 x0 s0 (by decide)) (by decide) (by decide) rfl
  have i0 : ∀ S, idxW S (lpw p) (.int 0) = some (.int p.g) := fun S => by simp
  have i1 : ∀ S, idxW S (lpw p) (.int 1) = some (.lst (p.procs.map prw)) := fun S => by simp
  generalize hlp : lpw p = lp at c45 c61 cN hif i0 i1
  have hcm : CMul 30 1 := .inl ⟨by decide, by decide⟩
  have hcm0 : CMul 30 0 := .inl ⟨by decide, by decide⟩
  obtain ⟨cnt, hcnt, hev⟩ : ∃ cnt : Nat, cnt ≤ 42 ∧ ∀ x y z u, evE pg C (.bin .add (.bin .mod (.idx (.var 1) (.int 39)) (.int 13)) (.bin .mul (.int 30) (.blt .int (.cons (.cmp .eq (.bin .mod (.idx (.var 1) (.int 38)) (.int 8)) (.int 1)) .nil)))) [some scr, some (.lst zw), some lp, some p.w, some told, x, y, z, u] [] = .ok (.int cnt) [] := by
    by_cases h : (m8 : Int) = 1
    · exact ⟨n13 + 30, by omega, fun x y z u => by simp [evE, evEs, z38, z39, hm8, hn13, h, hcm, bltW]⟩
    · exact ⟨n13, by omega, fun x y z u => by simp [evE, evEs, z38, z39, hm8, hn13, h, hcm0, bltW]⟩
  obtain ⟨env', S', e, x, v6, v7, v8, he, hx⟩ := for_go (P := pg) (C := C) (t := .nm 6) (it := .rng1 (.bin .add (.bin .mod (.idx (.var 1) (.int 39)) (.int 13)) (.bin .mul (.int 30) (.blt .int (.cons (.cmp .eq (.bin .mod (.idx (.var 1) (.int 38)) (.int 8)) (.int 1)) .nil)))))
    (b := (.cons (.asg (.nm 7) (.call 51 (.cons (.var 2) (.cons (.var 4) (.cons (.var 5) .nil))))) (.cons (.asg (.nm 8) (.call 62 (.cons (.var 3) (.cons (.var 5) .nil)))) (.cons (.if_ (.or_ (.cons (.not_ (.isT (.var 8) 1)) (.cons (.cmp .ne (.var 8) (.var 7)) (.cons (.rep true (.var 8) (.var 7)) .nil)))) (.cons (.ret (.bl false)) .nil) .nil) (.cons (.expr (.bm .append (.var 8) (.cons (.var 5) .nil))) (.cons (.if_ (.cmp .ne (.call 62 (.cons (.var 3) (.cons (.var 5) .nil))) (.var 7)) (.cons (.ret (.bl false)) .nil) .nil) (.cons (.if_ (.cmp .gt (.blt .len (.cons (.var 7) .nil)) (.int 0)) (.cons (.asg (.nm 5) (.idx (.var 7) (.bin .mod (.bin .fdiv (.idx (.var 1) (.bin .add (.int 27) (.bin .mod (.var 6) (.int 13)))) (.bin .add (.int 1) (.bin .fdiv (.var 6) (.int 13)))) (.blt .len (.cons (.var 7) .nil))))) .nil) .nil) .nil)))))))
    (env := [some scr, some (.lst zw), some lp, some p.w, some told, some (aw x0), none, none, none]) (S := []) (S0 := []) (xs := upTo 0 cnt) (g := [])
    (fun i env R => ∃ (x : List Bool × List Fr) (v6 v7 v8 : Option W), env = [some scr, some (.lst zw), some lp, some p.w, some told, some (aw x), v6, v7, v8] ∧ Sit p (csP p) (i + 1) x)
    (evI_rngN (hev _ _ _ _) (by omega)) (fun _ _ _ _ _ => gOk_nil) ⟨x0, none, none, none, rfl, s0⟩
    (fun i x env R hx ⟨s, v6, v7, v8, e1, hs⟩ => by
      subst e1
      obtain ⟨rfl, hi⟩ := upTo_at hx
      obtain ⟨ys, y51, y62, yl, yn⟩ := cN (i + 1) s hs (by omega)
      have hpu : ∀ w ∈ ys.map aw, Pu w := map_pu aw_pu
      have hdat : ∀ w ∈ ys.map aw, Dat 4 w := fun w hw => by
        obtain ⟨x, _, rfl⟩ := List.mem_map.mp hw
        exact dat_aw
      have hshw : Shw 5 (2 * ((2 * (100 * 75 + 45) + 3) + 2) + 3) (.lst (ys.map aw)) := sh_lst (c := 2) (fun w hw => by
        obtain ⟨x, hx, rfl⟩ := List.mem_map.mp hw
        exact hsh (i + 1 + 1) x (yn x hx) (by omega)) (by rw [List.length_map]; exact yl)
      have hYl : (ys.map aw).length ≤ 2 := by rw [List.length_map]; exact yl
      have hpick : ∀ j : Nat, j < (ys.map aw).length → ∃ y, Sit p (csP p) (i + 1 + 1) y ∧ L2.atI (ys.map aw) (j : Int) = some (aw y) := fun j hj => by
        rw [List.length_map] at hj
        obtain ⟨y, hy⟩ : ∃ y, ys[j]? = some y := ⟨_, List.getElem?_eq_getElem hj⟩
        exact ⟨y, yn y (List.mem_of_getElem? hy), Eng.atI_nat (by rw [List.getElem?_map, hy]; rfl)⟩
      have hself : Sit p (csP p) (i + 1 + 1) s := ⟨hs.g, hs.fr, Nat.le_succ_of_le hs.few⟩
      generalize ys.map aw = YS at y51 y62 hpu hdat hshw hYl hpick
      generalize hA : aw s = A at y51 y62
      obtain ⟨q1, q2⟩ := eq_ref_dat (S := R ++ [Ob.lst YS]) (l := R.length) (xs := YS) (by simp) hpu hdat (by decide)
      have q3 := show_read q1 hshw (by decide) (by decide) rfl
      have q4 := show_of (S := R ++ [Ob.lst YS]) hshw (by decide) (by decide) rfl
      have q5 : (R ++ [Ob.lst YS])[R.length]? = some (.lst YS) := by simp
      have q6 := append_ref (x := A) q5 (by omega)
      have q7 : bmK (R ++ [Ob.lst YS]) .append (.ref R.length) = true := bmK_ref q5
      have q8 : isTW (R ++ [Ob.lst YS]) (.ref R.length) 1 = true := by simp [isTW, asLst]
      obtain ⟨j, hj⟩ : ∃ j : Nat, j = 27 + i % 13 := ⟨_, rfl⟩
      obtain ⟨z, hz⟩ := zat j (by omega)
      have hz' : L2.atI zw (27 + ((i % 13 : Nat) : Int)) = some (.int z) := by rw [← hz, hj]; rfl
      have f13 : (i : Int).fmod 13 = ((i % 13 : Nat) : Int) := fmod_nat i (n := 13)
      have d13 : (i : Int).fdiv 13 = ((i / 13 : Nat) : Int) := fdiv_nat i 13
      have k13 : CDivN (i : Int) 13 := ⟨by decide, by decide⟩
      have k1 : CDivN z (1 + ((i / 13 : Nat) : Int)) := ⟨by omega, by omega⟩
      generalize i % 13 = a13 at hz' f13
      generalize i / 13 = b13 at d13 k1
      have main : ∀ y env', (env' = [some scr, some (.lst zw), some lp, some p.w, some told, some (aw y), some (.int i), some (.lst YS), some (.ref R.length)]) → (∀ R', exS pg C (.if_ (.cmp .gt (.blt .len (.cons (.var 7) .nil)) (.int 0)) (.cons (.asg (.nm 5) (.idx (.var 7) (.bin .mod (.bin .fdiv (.idx (.var 1) (.bin .add (.int 27) (.bin .mod (.var 6) (.int 13)))) (.bin .add (.int 1) (.bin .fdiv (.var 6) (.int 13)))) (.blt .len (.cons (.var 7) .nil))))) .nil) .nil) [some scr, some (.lst zw), some lp, some p.w, some told, some A, some (.int i), some (.lst YS), some (.ref R.length)] R' = .ok (.nx env') R') → ∃ R', exSs pg C (.cons (.asg (.nm 7) (.call 51 (.cons (.var 2) (.cons (.var 4) (.cons (.var 5) .nil))))) (.cons (.asg (.nm 8) (.call 62 (.cons (.var 3) (.cons (.var 5) .nil)))) (.cons (.if_ (.or_ (.cons (.not_ (.isT (.var 8) 1)) (.cons (.cmp .ne (.var 8) (.var 7)) (.cons (.rep true (.var 8) (.var 7)) .nil)))) (.cons (.ret (.bl false)) .nil) .nil) (.cons (.expr (.bm .append (.var 8) (.cons (.var 5) .nil))) (.cons (.if_ (.cmp .ne (.call 62 (.cons (.var 3) (.cons (.var 5) .nil))) (.var 7)) (.cons (.ret (.bl false)) .nil) .nil) (.cons (.if_ (.cmp .gt (.blt .len (.cons (.var 7) .nil)) (.int 0)) (.cons (.asg (.nm 5) (.idx (.var 7) (.bin .mod (.bin .fdiv (.idx (.var 1) (.bin .add (.int 27) (.bin .mod (.var 6) (.int 13)))) (.bin .add (.int 1) (.bin .fdiv (.var 6) (.int 13)))) (.blt .len (.cons (.var 7) .nil))))) .nil) .nil) .nil)))))) [some scr, some (.lst zw), some lp, some p.w, some told, some A, some (.int i), v7, v8] R = .ok (.nx env') R' := by
        intro y env' he' h6
        rw [ss_nx (env' := [some scr, some (.lst zw), some lp, some p.w, some told, some A, some (.int i), some (.lst YS), v8]) (S' := R) (by simp [exS, evE, evEs, g51, y51])]
        rw [ss_nx (env' := [some scr, some (.lst zw), some lp, some p.w, some told, some A, some (.int i), some (.lst YS), some (.ref R.length)]) (S' := R ++ [Ob.lst YS]) (by simp [exS, evE, evEs, g62, y62])]
        generalize R ++ [Ob.lst YS] = R1 at q1 q2 q3 q4 q5 q6 q7 q8 ⊢
        rw [ss_nx (env' := [some scr, some (.lst zw), some lp, some p.w, some told, some A, some (.int i), some (.lst YS), some (.ref R.length)]) (S' := R1) (by simp [exS, exSs, evE, evEs, evOr, q8, q2, cmpW, crp, q3, q4])]
        generalize R1.set R.length (.lst (YS ++ [A])) = R2 at q6
        rw [ss_nx (env' := [some scr, some (.lst zw), some lp, some p.w, some told, some A, some (.int i), some (.lst YS), some (.ref R.length)]) (S' := R2) (by simp [exS, evE, evEs, q7, q6])]
        have t2 := (eq_ref_dat (S := R2 ++ [Ob.lst YS]) (l := R2.length) (xs := YS) (by simp) hpu hdat (by decide)).2
        have y62' := y62 R2
        generalize R2 ++ [Ob.lst YS] = R3 at t2 y62'
        rw [ss_nx (env' := [some scr, some (.lst zw), some lp, some p.w, some told, some A, some (.int i), some (.lst YS), some (.ref R.length)]) (S' := R3) (by simp [exS, exSs, evE, evEs, g62, y62', t2, cmpW])]
        rw [ss_nx (h6 R3), exSs]
        exact ⟨R3, rfl⟩
      by_cases hY : YS = []
      · subst hY
        obtain ⟨R', h⟩ := main s _ rfl (fun R' => by
          rw [hA]
          simp [exS, exSs, evE, evEs, bltW, asDict, asSeq, asList])
        exact ⟨_, _, R', rfl, .inl h, s, _, _, _, rfl, hself⟩
      · have hYp : 0 < YS.length := List.length_pos_iff.mpr hY
        obtain ⟨jj, hjj, hjl⟩ := fmod_rng (z.fdiv (1 + (b13 : Int))) hYp
        obtain ⟨y, hy, hya⟩ := hpick jj hjl
        have hp0 : ¬ ((YS.length : Int) = 0) := by omega
        have hp1 : (0 : Int) < (YS.length : Int) := by omega
        obtain ⟨R', h⟩ := main y _ rfl (fun R' => by
          simp [exS, exSs, evE, evEs, bltW, asDict, asSeq, asList, hYp, hY, f13, d13, k13, hz', k1, hjj, hya, binW, hp0])
        exact ⟨_, _, R', rfl, .inl h, y, _, _, _, rfl, hy⟩)
  subst he
  refine ⟨[], top_ret f59 rfl rfl (w := .bl true) (S1 := S' ++ [.lst []]) (env0 := [some scr, none, none, none, none, none, none, none, none]) ?_ (fin_pu (S := []) rfl)⟩
  unfold d_law_4
  dsimp only
  rw [← hCk]
  have hA0 : ∀ S, idxW S (aw x) (.int 0) = some (bw x.1) := fun S => by simp [aw]
  generalize (CE.call 60 (.cons (.var 1) .nil)) = ce60 at hif ⊢
  rw [ss_nx (env' := [some scr, some (.lst zw), none, none, none, none, none, none, none]) (S' := []) (by simp [exS, evE, evEs, g1, c1])]
  rw [ss_nx (env' := [some scr, some (.lst zw), some (lpw p0), none, none, none, none, none, none]) (S' := []) (by simp only [exS, evE, evEs, g2, c2, List.getElem?_cons_succ, List.getElem?_cons_zero, Option.join_some, R.of_some_, R.bind_ok_, asgM, asgT]; rfl)]
  rw [ss_nx hif]
  rw [ss_nx (env' := [some scr, some (.lst zw), some lp, some p.w, none, none, none, none, none]) (S' := []) (by simp [exS, evE, evEs, i0, i1, c3])]
  rw [ss_nx (env' := [some scr, some (.lst zw), some lp, some p.w, some told, none, none, none, none]) (S' := []) (by simp [exS, evE, evEs, g45, c45])]
  rw [ss_nx (env' := [some scr, some (.lst zw), some lp, some p.w, some told, some (aw x0), none, none, none]) (S' := []) (by simp [exS, evE, evEs, g5, c5])]
  have hiT : isTW [] (aw x0) 0 = true := rfl
  generalize aw x0 = A0 at c61 sh0 e hiT ⊢
  rw [ss_nx (env' := [some scr, some (.lst zw), some lp, some p.w, some told, some A0, none, none, none]) (S' := []) (by simp [exS, exSs, evE, evEs, evOr, hiT, crp, g61, c61, sh0])]
  rw [ss_nx e]
  have t2 := (eq_ref_dat (S := S' ++ [Ob.lst []]) (l := S'.length) (xs := []) (by simp) (by simp) (n := 0) (by simp) (by decide)).2
  have cE' := cE S' x.1
  generalize aw x = A at hA0 ⊢
  generalize S' ++ [Ob.lst []] = R3 at t2 cE' ⊢
  simp [exSs, exS, evE, evEs, evL, hA0, g62, cE', t2, l2, cmpW]
end L72

set_option Elab.async false
set_option linter.all false
set_option maxRecDepth 100000
set_option maxHeartbeats 4000000
/-! what the top of pilereach_k72_situations_that_follow has left (printed by head.py) -/
namespace L72
open PySem L2 Eng
def at_ {α : Type} : List (Nat × α) → α → Nat → α
  | [], d, _ => d
  | (n, a) :: r, d, m => if n = m then a else at_ r d m
theorem all_mk {K : PySem.W.Frag} {mg : Str → Option Value} {h : Heap} {fa : Addr}
    {f59 f1 f2 f60 f3 f45 f5 f61 f51 f62 f11 f12 f13 f14 f48 f49 f19 f20 f21 f54 f55 f56 f25 f27 f28 f29 f53 f32 f34 f35 f36 f37 f38 f39 f40 f41 f42 f43 C0 C1 C4 C6 C7 : Addr}
    {od59 an59 od1 an1 od2 an2 od60 an60 od3 an3 od45 an45 od5 an5 od61 an61 od51 an51 od62 an62 od11 an11 od12 an12 od13 an13 od14 an14 od48 an48 od49 an49 od19 an19 od20 an20 od21 an21 od54 an54 od55 an55 od56 an56 od25 an25 od27 an27 od28 an28 od29 an29 od53 an53 od32 an32 od34 an34 od35 an35 od36 an36 od37 an37 od38 an38 od39 an39 od40 an40 od41 an41 od42 an42 od43 an43 : Option Addr}
    {sl59 sl1 sl2 sl60 sl3 sl45 sl5 sl61 sl51 sl62 sl11 sl12 sl13 sl14 sl48 sl49 sl19 sl20 sl21 sl54 sl55 sl56 sl25 sl27 sl28 sl29 sl53 sl32 sl34 sl35 sl36 sl37 sl38 sl39 sl40 sl41 sl42 sl43 : Array (Option Value)}
    {oc59 kV59 dc59 pm59 cd59 ct59 oc1 kV1 dc1 pm1 cd1 ct1 oc2 kV2 dc2 pm2 cd2 ct2 oc60 kV60 dc60 pm60 cd60 ct60 oc3 kV3 dc3 pm3 cd3 ct3 oc45 kV45 dc45 pm45 cd45 ct45 oc5 kV5 dc5 pm5 cd5 ct5 oc61 kV61 dc61 pm61 cd61 ct61 oc51 kV51 dc51 pm51 cd51 ct51 oc62 kV62 dc62 pm62 cd62 ct62 oc11 kV11 dc11 pm11 cd11 ct11 oc12 kV12 dc12 pm12 cd12 ct12 oc13 kV13 dc13 pm13 cd13 ct13 oc14 kV14 dc14 pm14 cd14 ct14 oc48 kV48 dc48 pm48 cd48 ct48 oc49 kV49 dc49 pm49 cd49 ct49 oc19 kV19 dc19 pm19 cd19 ct19 oc20 kV20 dc20 pm20 cd20 ct20 oc21 kV21 dc21 pm21 cd21 ct21 oc54 kV54 dc54 pm54 cd54 ct54 oc55 kV55 dc55 pm55 cd55 ct55 oc56 kV56 dc56 pm56 cd56 ct56 oc25 kV25 dc25 pm25 cd25 ct25 oc27 kV27 dc27 pm27 cd27 ct27 oc28 kV28 dc28 pm28 cd28 ct28 oc29 kV29 dc29 pm29 cd29 ct29 oc53 kV53 dc53 pm53 cd53 ct53 oc32 kV32 dc32 pm32 cd32 ct32 oc34 kV34 dc34 pm34 cd34 ct34 oc35 kV35 dc35 pm35 cd35 ct35 oc36 kV36 dc36 pm36 cd36 ct36 oc37 kV37 dc37 pm37 cd37 ct37 oc38 kV38 dc38 pm38 cd38 ct38 oc39 kV39 dc39 pm39 cd39 ct39 oc40 kV40 dc40 pm40 cd40 ct40 oc41 kV41 dc41 pm41 cd41 ct41 oc42 kV42 dc42 pm42 cd42 ct42 oc43 kV43 dc43 pm43 cd43 ct43 : Value}
    {tg40 : Tok}
    (X : K.In h) (G : h.Ns mainGlobals mg) (hfa : mg "law" = some (.ref fa))
    (aC0 : PySem.W.nsIn K mainGlobals (Str.ofString "Program") = some (some (.ref C0)))
    (aC1 : PySem.W.nsIn K mainGlobals (Str.ofString "Scope") = some (some (.ref C1)))
    (aC4 : PySem.W.nsIn K mainGlobals (Str.ofString "Walker") = some (some (.ref C4)))
    (aC6 : PySem.W.nsIn K mainGlobals (Str.ofString "Points") = some (some (.ref C6)))
    (aC7 : PySem.W.nsIn K mainGlobals (Str.ofString "Point") = some (some (.ref C7)))
    (a59 : PySem.W.nsIn K mainGlobals (Str.ofString "law") = some (some (.ref f59)))
    (l59 : K.lookup f59 = some ⟨oc59, od59, .func (PySem.W.fnOf (Str.ofString "law") (Str.ofString "law") (defArgs s59) (defBody s59) (defScope s59) .none kV59 dc59 pm59 an59 cd59 ct59), sl59⟩)
    (c59 : PySem.W.codeIn K cd59 (Str.ofString "law") = true)
    (k59 : PySem.W.keepIn K (.ref f59) = true)
    (a1 : PySem.W.nsIn K mainGlobals (Str.ofString "_law_numbers") = some (some (.ref f1)))
    (l1 : K.lookup f1 = some ⟨oc1, od1, .func (PySem.W.fnOf (Str.ofString "_law_numbers") (Str.ofString "_law_numbers") (defArgs s1) (defBody s1) (defScope s1) .none kV1 dc1 pm1 an1 cd1 ct1), sl1⟩)
    (c1 : PySem.W.codeIn K cd1 (Str.ofString "_law_numbers") = true)
    (k1 : PySem.W.keepIn K (.ref f1) = true)
    (a2 : PySem.W.nsIn K mainGlobals (Str.ofString "_law_program") = some (some (.ref f2)))
    (l2 : K.lookup f2 = some ⟨oc2, od2, .func (PySem.W.fnOf (Str.ofString "_law_program") (Str.ofString "_law_program") (defArgs s2) (defBody s2) (defScope s2) .none kV2 dc2 pm2 an2 cd2 ct2), sl2⟩)
    (c2 : PySem.W.codeIn K cd2 (Str.ofString "_law_program") = true)
    (k2 : PySem.W.keepIn K (.ref f2) = true)
    (a60 : PySem.W.nsIn K mainGlobals (Str.ofString "_law_deep") = some (some (.ref f60)))
    (l60 : K.lookup f60 = some ⟨oc60, od60, .func (PySem.W.fnOf (Str.ofString "_law_deep") (Str.ofString "_law_deep") (defArgs s60) (defBody s60) (defScope s60) .none kV60 dc60 pm60 an60 cd60 ct60), sl60⟩)
    (c60 : PySem.W.codeIn K cd60 (Str.ofString "_law_deep") = true)
    (k60 : PySem.W.keepIn K (.ref f60) = true)
    (a3 : PySem.W.findIn K (.ref C0) (Str.ofString "__init__") = some (some (.ref f3)))
    (i3 : PySem.W.isFn K (.ref f3) = true)
    (l3 : K.lookup f3 = some ⟨oc3, od3, .func (PySem.W.fnOf (Str.ofString "__init__") (Str.ofString "Program.__init__") (defArgs s3) (defBody s3) (defScope s3) .none kV3 dc3 pm3 an3 cd3 ct3), sl3⟩)
    (c3 : PySem.W.codeIn K cd3 (Str.ofString "Program.__init__") = true)
    (k3 : PySem.W.keepIn K (.ref f3) = true)
    (a45 : PySem.W.nsIn K mainGlobals (Str.ofString "_law_table") = some (some (.ref f45)))
    (l45 : K.lookup f45 = some ⟨oc45, od45, .func (PySem.W.fnOf (Str.ofString "_law_table") (Str.ofString "_law_table") (defArgs s45) (defBody s45) (defScope s45) .none kV45 dc45 pm45 an45 cd45 ct45), sl45⟩)
    (c45 : PySem.W.codeIn K cd45 (Str.ofString "_law_table") = true)
    (k45 : PySem.W.keepIn K (.ref f45) = true)
    (a5 : PySem.W.nsIn K mainGlobals (Str.ofString "begin") = some (some (.ref f5)))
    (l5 : K.lookup f5 = some ⟨oc5, od5, .func (PySem.W.fnOf (Str.ofString "begin") (Str.ofString "begin") (defArgs s5) (defBody s5) (defScope s5) .none kV5 dc5 pm5 an5 cd5 ct5), sl5⟩)
    (c5 : PySem.W.codeIn K cd5 (Str.ofString "begin") = true)
    (k5 : PySem.W.keepIn K (.ref f5) = true)
    (a61 : PySem.W.nsIn K mainGlobals (Str.ofString "_law_first") = some (some (.ref f61)))
    (l61 : K.lookup f61 = some ⟨oc61, od61, .func (PySem.W.fnOf (Str.ofString "_law_first") (Str.ofString "_law_first") (defArgs s61) (defBody s61) (defScope s61) .none kV61 dc61 pm61 an61 cd61 ct61), sl61⟩)
    (c61 : PySem.W.codeIn K cd61 (Str.ofString "_law_first") = true)
    (k61 : PySem.W.keepIn K (.ref f61) = true)
    (a51 : PySem.W.nsIn K mainGlobals (Str.ofString "_law_after") = some (some (.ref f51)))
    (l51 : K.lookup f51 = some ⟨oc51, od51, .func (PySem.W.fnOf (Str.ofString "_law_after") (Str.ofString "_law_after") (defArgs s51) (defBody s51) (defScope s51) .none kV51 dc51 pm51 an51 cd51 ct51), sl51⟩)
    (c51 : PySem.W.codeIn K cd51 (Str.ofString "_law_after") = true)
    (k51 : PySem.W.keepIn K (.ref f51) = true)
    (a62 : PySem.W.nsIn K mainGlobals (Str.ofString "after") = some (some (.ref f62)))
    (l62 : K.lookup f62 = some ⟨oc62, od62, .func (PySem.W.fnOf (Str.ofString "after") (Str.ofString "after") (defArgs s62) (defBody s62) (defScope s62) .none kV62 dc62 pm62 an62 cd62 ct62), sl62⟩)
    (c62 : PySem.W.codeIn K cd62 (Str.ofString "after") = true)
    (k62 : PySem.W.keepIn K (.ref f62) = true)
    (a11 : PySem.W.nsIn K mainGlobals (Str.ofString "_law_pick") = some (some (.ref f11)))
    (l11 : K.lookup f11 = some ⟨oc11, od11, .func (PySem.W.fnOf (Str.ofString "_law_pick") (Str.ofString "_law_pick") (defArgs s11) (defBody s11) (defScope s11) .none kV11 dc11 pm11 an11 cd11 ct11), sl11⟩)
    (c11 : PySem.W.codeIn K cd11 (Str.ofString "_law_pick") = true)
    (k11 : PySem.W.keepIn K (.ref f11) = true)
    (a12 : PySem.W.nsIn K mainGlobals (Str.ofString "_law_body") = some (some (.ref f12)))
    (l12 : K.lookup f12 = some ⟨oc12, od12, .func (PySem.W.fnOf (Str.ofString "_law_body") (Str.ofString "_law_body") (defArgs s12) (defBody s12) (defScope s12) .none kV12 dc12 pm12 an12 cd12 ct12), sl12⟩)
    (c12 : PySem.W.codeIn K cd12 (Str.ofString "_law_body") = true)
    (k12 : PySem.W.keepIn K (.ref f12) = true)
    (a13 : PySem.W.findIn K (.ref C1) (Str.ofString "__init__") = some (some (.ref f13)))
    (i13 : PySem.W.isFn K (.ref f13) = true)
    (l13 : K.lookup f13 = some ⟨oc13, od13, .func (PySem.W.fnOf (Str.ofString "__init__") (Str.ofString "Scope.__init__") (defArgs s13) (defBody s13) (defScope s13) .none kV13 dc13 pm13 an13 cd13 ct13), sl13⟩)
    (c13 : PySem.W.codeIn K cd13 (Str.ofString "Scope.__init__") = true)
    (k13 : PySem.W.keepIn K (.ref f13) = true)
    (a14 : PySem.W.findIn K (.ref C1) (Str.ofString "are_right") = some (some (.ref f14)))
    (i14 : PySem.W.isFn K (.ref f14) = true)
    (l14 : K.lookup f14 = some ⟨oc14, od14, .func (PySem.W.fnOf (Str.ofString "are_right") (Str.ofString "Scope.are_right") (defArgs s14) (defBody s14) (defScope s14) .none kV14 dc14 pm14 an14 cd14 ct14), sl14⟩)
    (c14 : PySem.W.codeIn K cd14 (Str.ofString "Scope.are_right") = true)
    (k14 : PySem.W.keepIn K (.ref f14) = true)
    (a48 : PySem.W.nsIn K mainGlobals (Str.ofString "_law_size") = some (some (.ref f48)))
    (l48 : K.lookup f48 = some ⟨oc48, od48, .func (PySem.W.fnOf (Str.ofString "_law_size") (Str.ofString "_law_size") (defArgs s48) (defBody s48) (defScope s48) .none kV48 dc48 pm48 an48 cd48 ct48), sl48⟩)
    (c48 : PySem.W.codeIn K cd48 (Str.ofString "_law_size") = true)
    (k48 : PySem.W.keepIn K (.ref f48) = true)
    (a49 : PySem.W.nsIn K mainGlobals (Str.ofString "_law_fill") = some (some (.ref f49)))
    (l49 : K.lookup f49 = some ⟨oc49, od49, .func (PySem.W.fnOf (Str.ofString "_law_fill") (Str.ofString "_law_fill") (defArgs s49) (defBody s49) (defScope s49) .none kV49 dc49 pm49 an49 cd49 ct49), sl49⟩)
    (c49 : PySem.W.codeIn K cd49 (Str.ofString "_law_fill") = true)
    (k49 : PySem.W.keepIn K (.ref f49) = true)
    (a19 : PySem.W.findIn K (.ref C4) (Str.ofString "__init__") = some (some (.ref f19)))
    (i19 : PySem.W.isFn K (.ref f19) = true)
    (l19 : K.lookup f19 = some ⟨oc19, od19, .func (PySem.W.fnOf (Str.ofString "__init__") (Str.ofString "Walker.__init__") (defArgs s19) (defBody s19) (defScope s19) .none kV19 dc19 pm19 an19 cd19 ct19), sl19⟩)
    (c19 : PySem.W.codeIn K cd19 (Str.ofString "Walker.__init__") = true)
    (k19 : PySem.W.keepIn K (.ref f19) = true)
    (a20 : PySem.W.nsIn K mainGlobals (Str.ofString "no_values") = some (some (.ref f20)))
    (l20 : K.lookup f20 = some ⟨oc20, od20, .func (PySem.W.fnOf (Str.ofString "no_values") (Str.ofString "no_values") (defArgs s20) (defBody s20) (defScope s20) .none kV20 dc20 pm20 an20 cd20 ct20), sl20⟩)
    (c20 : PySem.W.codeIn K cd20 (Str.ofString "no_values") = true)
    (k20 : PySem.W.keepIn K (.ref f20) = true)
    (a21 : PySem.W.findIn K (.ref C4) (Str.ofString "entry_frame") = some (some (.ref f21)))
    (i21 : PySem.W.isFn K (.ref f21) = true)
    (l21 : K.lookup f21 = some ⟨oc21, od21, .func (PySem.W.fnOf (Str.ofString "entry_frame") (Str.ofString "Walker.entry_frame") (defArgs s21) (defBody s21) (defScope s21) .none kV21 dc21 pm21 an21 cd21 ct21), sl21⟩)
    (c21 : PySem.W.codeIn K cd21 (Str.ofString "Walker.entry_frame") = true)
    (k21 : PySem.W.keepIn K (.ref f21) = true)
    (a54 : PySem.W.nsIn K mainGlobals (Str.ofString "_law_frame") = some (some (.ref f54)))
    (l54 : K.lookup f54 = some ⟨oc54, od54, .func (PySem.W.fnOf (Str.ofString "_law_frame") (Str.ofString "_law_frame") (defArgs s54) (defBody s54) (defScope s54) .none kV54 dc54 pm54 an54 cd54 ct54), sl54⟩)
    (c54 : PySem.W.codeIn K cd54 (Str.ofString "_law_frame") = true)
    (k54 : PySem.W.keepIn K (.ref f54) = true)
    (a55 : PySem.W.nsIn K mainGlobals (Str.ofString "_law_with") = some (some (.ref f55)))
    (l55 : K.lookup f55 = some ⟨oc55, od55, .func (PySem.W.fnOf (Str.ofString "_law_with") (Str.ofString "_law_with") (defArgs s55) (defBody s55) (defScope s55) .none kV55 dc55 pm55 an55 cd55 ct55), sl55⟩)
    (c55 : PySem.W.codeIn K cd55 (Str.ofString "_law_with") = true)
    (k55 : PySem.W.keepIn K (.ref f55) = true)
    (a56 : PySem.W.nsIn K mainGlobals (Str.ofString "_law_value") = some (some (.ref f56)))
    (l56 : K.lookup f56 = some ⟨oc56, od56, .func (PySem.W.fnOf (Str.ofString "_law_value") (Str.ofString "_law_value") (defArgs s56) (defBody s56) (defScope s56) .none kV56 dc56 pm56 an56 cd56 ct56), sl56⟩)
    (c56 : PySem.W.codeIn K cd56 (Str.ofString "_law_value") = true)
    (k56 : PySem.W.keepIn K (.ref f56) = true)
    (a25 : PySem.W.findIn K (.ref C4) (Str.ofString "after") = some (some (.ref f25)))
    (i25 : PySem.W.isFn K (.ref f25) = true)
    (l25 : K.lookup f25 = some ⟨oc25, od25, .func (PySem.W.fnOf (Str.ofString "after") (Str.ofString "Walker.after") (defArgs s25) (defBody s25) (defScope s25) .none kV25 dc25 pm25 an25 cd25 ct25), sl25⟩)
    (c25 : PySem.W.codeIn K cd25 (Str.ofString "Walker.after") = true)
    (k25 : PySem.W.keepIn K (.ref f25) = true)
    (a27 : PySem.W.nsIn K mainGlobals (Str.ofString "_law_statement") = some (some (.ref f27)))
    (l27 : K.lookup f27 = some ⟨oc27, od27, .func (PySem.W.fnOf (Str.ofString "_law_statement") (Str.ofString "_law_statement") (defArgs s27) (defBody s27) (defScope s27) .none kV27 dc27 pm27 an27 cd27 ct27), sl27⟩)
    (c27 : PySem.W.codeIn K cd27 (Str.ofString "_law_statement") = true)
    (k27 : PySem.W.keepIn K (.ref f27) = true)
    (a28 : PySem.W.findIn K (.ref C1) (Str.ofString "is_right") = some (some (.ref f28)))
    (i28 : PySem.W.isFn K (.ref f28) = true)
    (l28 : K.lookup f28 = some ⟨oc28, od28, .func (PySem.W.fnOf (Str.ofString "is_right") (Str.ofString "Scope.is_right") (defArgs s28) (defBody s28) (defScope s28) .none kV28 dc28 pm28 an28 cd28 ct28), sl28⟩)
    (c28 : PySem.W.codeIn K cd28 (Str.ofString "Scope.is_right") = true)
    (k28 : PySem.W.keepIn K (.ref f28) = true)
    (a29 : PySem.W.nsIn K mainGlobals (Str.ofString "bodies") = some (some (.ref f29)))
    (l29 : K.lookup f29 = some ⟨oc29, od29, .func (PySem.W.fnOf (Str.ofString "bodies") (Str.ofString "bodies") (defArgs s29) (defBody s29) (defScope s29) .none kV29 dc29 pm29 an29 cd29 ct29), sl29⟩)
    (c29 : PySem.W.codeIn K cd29 (Str.ofString "bodies") = true)
    (k29 : PySem.W.keepIn K (.ref f29) = true)
    (a53 : PySem.W.nsIn K mainGlobals (Str.ofString "_law_bodies") = some (some (.ref f53)))
    (l53 : K.lookup f53 = some ⟨oc53, od53, .func (PySem.W.fnOf (Str.ofString "_law_bodies") (Str.ofString "_law_bodies") (defArgs s53) (defBody s53) (defScope s53) .none kV53 dc53 pm53 an53 cd53 ct53), sl53⟩)
    (c53 : PySem.W.codeIn K cd53 (Str.ofString "_law_bodies") = true)
    (k53 : PySem.W.keepIn K (.ref f53) = true)
    (a32 : PySem.W.findIn K (.ref C6) (Str.ofString "__init__") = some (some (.ref f32)))
    (i32 : PySem.W.isFn K (.ref f32) = true)
    (l32 : K.lookup f32 = some ⟨oc32, od32, .func (PySem.W.fnOf (Str.ofString "__init__") (Str.ofString "Points.__init__") (defArgs s32) (defBody s32) (defScope s32) .none kV32 dc32 pm32 an32 cd32 ct32), sl32⟩)
    (c32 : PySem.W.codeIn K cd32 (Str.ofString "Points.__init__") = true)
    (k32 : PySem.W.keepIn K (.ref f32) = true)
    (a34 : PySem.W.findIn K (.ref C4) (Str.ofString "goals") = some (some (.ref f34)))
    (i34 : PySem.W.isFn K (.ref f34) = true)
    (l34 : K.lookup f34 = some ⟨oc34, od34, .func (PySem.W.fnOf (Str.ofString "goals") (Str.ofString "Walker.goals") (defArgs s34) (defBody s34) (defScope s34) .none kV34 dc34 pm34 an34 cd34 ct34), sl34⟩)
    (c34 : PySem.W.codeIn K cd34 (Str.ofString "Walker.goals") = true)
    (k34 : PySem.W.keepIn K (.ref f34) = true)
    (a35 : PySem.W.nsIn K mainGlobals (Str.ofString "_law_variable") = some (some (.ref f35)))
    (l35 : K.lookup f35 = some ⟨oc35, od35, .func (PySem.W.fnOf (Str.ofString "_law_variable") (Str.ofString "_law_variable") (defArgs s35) (defBody s35) (defScope s35) .none kV35 dc35 pm35 an35 cd35 ct35), sl35⟩)
    (c35 : PySem.W.codeIn K cd35 (Str.ofString "_law_variable") = true)
    (k35 : PySem.W.keepIn K (.ref f35) = true)
    (a36 : PySem.W.nsIn K mainGlobals (Str.ofString "_law_expression") = some (some (.ref f36)))
    (l36 : K.lookup f36 = some ⟨oc36, od36, .func (PySem.W.fnOf (Str.ofString "_law_expression") (Str.ofString "_law_expression") (defArgs s36) (defBody s36) (defScope s36) .none kV36 dc36 pm36 an36 cd36 ct36), sl36⟩)
    (c36 : PySem.W.codeIn K cd36 (Str.ofString "_law_expression") = true)
    (k36 : PySem.W.keepIn K (.ref f36) = true)
    (a37 : PySem.W.findIn K (.ref C1) (Str.ofString "has_variable") = some (some (.ref f37)))
    (i37 : PySem.W.isFn K (.ref f37) = true)
    (l37 : K.lookup f37 = some ⟨oc37, od37, .func (PySem.W.fnOf (Str.ofString "has_variable") (Str.ofString "Scope.has_variable") (defArgs s37) (defBody s37) (defScope s37) .none kV37 dc37 pm37 an37 cd37 ct37), sl37⟩)
    (c37 : PySem.W.codeIn K cd37 (Str.ofString "Scope.has_variable") = true)
    (k37 : PySem.W.keepIn K (.ref f37) = true)
    (a38 : PySem.W.findIn K (.ref C1) (Str.ofString "has_variables") = some (some (.ref f38)))
    (i38 : PySem.W.isFn K (.ref f38) = true)
    (l38 : K.lookup f38 = some ⟨oc38, od38, .func (PySem.W.fnOf (Str.ofString "has_variables") (Str.ofString "Scope.has_variables") (defArgs s38) (defBody s38) (defScope s38) .none kV38 dc38 pm38 an38 cd38 ct38), sl38⟩)
    (c38 : PySem.W.codeIn K cd38 (Str.ofString "Scope.has_variables") = true)
    (k38 : PySem.W.keepIn K (.ref f38) = true)
    (a39 : PySem.W.findIn K (.ref C6) (Str.ofString "add_body") = some (some (.ref f39)))
    (i39 : PySem.W.isFn K (.ref f39) = true)
    (l39 : K.lookup f39 = some ⟨oc39, od39, .func (PySem.W.fnOf (Str.ofString "add_body") (Str.ofString "Points.add_body") (defArgs s39) (defBody s39) (defScope s39) .none kV39 dc39 pm39 an39 cd39 ct39), sl39⟩)
    (c39 : PySem.W.codeIn K cd39 (Str.ofString "Points.add_body") = true)
    (k39 : PySem.W.keepIn K (.ref f39) = true)
    (a40 : PySem.W.findIn K (.ref C7) (Str.ofString "__init__") = some (some (.ref f40)))
    (i40 : PySem.W.isFn K (.ref f40) = true)
    (l40 : K.lookup f40 = some ⟨oc40, od40, .func (PySem.W.fnOf (Str.ofString "__init__") (Str.ofString "Point.__init__") (defArgs s40) (defBody s40) (defScope s40) .none kV40 dc40 pm40 an40 cd40 ct40), sl40⟩)
    (c40 : PySem.W.codeIn K cd40 (Str.ofString "Point.__init__") = true)
    (k40 : PySem.W.keepIn K (.ref f40) = true)
    (a41 : PySem.W.findIn K (.ref C6) (Str.ofString "link") = some (some (.ref f41)))
    (i41 : PySem.W.isFn K (.ref f41) = true)
    (l41 : K.lookup f41 = some ⟨oc41, od41, .func (PySem.W.fnOf (Str.ofString "link") (Str.ofString "Points.link") (defArgs s41) (defBody s41) (defScope s41) .none kV41 dc41 pm41 an41 cd41 ct41), sl41⟩)
    (c41 : PySem.W.codeIn K cd41 (Str.ofString "Points.link") = true)
    (k41 : PySem.W.keepIn K (.ref f41) = true)
    (a42 : PySem.W.nsIn K mainGlobals (Str.ofString "value_of") = some (some (.ref f42)))
    (l42 : K.lookup f42 = some ⟨oc42, od42, .func (PySem.W.fnOf (Str.ofString "value_of") (Str.ofString "value_of") (defArgs s42) (defBody s42) (defScope s42) .none kV42 dc42 pm42 an42 cd42 ct42), sl42⟩)
    (c42 : PySem.W.codeIn K cd42 (Str.ofString "value_of") = true)
    (k42 : PySem.W.keepIn K (.ref f42) = true)
    (a43 : PySem.W.nsIn K mainGlobals (Str.ofString "with_value") = some (some (.ref f43)))
    (l43 : K.lookup f43 = some ⟨oc43, od43, .func (PySem.W.fnOf (Str.ofString "with_value") (Str.ofString "with_value") (defArgs s43) (defBody s43) (defScope s43) .none kV43 dc43 pm43 an43 cd43 ct43), sl43⟩)
    (c43 : PySem.W.codeIn K cd43 (Str.ofString "with_value") = true)
    (k43 : PySem.W.keepIn K (.ref f43) = true)
    (pg0 : PySem.W.plainGet K C0 Str.empty = true)
    (hd0 : PySem.W.hasDictIn K C0 = true)
    (po0 : PySem.W.plainOver K C0 = true)
    (sa0 : PySem.W.findIn K (.ref C0) "__setattr__" = some (some (.builtin "object.__setattr__")))
    (mk0 : PySem.W.makesIn K C0 = true)
    (kc0 : PySem.W.keepIn K (.ref C0) = true)
    (n0_1 : PySem.W.findIn K (.ref C0) (Str.ofString "global_count") = some none)
    (n0_2 : PySem.W.findIn K (.ref C0) (Str.ofString "procedures") = some none)
    (pg1 : PySem.W.plainGet K C1 Str.empty = true)
    (hd1 : PySem.W.hasDictIn K C1 = true)
    (po1 : PySem.W.plainOver K C1 = true)
    (sa1 : PySem.W.findIn K (.ref C1) "__setattr__" = some (some (.builtin "object.__setattr__")))
    (mk1 : PySem.W.makesIn K C1 = true)
    (kc1 : PySem.W.keepIn K (.ref C1) = true)
    (n1_10 : PySem.W.findIn K (.ref C1) (Str.ofString "counts") = some none)
    (n1_13 : PySem.W.findIn K (.ref C1) (Str.ofString "procedure_count") = some none)
    (pg4 : PySem.W.plainGet K C4 Str.empty = true)
    (hd4 : PySem.W.hasDictIn K C4 = true)
    (po4 : PySem.W.plainOver K C4 = true)
    (sa4 : PySem.W.findIn K (.ref C4) "__setattr__" = some (some (.builtin "object.__setattr__")))
    (mk4 : PySem.W.makesIn K C4 = true)
    (kc4 : PySem.W.keepIn K (.ref C4) = true)
    (n4_15 : PySem.W.findIn K (.ref C4) (Str.ofString "program") = some none)
    (n4_18 : PySem.W.findIn K (.ref C4) (Str.ofString "map") = some none)
    (pg6 : PySem.W.plainGet K C6 Str.empty = true)
    (hd6 : PySem.W.hasDictIn K C6 = true)
    (po6 : PySem.W.plainOver K C6 = true)
    (sa6 : PySem.W.findIn K (.ref C6) "__setattr__" = some (some (.builtin "object.__setattr__")))
    (mk6 : PySem.W.makesIn K C6 = true)
    (kc6 : PySem.W.keepIn K (.ref C6) = true)
    (n6_19 : PySem.W.findIn K (.ref C6) (Str.ofString "points") = some none)
    (n6_23 : PySem.W.findIn K (.ref C6) (Str.ofString "entries") = some none)
    (pg7 : PySem.W.plainGet K C7 Str.empty = true)
    (hd7 : PySem.W.hasDictIn K C7 = true)
    (po7 : PySem.W.plainOver K C7 = true)
    (sa7 : PySem.W.findIn K (.ref C7) "__setattr__" = some (some (.builtin "object.__setattr__")))
    (mk7 : PySem.W.makesIn K C7 = true)
    (kc7 : PySem.W.keepIn K (.ref C7) = true)
    (n7_20 : PySem.W.findIn K (.ref C7) (Str.ofString "procedure") = some none)
    (n7_26 : PySem.W.findIn K (.ref C7) (Str.ofString "statement") = some none)
    (n7_23 : PySem.W.findIn K (.ref C7) (Str.ofString "entries") = some none)
    (n7_29 : PySem.W.findIn K (.ref C7) (Str.ofString "follows") = some none)
    (z_len : PySem.W.nsIn K mainGlobals (Str.ofString "len") = some none)
    (z_int : PySem.W.nsIn K mainGlobals (Str.ofString "int") = some none)
    (z_tuple : PySem.W.nsIn K mainGlobals (Str.ofString "tuple") = some none)
    (z_list : PySem.W.nsIn K mainGlobals (Str.ofString "list") = some none)
    (z_sum : PySem.W.nsIn K mainGlobals (Str.ofString "sum") = some none)
    (z_all : PySem.W.nsIn K mainGlobals (Str.ofString "all") = some none)
    (z_any : PySem.W.nsIn K mainGlobals (Str.ofString "any") = some none)
    (z_min : PySem.W.nsIn K mainGlobals (Str.ofString "min") = some none)
    (z_max : PySem.W.nsIn K mainGlobals (Str.ofString "max") = some none)
    (z_abs : PySem.W.nsIn K mainGlobals (Str.ofString "abs") = some none)
    (z_dict : PySem.W.nsIn K mainGlobals (Str.ofString "dict") = some none)
    (z_isinstance : PySem.W.nsIn K mainGlobals (Str.ofString "isinstance") = some none)
    (z_range : PySem.W.nsIn K mainGlobals (Str.ofString "range") = some none)
    (z_enumerate : PySem.W.nsIn K mainGlobals (Str.ofString "enumerate") = some none)
    (z_reversed : PySem.W.nsIn K mainGlobals (Str.ofString "reversed") = some none)
    (z_zip : PySem.W.nsIn K mainGlobals (Str.ofString "zip") = some none)
    (z_bool : PySem.W.nsIn K mainGlobals (Str.ofString "bool") = some none)
    (z_repr : PySem.W.nsIn K mainGlobals (Str.ofString "repr") = some none)
    (g40 : PySem.W.nsIn K mainGlobals (Str.ofString "MOST_PLACE") = some (some (.int 999 tg40))) :
    ∃ T : Adr, Facts pg T K mg ∧ (∀ f d, pg.fn f = some d → CodeOk pg T K f d) ∧ T.F 59 = fa ∧ T.ps 59 = [Str.ofString "_law_script"] ∧ ∀ (s : Shared) (v : Value), BindsTo s (T.fd 59) ⟨[v], []⟩ [(Str.ofString "_law_script", v)] := by
  have e : f59 = fa := by
    have z := (PySem.W.mg_of X G a59).symm.trans hfa
    injection z with z
    injection z
  subst e
  have K0 : Cls K C0 := ⟨pg0, hd0, po0, sa0⟩
  have K1 : Cls K C1 := ⟨pg1, hd1, po1, sa1⟩
  have K4 : Cls K C4 := ⟨pg4, hd4, po4, sa4⟩
  have K6 : Cls K C6 := ⟨pg6, hd6, po6, sa6⟩
  have K7 : Cls K C7 := ⟨pg7, hd7, po7, sa7⟩
  refine ⟨⟨at_ [(0, C0), (1, C1), (4, C4), (6, C6), (7, C7)] C0, at_ [(59, f59), (1, f1), (2, f2), (60, f60), (3, f3), (45, f45), (5, f5), (61, f61), (51, f51), (62, f62), (11, f11), (12, f12), (13, f13), (14, f14), (48, f48), (49, f49), (19, f19), (20, f20), (21, f21), (54, f54), (55, f55), (56, f56), (25, f25), (27, f27), (28, f28), (29, f29), (53, f53), (32, f32), (34, f34), (35, f35), (36, f36), (37, f37), (38, f38), (39, f39), (40, f40), (41, f41), (42, f42), (43, f43)] f59, at_ [(59, (PySem.W.fnOf (Str.ofString "law") (Str.ofString "law") (defArgs s59) (defBody s59) (defScope s59) .none kV59 dc59 pm59 an59 cd59 ct59)), (1, (PySem.W.fnOf (Str.ofString "_law_numbers") (Str.ofString "_law_numbers") (defArgs s1) (defBody s1) (defScope s1) .none kV1 dc1 pm1 an1 cd1 ct1)), (2, (PySem.W.fnOf (Str.ofString "_law_program") (Str.ofString "_law_program") (defArgs s2) (defBody s2) (defScope s2) .none kV2 dc2 pm2 an2 cd2 ct2)), (60, (PySem.W.fnOf (Str.ofString "_law_deep") (Str.ofString "_law_deep") (defArgs s60) (defBody s60) (defScope s60) .none kV60 dc60 pm60 an60 cd60 ct60)), (3, (PySem.W.fnOf (Str.ofString "__init__") (Str.ofString "Program.__init__") (defArgs s3) (defBody s3) (defScope s3) .none kV3 dc3 pm3 an3 cd3 ct3)), (45, (PySem.W.fnOf (Str.ofString "_law_table") (Str.ofString "_law_table") (defArgs s45) (defBody s45) (defScope s45) .none kV45 dc45 pm45 an45 cd45 ct45)), (5, (PySem.W.fnOf (Str.ofString "begin") (Str.ofString "begin") (defArgs s5) (defBody s5) (defScope s5) .none kV5 dc5 pm5 an5 cd5 ct5)), (61, (PySem.W.fnOf (Str.ofString "_law_first") (Str.ofString "_law_first") (defArgs s61) (defBody s61) (defScope s61) .none kV61 dc61 pm61 an61 cd61 ct61)), (51, (PySem.W.fnOf (Str.ofString "_law_after") (Str.ofString "_law_after") (defArgs s51) (defBody s51) (defScope s51) .none kV51 dc51 pm51 an51 cd51 ct51)), (62, (PySem.W.fnOf (Str.ofString "after") (Str.ofString "after") (defArgs s62) (defBody s62) (defScope s62) .none kV62 dc62 pm62 an62 cd62 ct62)), (11, (PySem.W.fnOf (Str.ofString "_law_pick") (Str.ofString "_law_pick") (defArgs s11) (defBody s11) (defScope s11) .none kV11 dc11 pm11 an11 cd11 ct11)), (12, (PySem.W.fnOf (Str.ofString "_law_body") (Str.ofString "_law_body") (defArgs s12) (defBody s12) (defScope s12) .none kV12 dc12 pm12 an12 cd12 ct12)), (13, (PySem.W.fnOf (Str.ofString "__init__") (Str.ofString "Scope.__init__") (defArgs s13) (defBody s13) (defScope s13) .none kV13 dc13 pm13 an13 cd13 ct13)), (14, (PySem.W.fnOf (Str.ofString "are_right") (Str.ofString "Scope.are_right") (defArgs s14) (defBody s14) (defScope s14) .none kV14 dc14 pm14 an14 cd14 ct14)), (48, (PySem.W.fnOf (Str.ofString "_law_size") (Str.ofString "_law_size") (defArgs s48) (defBody s48) (defScope s48) .none kV48 dc48 pm48 an48 cd48 ct48)), (49, (PySem.W.fnOf (Str.ofString "_law_fill") (Str.ofString "_law_fill") (defArgs s49) (defBody s49) (defScope s49) .none kV49 dc49 pm49 an49 cd49 ct49)), (19, (PySem.W.fnOf (Str.ofString "__init__") (Str.ofString "Walker.__init__") (defArgs s19) (defBody s19) (defScope s19) .none kV19 dc19 pm19 an19 cd19 ct19)), (20, (PySem.W.fnOf (Str.ofString "no_values") (Str.ofString "no_values") (defArgs s20) (defBody s20) (defScope s20) .none kV20 dc20 pm20 an20 cd20 ct20)), (21, (PySem.W.fnOf (Str.ofString "entry_frame") (Str.ofString "Walker.entry_frame") (defArgs s21) (defBody s21) (defScope s21) .none kV21 dc21 pm21 an21 cd21 ct21)), (54, (PySem.W.fnOf (Str.ofString "_law_frame") (Str.ofString "_law_frame") (defArgs s54) (defBody s54) (defScope s54) .none kV54 dc54 pm54 an54 cd54 ct54)), (55, (PySem.W.fnOf (Str.ofString "_law_with") (Str.ofString "_law_with") (defArgs s55) (defBody s55) (defScope s55) .none kV55 dc55 pm55 an55 cd55 ct55)), (56, (PySem.W.fnOf (Str.ofString "_law_value") (Str.ofString "_law_value") (defArgs s56) (defBody s56) (defScope s56) .none kV56 dc56 pm56 an56 cd56 ct56)), (25, (PySem.W.fnOf (Str.ofString "after") (Str.ofString "Walker.after") (defArgs s25) (defBody s25) (defScope s25) .none kV25 dc25 pm25 an25 cd25 ct25)), (27, (PySem.W.fnOf (Str.ofString "_law_statement") (Str.ofString "_law_statement") (defArgs s27) (defBody s27) (defScope s27) .none kV27 dc27 pm27 an27 cd27 ct27)), (28, (PySem.W.fnOf (Str.ofString "is_right") (Str.ofString "Scope.is_right") (defArgs s28) (defBody s28) (defScope s28) .none kV28 dc28 pm28 an28 cd28 ct28)), (29, (PySem.W.fnOf (Str.ofString "bodies") (Str.ofString "bodies") (defArgs s29) (defBody s29) (defScope s29) .none kV29 dc29 pm29 an29 cd29 ct29)), (53, (PySem.W.fnOf (Str.ofString "_law_bodies") (Str.ofString "_law_bodies") (defArgs s53) (defBody s53) (defScope s53) .none kV53 dc53 pm53 an53 cd53 ct53)), (32, (PySem.W.fnOf (Str.ofString "__init__") (Str.ofString "Points.__init__") (defArgs s32) (defBody s32) (defScope s32) .none kV32 dc32 pm32 an32 cd32 ct32)), (34, (PySem.W.fnOf (Str.ofString "goals") (Str.ofString "Walker.goals") (defArgs s34) (defBody s34) (defScope s34) .none kV34 dc34 pm34 an34 cd34 ct34)), (35, (PySem.W.fnOf (Str.ofString "_law_variable") (Str.ofString "_law_variable") (defArgs s35) (defBody s35) (defScope s35) .none kV35 dc35 pm35 an35 cd35 ct35)), (36, (PySem.W.fnOf (Str.ofString "_law_expression") (Str.ofString "_law_expression") (defArgs s36) (defBody s36) (defScope s36) .none kV36 dc36 pm36 an36 cd36 ct36)), (37, (PySem.W.fnOf (Str.ofString "has_variable") (Str.ofString "Scope.has_variable") (defArgs s37) (defBody s37) (defScope s37) .none kV37 dc37 pm37 an37 cd37 ct37)), (38, (PySem.W.fnOf (Str.ofString "has_variables") (Str.ofString "Scope.has_variables") (defArgs s38) (defBody s38) (defScope s38) .none kV38 dc38 pm38 an38 cd38 ct38)), (39, (PySem.W.fnOf (Str.ofString "add_body") (Str.ofString "Points.add_body") (defArgs s39) (defBody s39) (defScope s39) .none kV39 dc39 pm39 an39 cd39 ct39)), (40, (PySem.W.fnOf (Str.ofString "__init__") (Str.ofString "Point.__init__") (defArgs s40) (defBody s40) (defScope s40) .none kV40 dc40 pm40 an40 cd40 ct40)), (41, (PySem.W.fnOf (Str.ofString "link") (Str.ofString "Points.link") (defArgs s41) (defBody s41) (defScope s41) .none kV41 dc41 pm41 an41 cd41 ct41)), (42, (PySem.W.fnOf (Str.ofString "value_of") (Str.ofString "value_of") (defArgs s42) (defBody s42) (defScope s42) .none kV42 dc42 pm42 an42 cd42 ct42)), (43, (PySem.W.fnOf (Str.ofString "with_value") (Str.ofString "with_value") (defArgs s43) (defBody s43) (defScope s43) .none kV43 dc43 pm43 an43 cd43 ct43))] (PySem.W.fnOf (Str.ofString "law") (Str.ofString "law") (defArgs s59) (defBody s59) (defScope s59) .none kV59 dc59 pm59 an59 cd59 ct59), pps⟩, ?_, ?_, rfl, rfl, fun s v => .of_eq (by kernel_rfl)⟩
  · refine ⟨tg_inj, ?_, ?_, ?_, ?_, ?_, ?_, ?_, ?_, (fun _ _ _ h => by cases h), (fun _ _ _ h => by cases h), ⟨kit_self, kit_self, kit_self⟩, ?_, ?_⟩
    · intro x hx
      simp only [bltNames, List.mem_cons, List.not_mem_nil, or_false] at hx
      rcases hx with rfl | rfl | rfl | rfl | rfl | rfl | rfl | rfl | rfl | rfl | rfl | rfl | rfl | rfl | rfl | rfl | rfl | rfl
      · exact PySem.W.mg_none_of X G z_len
      · exact PySem.W.mg_none_of X G z_int
      · exact PySem.W.mg_none_of X G z_tuple
      · exact PySem.W.mg_none_of X G z_list
      · exact PySem.W.mg_none_of X G z_sum
      · exact PySem.W.mg_none_of X G z_all
      · exact PySem.W.mg_none_of X G z_any
      · exact PySem.W.mg_none_of X G z_min
      · exact PySem.W.mg_none_of X G z_max
      · exact PySem.W.mg_none_of X G z_abs
      · exact PySem.W.mg_none_of X G z_dict
      · exact PySem.W.mg_none_of X G z_isinstance
      · exact PySem.W.mg_none_of X G z_range
      · exact PySem.W.mg_none_of X G z_enumerate
      · exact PySem.W.mg_none_of X G z_reversed
      · exact PySem.W.mg_none_of X G z_zip
      · exact PySem.W.mg_none_of X G z_bool
      · exact PySem.W.mg_none_of X G z_repr
    · intro t w hw
      simp only [pg] at hw
      unfold pgc at hw
      split at hw
      · cases hw
        exact ⟨_, .int 999, PySem.W.mg_of X G g40, ⟨_, rfl⟩, fun _ _ => by simp [VR]⟩
      · cases hw
    · intro f t hw
      simp only [pg] at hw
      unfold pgname at hw
      split at hw
      · cases hw
        exact ⟨PySem.W.mg_of X G a59, k59⟩
      · cases hw
        exact ⟨PySem.W.mg_of X G a1, k1⟩
      · cases hw
        exact ⟨PySem.W.mg_of X G a2, k2⟩
      · cases hw
        exact ⟨PySem.W.mg_of X G a60, k60⟩
      · cases hw
        exact ⟨PySem.W.mg_of X G a45, k45⟩
      · cases hw
        exact ⟨PySem.W.mg_of X G a5, k5⟩
      · cases hw
        exact ⟨PySem.W.mg_of X G a61, k61⟩
      · cases hw
        exact ⟨PySem.W.mg_of X G a51, k51⟩
      · cases hw
        exact ⟨PySem.W.mg_of X G a62, k62⟩
      · cases hw
        exact ⟨PySem.W.mg_of X G a11, k11⟩
      · cases hw
        exact ⟨PySem.W.mg_of X G a12, k12⟩
      · cases hw
        exact ⟨PySem.W.mg_of X G a48, k48⟩
      · cases hw
        exact ⟨PySem.W.mg_of X G a49, k49⟩
      · cases hw
        exact ⟨PySem.W.mg_of X G a20, k20⟩
      · cases hw
        exact ⟨PySem.W.mg_of X G a54, k54⟩
      · cases hw
        exact ⟨PySem.W.mg_of X G a55, k55⟩
      · cases hw
        exact ⟨PySem.W.mg_of X G a56, k56⟩
      · cases hw
        exact ⟨PySem.W.mg_of X G a27, k27⟩
      · cases hw
        exact ⟨PySem.W.mg_of X G a29, k29⟩
      · cases hw
        exact ⟨PySem.W.mg_of X G a53, k53⟩
      · cases hw
        exact ⟨PySem.W.mg_of X G a35, k35⟩
      · cases hw
        exact ⟨PySem.W.mg_of X G a36, k36⟩
      · cases hw
        exact ⟨PySem.W.mg_of X G a42, k42⟩
      · cases hw
        exact ⟨PySem.W.mg_of X G a43, k43⟩
      · cases hw
    · intro c t hw
      simp only [pg] at hw
      unfold pcname at hw
      split at hw
      · cases hw
        exact PySem.W.mg_of X G aC0
      · cases hw
        exact PySem.W.mg_of X G aC1
      · cases hw
        exact PySem.W.mg_of X G aC4
      · cases hw
        exact PySem.W.mg_of X G aC6
      · cases hw
        exact PySem.W.mg_of X G aC7
      · cases hw
    · intro c f hw
      simp only [pg] at hw
      unfold pinit at hw
      split at hw
      · exact K0
      · exact K1
      · exact K4
      · exact K6
      · exact K7
      · cases hw
    · intro c f hw
      simp only [pg] at hw
      unfold pisF at hw
      split at hw
      · exact n0_1
      · exact n0_2
      · exact n1_10
      · exact n1_13
      · exact n4_15
      · exact n4_18
      · exact n6_19
      · exact n6_23
      · exact n7_20
      · exact n7_26
      · exact n7_23
      · exact n7_29
      · cases hw
    · intro c f hw
      simp only [pg] at hw
      unfold pinit at hw
      split at hw
      · cases hw
        exact ⟨mk0, a3, i3, kc0⟩
      · cases hw
        exact ⟨mk1, a13, i13, kc1⟩
      · cases hw
        exact ⟨mk4, a19, i19, kc4⟩
      · cases hw
        exact ⟨mk6, a32, i32, kc6⟩
      · cases hw
        exact ⟨mk7, a40, i40, kc7⟩
      · cases hw
    · intro c m f hw
      simp only [pg] at hw
      unfold pmeth at hw
      split at hw
      · cases hw
        exact ⟨⟨a14, i14, k14⟩, K1⟩
      · cases hw
        exact ⟨⟨a21, i21, k21⟩, K4⟩
      · cases hw
        exact ⟨⟨a25, i25, k25⟩, K4⟩
      · cases hw
        exact ⟨⟨a28, i28, k28⟩, K1⟩
      · cases hw
        exact ⟨⟨a34, i34, k34⟩, K4⟩
      · cases hw
        exact ⟨⟨a37, i37, k37⟩, K1⟩
      · cases hw
        exact ⟨⟨a38, i38, k38⟩, K1⟩
      · cases hw
        exact ⟨⟨a39, i39, k39⟩, K6⟩
      · cases hw
        exact ⟨⟨a41, i41, k41⟩, K6⟩
      · cases hw
    · intro f n hn
      have hz : ∀ {ps : List Str} {fd : FuncData}, Binds K fd ps [] → n ≤ 0 → ∃ ds dvs, Binds K fd ps ds ∧ Vals dvs ds ∧ ∀ ρ H, VRs pg (⟨at_ [(0, C0), (1, C1), (4, C4), (6, C6), (7, C7)] C0, at_ [(59, f59), (1, f1), (2, f2), (60, f60), (3, f3), (45, f45), (5, f5), (61, f61), (51, f51), (62, f62), (11, f11), (12, f12), (13, f13), (14, f14), (48, f48), (49, f49), (19, f19), (20, f20), (21, f21), (54, f54), (55, f55), (56, f56), (25, f25), (27, f27), (28, f28), (29, f29), (53, f53), (32, f32), (34, f34), (35, f35), (36, f36), (37, f37), (38, f38), (39, f39), (40, f40), (41, f41), (42, f42), (43, f43)] f59, at_ [(59, (PySem.W.fnOf (Str.ofString "law") (Str.ofString "law") (defArgs s59) (defBody s59) (defScope s59) .none kV59 dc59 pm59 an59 cd59 ct59)), (1, (PySem.W.fnOf (Str.ofString "_law_numbers") (Str.ofString "_law_numbers") (defArgs s1) (defBody s1) (defScope s1) .none kV1 dc1 pm1 an1 cd1 ct1)), (2, (PySem.W.fnOf (Str.ofString "_law_program") (Str.ofString "_law_program") (defArgs s2) (defBody s2) (defScope s2) .none kV2 dc2 pm2 an2 cd2 ct2)), (60, (PySem.W.fnOf (Str.ofString "_law_deep") (Str.ofString "_law_deep") (defArgs s60) (defBody s60) (defScope s60) .none kV60 dc60 pm60 an60 cd60 ct60)), (3, (PySem.W.fnOf (Str.ofString "__init__") (Str.ofString "Program.__init__") (defArgs s3) (defBody s3) (defScope s3) .none kV3 dc3 pm3 an3 cd3 ct3)), (45, (PySem.W.fnOf (Str.ofString "_law_table") (Str.ofString "_law_table") (defArgs s45) (defBody s45) (defScope s45) .none kV45 dc45 pm45 an45 cd45 ct45)), (5, (PySem.W.fnOf (Str.ofString "begin") (Str.ofString "begin") (defArgs s5) (defBody s5) (defScope s5) .none kV5 dc5 pm5 an5 cd5 ct5)), (61, (PySem.W.fnOf (Str.ofString "_law_first") (Str.ofString "_law_first") (defArgs s61) (defBody s61) (defScope s61) .none kV61 dc61 pm61 an61 cd61 ct61)), (51, (PySem.W.fnOf (Str.ofString "_law_after") (Str.ofString "_law_after") (defArgs s51) (defBody s51) (defScope s51) .none kV51 dc51 pm51 an51 cd51 ct51)), (62, (PySem.W.fnOf (Str.ofString "after") (Str.ofString "after") (defArgs s62) (defBody s62) (defScope s62) .none kV62 dc62 pm62 an62 cd62 ct62)), (11, (PySem.W.fnOf (Str.ofString "_law_pick") (Str.ofString "_law_pick") (defArgs s11) (defBody s11) (defScope s11) .none kV11 dc11 pm11 an11 cd11 ct11)), (12, (PySem.W.fnOf (Str.ofString "_law_body") (Str.ofString "_law_body") (defArgs s12) (defBody s12) (defScope s12) .none kV12 dc12 pm12 an12 cd12 ct12)), (13, (PySem.W.fnOf (Str.ofString "__init__") (Str.ofString "Scope.__init__") (defArgs s13) (defBody s13) (defScope s13) .none kV13 dc13 pm13 an13 cd13 ct13)), (14, (PySem.W.fnOf (Str.ofString "are_right") (Str.ofString "Scope.are_right") (defArgs s14) (defBody s14) (defScope s14) .none kV14 dc14 pm14 an14 cd14 ct14)), (48, (PySem.W.fnOf (Str.ofString "_law_size") (Str.ofString "_law_size") (defArgs s48) (defBody s48) (defScope s48) .none kV48 dc48 pm48 an48 cd48 ct48)), (49, (PySem.W.fnOf (Str.ofString "_law_fill") (Str.ofString "_law_fill") (defArgs s49) (defBody s49) (defScope s49) .none kV49 dc49 pm49 an49 cd49 ct49)), (19, (PySem.W.fnOf (Str.ofString "__init__") (Str.ofString "Walker.__init__") (defArgs s19) (defBody s19) (defScope s19) .none kV19 dc19 pm19 an19 cd19 ct19)), (20, (PySem.W.fnOf (Str.ofString "no_values") (Str.ofString "no_values") (defArgs s20) (defBody s20) (defScope s20) .none kV20 dc20 pm20 an20 cd20 ct20)), (21, (PySem.W.fnOf (Str.ofString "entry_frame") (Str.ofString "Walker.entry_frame") (defArgs s21) (defBody s21) (defScope s21) .none kV21 dc21 pm21 an21 cd21 ct21)), (54, (PySem.W.fnOf (Str.ofString "_law_frame") (Str.ofString "_law_frame") (defArgs s54) (defBody s54) (defScope s54) .none kV54 dc54 pm54 an54 cd54 ct54)), (55, (PySem.W.fnOf (Str.ofString "_law_with") (Str.ofString "_law_with") (defArgs s55) (defBody s55) (defScope s55) .none kV55 dc55 pm55 an55 cd55 ct55)), (56, (PySem.W.fnOf (Str.ofString "_law_value") (Str.ofString "_law_value") (defArgs s56) (defBody s56) (defScope s56) .none kV56 dc56 pm56 an56 cd56 ct56)), (25, (PySem.W.fnOf (Str.ofString "after") (Str.ofString "Walker.after") (defArgs s25) (defBody s25) (defScope s25) .none kV25 dc25 pm25 an25 cd25 ct25)), (27, (PySem.W.fnOf (Str.ofString "_law_statement") (Str.ofString "_law_statement") (defArgs s27) (defBody s27) (defScope s27) .none kV27 dc27 pm27 an27 cd27 ct27)), (28, (PySem.W.fnOf (Str.ofString "is_right") (Str.ofString "Scope.is_right") (defArgs s28) (defBody s28) (defScope s28) .none kV28 dc28 pm28 an28 cd28 ct28)), (29, (PySem.W.fnOf (Str.ofString "bodies") (Str.ofString "bodies") (defArgs s29) (defBody s29) (defScope s29) .none kV29 dc29 pm29 an29 cd29 ct29)), (53, (PySem.W.fnOf (Str.ofString "_law_bodies") (Str.ofString "_law_bodies") (defArgs s53) (defBody s53) (defScope s53) .none kV53 dc53 pm53 an53 cd53 ct53)), (32, (PySem.W.fnOf (Str.ofString "__init__") (Str.ofString "Points.__init__") (defArgs s32) (defBody s32) (defScope s32) .none kV32 dc32 pm32 an32 cd32 ct32)), (34, (PySem.W.fnOf (Str.ofString "goals") (Str.ofString "Walker.goals") (defArgs s34) (defBody s34) (defScope s34) .none kV34 dc34 pm34 an34 cd34 ct34)), (35, (PySem.W.fnOf (Str.ofString "_law_variable") (Str.ofString "_law_variable") (defArgs s35) (defBody s35) (defScope s35) .none kV35 dc35 pm35 an35 cd35 ct35)), (36, (PySem.W.fnOf (Str.ofString "_law_expression") (Str.ofString "_law_expression") (defArgs s36) (defBody s36) (defScope s36) .none kV36 dc36 pm36 an36 cd36 ct36)), (37, (PySem.W.fnOf (Str.ofString "has_variable") (Str.ofString "Scope.has_variable") (defArgs s37) (defBody s37) (defScope s37) .none kV37 dc37 pm37 an37 cd37 ct37)), (38, (PySem.W.fnOf (Str.ofString "has_variables") (Str.ofString "Scope.has_variables") (defArgs s38) (defBody s38) (defScope s38) .none kV38 dc38 pm38 an38 cd38 ct38)), (39, (PySem.W.fnOf (Str.ofString "add_body") (Str.ofString "Points.add_body") (defArgs s39) (defBody s39) (defScope s39) .none kV39 dc39 pm39 an39 cd39 ct39)), (40, (PySem.W.fnOf (Str.ofString "__init__") (Str.ofString "Point.__init__") (defArgs s40) (defBody s40) (defScope s40) .none kV40 dc40 pm40 an40 cd40 ct40)), (41, (PySem.W.fnOf (Str.ofString "link") (Str.ofString "Points.link") (defArgs s41) (defBody s41) (defScope s41) .none kV41 dc41 pm41 an41 cd41 ct41)), (42, (PySem.W.fnOf (Str.ofString "value_of") (Str.ofString "value_of") (defArgs s42) (defBody s42) (defScope s42) .none kV42 dc42 pm42 an42 cd42 ct42)), (43, (PySem.W.fnOf (Str.ofString "with_value") (Str.ofString "with_value") (defArgs s43) (defBody s43) (defScope s43) .none kV43 dc43 pm43 an43 cd43 ct43))] (PySem.W.fnOf (Str.ofString "law") (Str.ofString "law") (defArgs s59) (defBody s59) (defScope s59) .none kV59 dc59 pm59 an59 cd59 ct59), pps⟩) K ρ H (([] : List W).drop n) dvs := fun b h => ⟨[], [], b, .nil, fun _ _ => by simp [VRs]⟩
      by_cases hf : f ∈ [59, 1, 2, 60, 3, 45, 5, 61, 51, 62, 11, 12, 13, 14, 48, 49, 19, 20, 21, 54, 55, 56, 25, 27, 28, 29, 53, 32, 34, 35, 36, 37, 38, 39, 40, 41, 42, 43]
      · simp only [List.mem_cons, List.not_mem_nil, or_false] at hf
        rcases hf with rfl | rfl | rfl | rfl | rfl | rfl | rfl | rfl | rfl | rfl | rfl | rfl | rfl | rfl | rfl | rfl | rfl | rfl | rfl | rfl | rfl | rfl | rfl | rfl | rfl | rfl | rfl | rfl | rfl | rfl | rfl | rfl | rfl | rfl | rfl | rfl | rfl | rfl
        · exact hz (ps := q59) ((fun_mk (st := s59) l59 c59 k59).binds (ps := q59) fun _ _ _ _ _ _ us hl => match us, hl with | [_], _ => by kernel_rfl) hn
        · exact hz (ps := q1) ((fun_mk (st := s1) l1 c1 k1).binds (ps := q1) fun _ _ _ _ _ _ us hl => match us, hl with | [_, _], _ => by kernel_rfl) hn
        · exact hz (ps := q2) ((fun_mk (st := s2) l2 c2 k2).binds (ps := q2) fun _ _ _ _ _ _ us hl => match us, hl with | [_, _, _], _ => by kernel_rfl) hn
        · exact hz (ps := q60) ((fun_mk (st := s60) l60 c60 k60).binds (ps := q60) fun _ _ _ _ _ _ us hl => match us, hl with | [_], _ => by kernel_rfl) hn
        · exact hz (ps := q3) ((fun_mk (st := s3) l3 c3 k3).binds (ps := q3) fun _ _ _ _ _ _ us hl => match us, hl with | [_, _, _], _ => by kernel_rfl) hn
        · exact hz (ps := q45) ((fun_mk (st := s45) l45 c45 k45).binds (ps := q45) fun _ _ _ _ _ _ us hl => match us, hl with | [_], _ => by kernel_rfl) hn
        · exact hz (ps := q5) ((fun_mk (st := s5) l5 c5 k5).binds (ps := q5) fun _ _ _ _ _ _ us hl => match us, hl with | [_], _ => by kernel_rfl) hn
        · exact hz (ps := q61) ((fun_mk (st := s61) l61 c61 k61).binds (ps := q61) fun _ _ _ _ _ _ us hl => match us, hl with | [_, _], _ => by kernel_rfl) hn
        · exact hz (ps := q51) ((fun_mk (st := s51) l51 c51 k51).binds (ps := q51) fun _ _ _ _ _ _ us hl => match us, hl with | [_, _, _], _ => by kernel_rfl) hn
        · exact hz (ps := q62) ((fun_mk (st := s62) l62 c62 k62).binds (ps := q62) fun _ _ _ _ _ _ us hl => match us, hl with | [_, _], _ => by kernel_rfl) hn
        · exact hz (ps := q11) ((fun_mk (st := s11) l11 c11 k11).binds (ps := q11) fun _ _ _ _ _ _ us hl => match us, hl with | [_, _], _ => by kernel_rfl) hn
        · exact hz (ps := q12) ((fun_mk (st := s12) l12 c12 k12).binds (ps := q12) fun _ _ _ _ _ _ us hl => match us, hl with | [_, _, _, _], _ => by kernel_rfl) hn
        · exact hz (ps := q13) ((fun_mk (st := s13) l13 c13 k13).binds (ps := q13) fun _ _ _ _ _ _ us hl => match us, hl with | [_, _, _, _], _ => by kernel_rfl) hn
        · exact hz (ps := q14) ((fun_mk (st := s14) l14 c14 k14).binds (ps := q14) fun _ _ _ _ _ _ us hl => match us, hl with | [_, _], _ => by kernel_rfl) hn
        · exact hz (ps := q48) ((fun_mk (st := s48) l48 c48 k48).binds (ps := q48) fun _ _ _ _ _ _ us hl => match us, hl with | [_], _ => by kernel_rfl) hn
        · exact hz (ps := q49) ((fun_mk (st := s49) l49 c49 k49).binds (ps := q49) fun _ _ _ _ _ _ us hl => match us, hl with | [_, _, _, _, _], _ => by kernel_rfl) hn
        · exact hz (ps := q19) ((fun_mk (st := s19) l19 c19 k19).binds (ps := q19) fun _ _ _ _ _ _ us hl => match us, hl with | [_, _], _ => by kernel_rfl) hn
        · exact hz (ps := q20) ((fun_mk (st := s20) l20 c20 k20).binds (ps := q20) fun _ _ _ _ _ _ us hl => match us, hl with | [_], _ => by kernel_rfl) hn
        · exact hz (ps := q21) ((fun_mk (st := s21) l21 c21 k21).binds (ps := q21) fun _ _ _ _ _ _ us hl => match us, hl with | [_, _], _ => by kernel_rfl) hn
        · exact hz (ps := q54) ((fun_mk (st := s54) l54 c54 k54).binds (ps := q54) fun _ _ _ _ _ _ us hl => match us, hl with | [_, _, _], _ => by kernel_rfl) hn
        · exact hz (ps := q55) ((fun_mk (st := s55) l55 c55 k55).binds (ps := q55) fun _ _ _ _ _ _ us hl => match us, hl with | [_, _, _], _ => by kernel_rfl) hn
        · exact hz (ps := q56) ((fun_mk (st := s56) l56 c56 k56).binds (ps := q56) fun _ _ _ _ _ _ us hl => match us, hl with | [_, _], _ => by kernel_rfl) hn
        · exact hz (ps := q25) ((fun_mk (st := s25) l25 c25 k25).binds (ps := q25) fun _ _ _ _ _ _ us hl => match us, hl with | [_, _, _], _ => by kernel_rfl) hn
        · exact hz (ps := q27) ((fun_mk (st := s27) l27 c27 k27).binds (ps := q27) fun _ _ _ _ _ _ us hl => match us, hl with | [_, _, _], _ => by kernel_rfl) hn
        · exact hz (ps := q28) ((fun_mk (st := s28) l28 c28 k28).binds (ps := q28) fun _ _ _ _ _ _ us hl => match us, hl with | [_, _], _ => by kernel_rfl) hn
        · exact hz (ps := q29) ((fun_mk (st := s29) l29 c29 k29).binds (ps := q29) fun _ _ _ _ _ _ us hl => match us, hl with | [_], _ => by kernel_rfl) hn
        · exact hz (ps := q53) ((fun_mk (st := s53) l53 c53 k53).binds (ps := q53) fun _ _ _ _ _ _ us hl => match us, hl with | [_], _ => by kernel_rfl) hn
        · exact hz (ps := q32) ((fun_mk (st := s32) l32 c32 k32).binds (ps := q32) fun _ _ _ _ _ _ us hl => match us, hl with | [_, _], _ => by kernel_rfl) hn
        · exact hz (ps := q34) ((fun_mk (st := s34) l34 c34 k34).binds (ps := q34) fun _ _ _ _ _ _ us hl => match us, hl with | [_, _, _], _ => by kernel_rfl) hn
        · exact hz (ps := q35) ((fun_mk (st := s35) l35 c35 k35).binds (ps := q35) fun _ _ _ _ _ _ us hl => match us, hl with | [_, _], _ => by kernel_rfl) hn
        · exact hz (ps := q36) ((fun_mk (st := s36) l36 c36 k36).binds (ps := q36) fun _ _ _ _ _ _ us hl => match us, hl with | [_, _, _], _ => by kernel_rfl) hn
        · exact hz (ps := q37) ((fun_mk (st := s37) l37 c37 k37).binds (ps := q37) fun _ _ _ _ _ _ us hl => match us, hl with | [_, _], _ => by kernel_rfl) hn
        · exact hz (ps := q38) ((fun_mk (st := s38) l38 c38 k38).binds (ps := q38) fun _ _ _ _ _ _ us hl => match us, hl with | [_, _], _ => by kernel_rfl) hn
        · exact hz (ps := q39) ((fun_mk (st := s39) l39 c39 k39).binds (ps := q39) fun _ _ _ _ _ _ us hl => match us, hl with | [_, _, _], _ => by kernel_rfl) hn
        · exact hz (ps := q40) ((fun_mk (st := s40) l40 c40 k40).binds (ps := q40) fun _ _ _ _ _ _ us hl => match us, hl with | [_, _, _], _ => by kernel_rfl) hn
        · exact hz (ps := q41) ((fun_mk (st := s41) l41 c41 k41).binds (ps := q41) fun _ _ _ _ _ _ us hl => match us, hl with | [_, _, _], _ => by kernel_rfl) hn
        · exact hz (ps := q42) ((fun_mk (st := s42) l42 c42 k42).binds (ps := q42) fun _ _ _ _ _ _ us hl => match us, hl with | [_, _], _ => by kernel_rfl) hn
        · exact hz (ps := q43) ((fun_mk (st := s43) l43 c43 k43).binds (ps := q43) fun _ _ _ _ _ _ us hl => match us, hl with | [_, _, _], _ => by kernel_rfl) hn
      · have e1 : pg.dfl f = [] := by
          show pdfl f = []
          unfold pdfl
          split <;> first | rfl | exact absurd (by decide) hf
        have e2 : pps f = q59 := by
          unfold pps
          split <;> first | exact absurd (by decide) hf | rfl
        have e3 : ∀ {α : Type} (d : α) (l : List (Nat × α)), (l.map (·.1)) = [59, 1, 2, 60, 3, 45, 5, 61, 51, 62, 11, 12, 13, 14, 48, 49, 19, 20, 21, 54, 55, 56, 25, 27, 28, 29, 53, 32, 34, 35, 36, 37, 38, 39, 40, 41, 42, 43] → at_ l d f = d := by
          intro α d l hl
          have : ∀ (l : List (Nat × α)), (∀ p ∈ l, p.1 ≠ f) → at_ l d f = d := by
            intro l
            induction l with
            | nil => intro _; rfl
            | cons p l ih => intro h; obtain ⟨n, a⟩ := p; unfold at_; rw [if_neg (h (n, a) List.mem_cons_self)]; exact ih fun p hp => h p (List.mem_cons_of_mem _ hp)
          refine this l fun p hp e => hf ?_
          rw [← hl, ← e]
          exact List.mem_map_of_mem hp
        rw [e1] at hn ⊢
        show ∃ ds dvs, Binds K (at_ _ _ f) (pps f) ds ∧ _
        rw [e2, e3 _ _ rfl]
        exact hz ((fun_mk (st := s59) l59 c59 k59).binds (ps := q59) fun _ _ _ _ _ _ us hl => match us, hl with | [_], _ => by kernel_rfl) hn
    · intro f d hw
      simp only [pg] at hw
      unfold pfn at hw
      split at hw
      · cases hw; rfl
      · cases hw; rfl
      · cases hw; rfl
      · cases hw; rfl
      · cases hw; rfl
      · cases hw; rfl
      · cases hw; rfl
      · cases hw; rfl
      · cases hw; rfl
      · cases hw; rfl
      · cases hw; rfl
      · cases hw; rfl
      · cases hw; rfl
      · cases hw; rfl
      · cases hw; rfl
      · cases hw; rfl
      · cases hw; rfl
      · cases hw; rfl
      · cases hw; rfl
      · cases hw; rfl
      · cases hw; rfl
      · cases hw; rfl
      · cases hw; rfl
      · cases hw; rfl
      · cases hw; rfl
      · cases hw; rfl
      · cases hw; rfl
      · cases hw; rfl
      · cases hw; rfl
      · cases hw; rfl
      · cases hw; rfl
      · cases hw; rfl
      · cases hw; rfl
      · cases hw; rfl
      · cases hw; rfl
      · cases hw; rfl
      · cases hw; rfl
      · cases hw; rfl
      · cases hw
  · intro f d hw
    simp only [pg] at hw
    unfold pfn at hw
    split at hw
    · cases hw
      exact ⟨_, _, _, _, _, n1, _, _, _, _, _, _, _, _, _, _, rfl, l1, c1, C8.fnScope_by L72.c1, L72.k1, rfl⟩
    · cases hw
      exact ⟨_, _, _, _, _, n2, _, _, _, _, _, _, _, _, _, _, rfl, l2, c2, C8.fnScope_by L72.c2, L72.k2, rfl⟩
    · cases hw
      exact ⟨_, _, _, _, _, n3, _, _, _, _, _, _, _, _, _, _, rfl, l3, c3, C8.fnScope_by L72.c3, L72.k3, rfl⟩
    · cases hw
      exact ⟨_, _, _, _, _, n5, _, _, _, _, _, _, _, _, _, _, rfl, l5, c5, C8.fnScope_by L72.c5, L72.k5, rfl⟩
    · cases hw
      exact ⟨_, _, _, _, _, n11, _, _, _, _, _, _, _, _, _, _, rfl, l11, c11, C8.fnScope_by L72.c11, L72.k11, rfl⟩
    · cases hw
      exact ⟨_, _, _, _, _, n12, _, _, _, _, _, _, _, _, _, _, rfl, l12, c12, C8.fnScope_by L72.c12, L72.k12, rfl⟩
    · cases hw
      exact ⟨_, _, _, _, _, n13, _, _, _, _, _, _, _, _, _, _, rfl, l13, c13, C8.fnScope_by L72.c13, L72.k13, rfl⟩
    · cases hw
      exact ⟨_, _, _, _, _, n14, _, _, _, _, _, _, _, _, _, _, rfl, l14, c14, C8.fnScope_by L72.c14, L72.k14, rfl⟩
    · cases hw
      exact ⟨_, _, _, _, _, n19, _, _, _, _, _, _, _, _, _, _, rfl, l19, c19, C8.fnScope_by L72.c19, L72.k19, rfl⟩
    · cases hw
      exact ⟨_, _, _, _, _, n20, _, _, _, _, _, _, _, _, _, _, rfl, l20, c20, C8.fnScope_by L72.c20, L72.k20, rfl⟩
    · cases hw
      exact ⟨_, _, _, _, _, n21, _, _, _, _, _, _, _, _, _, _, rfl, l21, c21, C8.fnScope_by L72.c21, L72.k21, rfl⟩
    · cases hw
      exact ⟨_, _, _, _, _, n25, _, _, _, _, _, _, _, _, _, _, rfl, l25, c25, C8.fnScope_by L72.c25, L72.k25, rfl⟩
    · cases hw
      exact ⟨_, _, _, _, _, n27, _, _, _, _, _, _, _, _, _, _, rfl, l27, c27, C8.fnScope_by L72.c27, L72.k27, rfl⟩
    · cases hw
      exact ⟨_, _, _, _, _, n28, _, _, _, _, _, _, _, _, _, _, rfl, l28, c28, C8.fnScope_by L72.c28, L72.k28, rfl⟩
    · cases hw
      exact ⟨_, _, _, _, _, n29, _, _, _, _, _, _, _, _, _, _, rfl, l29, c29, C8.fnScope_by L72.c29, L72.k29, rfl⟩
    · cases hw
      exact ⟨_, _, _, _, _, n32, _, _, _, _, _, _, _, _, _, _, rfl, l32, c32, C8.fnScope_by L72.c32, L72.k32, rfl⟩
    · cases hw
      exact ⟨_, _, _, _, _, n34, _, _, _, _, _, _, _, _, _, _, rfl, l34, c34, C8.fnScope_by L72.c34, L72.k34, rfl⟩
    · cases hw
      exact ⟨_, _, _, _, _, n35, _, _, _, _, _, _, _, _, _, _, rfl, l35, c35, C8.fnScope_by L72.c35, L72.k35, rfl⟩
    · cases hw
      exact ⟨_, _, _, _, _, n36, _, _, _, _, _, _, _, _, _, _, rfl, l36, c36, C8.fnScope_by L72.c36, L72.k36, rfl⟩
    · cases hw
      exact ⟨_, _, _, _, _, n37, _, _, _, _, _, _, _, _, _, _, rfl, l37, c37, C8.fnScope_by L72.c37, L72.k37, rfl⟩
    · cases hw
      exact ⟨_, _, _, _, _, n38, _, _, _, _, _, _, _, _, _, _, rfl, l38, c38, C8.fnScope_by L72.c38, L72.k38, rfl⟩
    · cases hw
      exact ⟨_, _, _, _, _, n39, _, _, _, _, _, _, _, _, _, _, rfl, l39, c39, C8.fnScope_by L72.c39, L72.k39, rfl⟩
    · cases hw
      exact ⟨_, _, _, _, _, n40, _, _, _, _, _, _, _, _, _, _, rfl, l40, c40, C8.fnScope_by L72.c40, L72.k40, rfl⟩
    · cases hw
      exact ⟨_, _, _, _, _, n41, _, _, _, _, _, _, _, _, _, _, rfl, l41, c41, C8.fnScope_by L72.c41, L72.k41, rfl⟩
    · cases hw
      exact ⟨_, _, _, _, _, n42, _, _, _, _, _, _, _, _, _, _, rfl, l42, c42, C8.fnScope_by L72.c42, L72.k42, rfl⟩
    · cases hw
      exact ⟨_, _, _, _, _, n43, _, _, _, _, _, _, _, _, _, _, rfl, l43, c43, C8.fnScope_by L72.c43, L72.k43, rfl⟩
    · cases hw
      exact ⟨_, _, _, _, _, n45, _, _, _, _, _, _, _, _, _, _, rfl, l45, c45, C8.fnScope_by L72.c45, L72.k45, rfl⟩
    · cases hw
      exact ⟨_, _, _, _, _, n48, _, _, _, _, _, _, _, _, _, _, rfl, l48, c48, C8.fnScope_by L72.c48, L72.k48, rfl⟩
    · cases hw
      exact ⟨_, _, _, _, _, n49, _, _, _, _, _, _, _, _, _, _, rfl, l49, c49, C8.fnScope_by L72.c49, L72.k49, rfl⟩
    · cases hw
      exact ⟨_, _, _, _, _, n51, _, _, _, _, _, _, _, _, _, _, rfl, l51, c51, C8.fnScope_by L72.c51, L72.k51, rfl⟩
    · cases hw
      exact ⟨_, _, _, _, _, n53, _, _, _, _, _, _, _, _, _, _, rfl, l53, c53, C8.fnScope_by L72.c53, L72.k53, rfl⟩
    · cases hw
      exact ⟨_, _, _, _, _, n54, _, _, _, _, _, _, _, _, _, _, rfl, l54, c54, C8.fnScope_by L72.c54, L72.k54, rfl⟩
    · cases hw
      exact ⟨_, _, _, _, _, n55, _, _, _, _, _, _, _, _, _, _, rfl, l55, c55, C8.fnScope_by L72.c55, L72.k55, rfl⟩
    · cases hw
      exact ⟨_, _, _, _, _, n56, _, _, _, _, _, _, _, _, _, _, rfl, l56, c56, C8.fnScope_by L72.c56, L72.k56, rfl⟩
    · cases hw
      exact ⟨_, _, _, _, _, n59, _, _, _, _, _, _, _, _, _, _, rfl, l59, c59, C8.fnScope_by L72.c59, L72.k59, rfl⟩
    · cases hw
      exact ⟨_, _, _, _, _, n60, _, _, _, _, _, _, _, _, _, _, rfl, l60, c60, C8.fnScope_by L72.c60, L72.k60, rfl⟩
    · cases hw
      exact ⟨_, _, _, _, _, n61, _, _, _, _, _, _, _, _, _, _, rfl, l61, c61, C8.fnScope_by L72.c61, L72.k61, rfl⟩
    · cases hw
      exact ⟨_, _, _, _, _, n62, _, _, _, _, _, _, _, _, _, _, rfl, l62, c62, C8.fnScope_by L72.c62, L72.k62, rfl⟩
    · cases hw
end L72

open PySem PySem.W PyProof.Rows in
set_option maxRecDepth 100000 in
set_option maxHeartbeats 0 in
theorem PySem.Challenge.cw_pilereach_k72_situations_that_follow_holds : PySem.Challenge.rw_pilereach_k72_situations_that_follow.Holds := by
  w_on; o_law; k_head; (case hw => w_witness2)
  k_fill
  refine Eng.law_walkT (l := PySem.Challenge.rw_pilereach_k72_situations_that_follow) (P := L72.pg) (f := 59) (k := 99) (x := PySem.Str.ofString "_law_script") rfl rfl (by decide) (fun w h Y => PySem.W.kIn_of Y) (fun ns _ => L72.hrun ns) ?F
  case F =>
    intro w mg fa h KX G hmg
    refine' L72.all_mk KX G hmg ?aC0 ?aC1 ?aC4 ?aC6 ?aC7 ?a59 ?l59 ?c59 ?k59 ?a1 ?l1 ?c1 ?k1 ?a2 ?l2 ?c2 ?k2 ?a60 ?l60 ?c60 ?k60 ?a3 ?i3 ?l3 ?c3 ?k3 ?a45 ?l45 ?c45 ?k45 ?a5 ?l5 ?c5 ?k5 ?a61 ?l61 ?c61 ?k61 ?a51 ?l51 ?c51 ?k51 ?a62 ?l62 ?c62 ?k62 ?a11 ?l11 ?c11 ?k11 ?a12 ?l12 ?c12 ?k12 ?a13 ?i13 ?l13 ?c13 ?k13 ?a14 ?i14 ?l14 ?c14 ?k14 ?a48 ?l48 ?c48 ?k48 ?a49 ?l49 ?c49 ?k49 ?a19 ?i19 ?l19 ?c19 ?k19 ?a20 ?l20 ?c20 ?k20 ?a21 ?i21 ?l21 ?c21 ?k21 ?a54 ?l54 ?c54 ?k54 ?a55 ?l55 ?c55 ?k55 ?a56 ?l56 ?c56 ?k56 ?a25 ?i25 ?l25 ?c25 ?k25 ?a27 ?l27 ?c27 ?k27 ?a28 ?i28 ?l28 ?c28 ?k28 ?a29 ?l29 ?c29 ?k29 ?a53 ?l53 ?c53 ?k53 ?a32 ?i32 ?l32 ?c32 ?k32 ?a34 ?i34 ?l34 ?c34 ?k34 ?a35 ?l35 ?c35 ?k35 ?a36 ?l36 ?c36 ?k36 ?a37 ?i37 ?l37 ?c37 ?k37 ?a38 ?i38 ?l38 ?c38 ?k38 ?a39 ?i39 ?l39 ?c39 ?k39 ?a40 ?i40 ?l40 ?c40 ?k40 ?a41 ?i41 ?l41 ?c41 ?k41 ?a42 ?l42 ?c42 ?k42 ?a43 ?l43 ?c43 ?k43 ?pg0 ?hd0 ?po0 ?sa0 ?mk0 ?kc0 ?n0_1 ?n0_2 ?pg1 ?hd1 ?po1 ?sa1 ?mk1 ?kc1 ?n1_10 ?n1_13 ?pg4 ?hd4 ?po4 ?sa4 ?mk4 ?kc4 ?n4_15 ?n4_18 ?pg6 ?hd6 ?po6 ?sa6 ?mk6 ?kc6 ?n6_19 ?n6_23 ?pg7 ?hd7 ?po7 ?sa7 ?mk7 ?kc7 ?n7_20 ?n7_26 ?n7_23 ?n7_29 ?z_len ?z_int ?z_tuple ?z_list ?z_sum ?z_all ?z_any ?z_min ?z_max ?z_abs ?z_dict ?z_isinstance ?z_range ?z_enumerate ?z_reversed ?z_zip ?z_bool ?z_repr ?g40
    (case aC0 => k_is)
    (case aC1 => k_is)
    (case aC4 => k_is)
    (case aC6 => k_is)
    (case aC7 => k_is)
    (case a59 => k_is)
    (case l59 => k_is)
    (case c59 => k_is)
    (case k59 => k_is)
    (case a1 => k_is)
    (case l1 => k_is)
    (case c1 => k_is)
    (case k1 => k_is)
    (case a2 => k_is)
    (case l2 => k_is)
    (case c2 => k_is)
    (case k2 => k_is)
    (case a60 => k_is)
    (case l60 => k_is)
    (case c60 => k_is)
    (case k60 => k_is)
    (case a3 => k_is)
    (case i3 => k_is)
    (case l3 => k_is)
    (case c3 => k_is)
    (case k3 => k_is)
    (case a45 => k_is)
    (case l45 => k_is)
    (case c45 => k_is)
    (case k45 => k_is)
    (case a5 => k_is)
    (case l5 => k_is)
    (case c5 => k_is)
    (case k5 => k_is)
    (case a61 => k_is)
    (case l61 => k_is)
    (case c61 => k_is)
    (case k61 => k_is)
    (case a51 => k_is)
    (case l51 => k_is)
    (case c51 => k_is)
    (case k51 => k_is)
    (case a62 => k_is)
    (case l62 => k_is)
    (case c62 => k_is)
    (case k62 => k_is)
    (case a11 => k_is)
    (case l11 => k_is)
    (case c11 => k_is)
    (case k11 => k_is)
    (case a12 => k_is)
    (case l12 => k_is)
    (case c12 => k_is)
    (case k12 => k_is)
    (case a13 => k_is)
    (case i13 => k_is)
    (case l13 => k_is)
    (case c13 => k_is)
    (case k13 => k_is)
    (case a14 => k_is)
    (case i14 => k_is)
    (case l14 => k_is)
    (case c14 => k_is)
    (case k14 => k_is)
    (case a48 => k_is)
    (case l48 => k_is)
    (case c48 => k_is)
    (case k48 => k_is)
    (case a49 => k_is)
    (case l49 => k_is)
    (case c49 => k_is)
    (case k49 => k_is)
    (case a19 => k_is)
    (case i19 => k_is)
    (case l19 => k_is)
    (case c19 => k_is)
    (case k19 => k_is)
    (case a20 => k_is)
    (case l20 => k_is)
    (case c20 => k_is)
    (case k20 => k_is)
    (case a21 => k_is)
    (case i21 => k_is)
    (case l21 => k_is)
    (case c21 => k_is)
    (case k21 => k_is)
    (case a54 => k_is)
    (case l54 => k_is)
    (case c54 => k_is)
    (case k54 => k_is)
    (case a55 => k_is)
    (case l55 => k_is)
    (case c55 => k_is)
    (case k55 => k_is)
    (case a56 => k_is)
    (case l56 => k_is)
    (case c56 => k_is)
    (case k56 => k_is)
    (case a25 => k_is)
    (case i25 => k_is)
    (case l25 => k_is)
    (case c25 => k_is)
    (case k25 => k_is)
    (case a27 => k_is)
    (case l27 => k_is)
    (case c27 => k_is)
    (case k27 => k_is)
    (case a28 => k_is)
    (case i28 => k_is)
    (case l28 => k_is)
    (case c28 => k_is)
    (case k28 => k_is)
    (case a29 => k_is)
    (case l29 => k_is)
    (case c29 => k_is)
    (case k29 => k_is)
    (case a53 => k_is)
    (case l53 => k_is)
    (case c53 => k_is)
    (case k53 => k_is)
    (case a32 => k_is)
    (case i32 => k_is)
    (case l32 => k_is)
    (case c32 => k_is)
    (case k32 => k_is)
    (case a34 => k_is)
    (case i34 => k_is)
    (case l34 => k_is)
    (case c34 => k_is)
    (case k34 => k_is)
    (case a35 => k_is)
    (case l35 => k_is)
    (case c35 => k_is)
    (case k35 => k_is)
    (case a36 => k_is)
    (case l36 => k_is)
    (case c36 => k_is)
    (case k36 => k_is)
    (case a37 => k_is)
    (case i37 => k_is)
    (case l37 => k_is)
    (case c37 => k_is)
    (case k37 => k_is)
    (case a38 => k_is)
    (case i38 => k_is)
    (case l38 => k_is)
    (case c38 => k_is)
    (case k38 => k_is)
    (case a39 => k_is)
    (case i39 => k_is)
    (case l39 => k_is)
    (case c39 => k_is)
    (case k39 => k_is)
    (case a40 => k_is)
    (case i40 => k_is)
    (case l40 => k_is)
    (case c40 => k_is)
    (case k40 => k_is)
    (case a41 => k_is)
    (case i41 => k_is)
    (case l41 => k_is)
    (case c41 => k_is)
    (case k41 => k_is)
    (case a42 => k_is)
    (case l42 => k_is)
    (case c42 => k_is)
    (case k42 => k_is)
    (case a43 => k_is)
    (case l43 => k_is)
    (case c43 => k_is)
    (case k43 => k_is)
    (case pg0 => k_is)
    (case hd0 => k_is)
    (case po0 => k_is)
    (case sa0 => k_is)
    (case mk0 => k_is)
    (case kc0 => k_is)
    (case n0_1 => k_is)
    (case n0_2 => k_is)
    (case pg1 => k_is)
    (case hd1 => k_is)
    (case po1 => k_is)
    (case sa1 => k_is)
    (case mk1 => k_is)
    (case kc1 => k_is)
    (case n1_10 => k_is)
    (case n1_13 => k_is)
    (case pg4 => k_is)
    (case hd4 => k_is)
    (case po4 => k_is)
    (case sa4 => k_is)
    (case mk4 => k_is)
    (case kc4 => k_is)
    (case n4_15 => k_is)
    (case n4_18 => k_is)
    (case pg6 => k_is)
    (case hd6 => k_is)
    (case po6 => k_is)
    (case sa6 => k_is)
    (case mk6 => k_is)
    (case kc6 => k_is)
    (case n6_19 => k_is)
    (case n6_23 => k_is)
    (case pg7 => k_is)
    (case hd7 => k_is)
    (case po7 => k_is)
    (case sa7 => k_is)
    (case mk7 => k_is)
    (case kc7 => k_is)
    (case n7_20 => k_is)
    (case n7_26 => k_is)
    (case n7_23 => k_is)
    (case n7_29 => k_is)
    (case z_len => k_is)
    (case z_int => k_is)
    (case z_tuple => k_is)
    (case z_list => k_is)
    (case z_sum => k_is)
    (case z_all => k_is)
    (case z_any => k_is)
    (case z_min => k_is)
    (case z_max => k_is)
    (case z_abs => k_is)
    (case z_dict => k_is)
    (case z_isinstance => k_is)
    (case z_range => k_is)
    (case z_enumerate => k_is)
    (case z_reversed => k_is)
    (case z_zip => k_is)
    (case z_bool => k_is)
    (case z_repr => k_is)
    (case g40 => k_is)
