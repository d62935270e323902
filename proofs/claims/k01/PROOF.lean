import PyProof.Rows.All
import Wide.All
import OpenK.AllK
import Wide.FinOn
import HandS.ForMost
import HandS.Deep
import HandS.Style
import HandS.Conv
import HandS.ExcOwn
import HandS.CallSlots
import HandS.Wide
import HandS.WideBits
import HandS.Defaults
import HandS.Lambda
import HandS.Nested
import HandS.IsInst
import HandS.WordsExc
import HandS.HeadEnd
import HandS.HeadHook1
import HandS.HeadHook2
import HandS.HeadHook3
import HandS.HeadHook4
import HandS.EndTab
import HandS.HeadWalk
import HandS.Head0
import HandS.Head1
import HandS.Head2
import PySem.Challenge.RW_risingfits_k01_fractions_of_fits
set_option Elab.async false
set_option linter.all false
set_option maxRecDepth 100000
set_option maxHeartbeats 0
/-! RFa: values, the little language, its evaluator. -/
namespace RF
open PySem
/-! ### values -/
inductive D where
  | non | bl (b : Bool) | int (i : Int) | str (s : Str)
  | lst (ds : List D) | tup (ds : List D)
  | scr (ns : List Int)
  | fn (f : Nat)
  | obj (c : Nat) (ds : List D)
  | exc (c : Nat) (ds : List D)
  | clo (k : Nat) (ds : List D)
  deriving Inhabited
/-- a value of which some lists are owned -/
inductive O where
  | z (d : D) | l (os : List O) | t (os : List O)
  deriving Inhabited
mutual
def O.toD : O → D
  | .z d => d
  | .l os => .lst (O.toDs os)
  | .t os => .tup (O.toDs os)
def O.toDs : List O → List D
  | [] => []
  | o :: os => o.toD :: O.toDs os
end
theorem O.toDs_map : ∀ os : List O, O.toDs os = os.map O.toD
  | [] => by simp [O.toDs]
  | o :: os => by simp [O.toDs, O.toDs_map os]
mutual
/-- no list within -/
def D.lf : D → Bool
  | .lst _ => false
  | .obj _ _ => false
  | .exc _ _ => false
  | .clo _ _ => false
  | .scr _ => false
  | .tup ds => D.lfs ds
  | _ => true
def D.lfs : List D → Bool
  | [] => true
  | d :: ds => d.lf && D.lfs ds
end
theorem D.lfs_all : ∀ ds : List D, D.lfs ds = ds.all D.lf
  | [] => by simp [D.lfs]
  | d :: ds => by simp [D.lfs, D.lfs_all ds]
mutual
/-- what may be shared with others is no list -/
def O.clean : O → Bool
  | .z d => d.lf
  | .l os => O.cleans os
  | .t os => O.cleans os
def O.cleans : List O → Bool
  | [] => true
  | o :: os => o.clean && O.cleans os
end
theorem O.cleans_all : ∀ os : List O, O.cleans os = os.all O.clean
  | [] => by simp [O.cleans]
  | o :: os => by simp [O.cleans, O.cleans_all os]
mutual
def D.py : D → PyData
  | .non => .none
  | .bl b => .bool b
  | .int i => .int i
  | .str s => .str s
  | .lst ds => .list (D.pys ds)
  | .tup ds => .tuple (D.pys ds)
  | .scr _ => .dict []
  | .fn _ => .dict []
  | .obj _ _ => .dict []
  | .exc _ _ => .dict []
  | .clo _ _ => .dict []
def D.pys : List D → List PyData
  | [] => []
  | d :: ds => d.py :: D.pys ds
end
theorem D.pys_map : ∀ ds : List D, D.pys ds = ds.map D.py
  | [] => by simp [D.pys]
  | d :: ds => by simp [D.pys, D.pys_map ds]
/-- data of a depth of at most n -/
def D.ok : Nat → D → Bool
  | _, .non => true
  | _, .bl _ => true
  | _, .int _ => true
  | _, .str x => PyData.strOk x
  | n + 1, .lst ds => ds.all (D.ok n)
  | n + 1, .tup ds => ds.all (D.ok n)
  | _, _ => false
def D.eqv (a b : D) : Bool := PyData.eqv a.py b.py
/-! ### the language -/
inductive Bop where | add | sub | mul | fdiv | mod | pow
  deriving DecidableEq, Repr
inductive Cop where | eq | ne | lt | le | gt | ge | mem | nmem | is | isn
  deriving DecidableEq, Repr
inductive Ty where | int | bool | str | list | tuple | lt
  deriving DecidableEq, Repr
inductive Blt where | len | abs | sum | max1 | min1 | max2 | min2 | int | list | tuple | sorted | all | str | repr
  deriving DecidableEq, Repr
inductive Tg where
  | nm (i : Nat) | tp (is : List Nat)
  deriving DecidableEq, Repr
mutual
inductive X where
  | v (i : Nat)
  | non | tt (b : Bool) | n (i : Int) | s (x : Str)
  | g (f : Nat) | gk (j : Nat) (i : Int) | lam (f : Nat) (is : List Nat)
  | tup (es : Xs) | lst (es : Xs)
  | bin (o : Bop) (a b : X)
  | neg (a : X)
  | cmp (o : Cop) (a b : X)
  | cmp2 (o p : Cop) (a b c : X)
  | and (es : Xs) | or (es : Xs) | not (a : X)
  | ite (c a b : X)
  | ix (a i : X)
  | sl (a : X) (lo hi : Xo)
  | rev (a : X)
  | call (p : Bool) (f : Nat) (es : Xs)
  | callk (f : Nat) (es ks : Xs) (perm : List Nat)
  | callv (i : Nat) (es : Xs)
  | blt (b : Blt) (es : Xs)
  | lrange (it : It)
  | isi (t : Ty) (a : X)
  | bits (a : X)
  | comp (elt : X) (t : Tg) (it : It) (c : Xo) (own : List Nat)
  | pop (i : Nat) | popAt (i : Nat) (k : X)
inductive Xs where
  | nil | cons (e : X) (es : Xs)
inductive Xo where
  | none | some (e : X)
inductive It where
  | seq (a : X) | rng1 (a : X) | rng2 (a b : X) | rng3 (a b c : X) | enum (a : X)
end
mutual
inductive S where
  | set (i : Nat) (e : X)
  | asg (is : List Nat) (e : X)
  | par (is : List Nat) (es : Xs)
  | sto (i : Nat) (k e : X)
  | app (i : Nat) (e : X)
  | expr (e : X)
  | ret (e : X) | ret0
  | ite (c : X) (a b : Ss)
  | for (t : Tg) (it : It) (b : Ss)
  | whl (c : X) (b : Ss)
  | pass
inductive Ss where
  | nil | cons (s : S) (r : Ss)
end
/-! ### results -/
abbrev Env := List (Option O)
inductive R (α : Type) where
  | ok (a : α) (env : Env) | ex (c : Nat) (ds : List D) | no
  deriving Inhabited
def R.bind {α β : Type} (r : R α) (f : α → Env → R β) : R β := match r with
  | .ok a env => f a env
  | .ex c ds => .ex c ds
  | .no => .no
/-- no exception leaves -/
def R.nox {α : Type} : R α → R α
  | .ok a env => .ok a env
  | _ => .no
@[simp] theorem R.nox_ok {α : Type} (a : α) (env : Env) : (R.ok a env).nox = .ok a env := rfl
@[simp] theorem R.bind_ok {α β : Type} (a : α) (env : Env) (f : α → Env → R β) : (R.ok a env).bind f = f a env := rfl
@[simp] theorem R.bind_ex {α β : Type} (c : Nat) (ds : List D) (f : α → Env → R β) : (R.ex c ds).bind f = .ex c ds := rfl
@[simp] theorem R.bind_no {α β : Type} (f : α → Env → R β) : (R.no).bind f = .no := rfl
/-- a call's end -/
inductive CR where
  | rt (o : O) (outs : List O) | ex (c : Nat) (ds : List D) | no
  deriving Inhabited
inductive Out where
  | nx (env : Env) | rt (o : O) (env : Env) | ex (c : Nat) (ds : List D) | no
  deriving Inhabited
structure Cfg where
  call : Nat → List O → CR
  sig : Nat → List Bool
/-! ### operators -/
def mulOk (i j : Int) : Bool := decide (i.natAbs.log2 + j.natAbs.log2 < 1000000)
def divOk (j : Int) : Bool := decide (j ≠ 0) && decide (j.natAbs.log2 < 9000)
def powOk (i j : Int) : Bool := decide (0 ≤ j) && decide (i.natAbs.log2 + 1 ≤ 3000) && decide (j ≤ 3000)
def lenOk {α : Type} (xs : List α) : Bool := decide (xs.length < 2 ^ 20)
def binop : Bop → D → D → Option O
  | .add, .int i, .int j => some (.z (.int (i + j)))
  | .add, .lst xs, .lst ys => if lenOk xs && lenOk ys then some (.l ((xs ++ ys).map .z)) else none
  | .sub, .int i, .int j => some (.z (.int (i - j)))
  | .mul, .int i, .int j => if mulOk i j then some (.z (.int (i * j))) else none
  | .mul, .lst xs, .int k => if decide (xs.length < 1024) && decide (k < 1024) && decide (-1024 < k) then some (.l ((List.replicate k.toNat xs).flatten.map .z)) else none
  | .fdiv, .int i, .int j => if divOk j then some (.z (.int (i.fdiv j))) else none
  | .mod, .int i, .int j => if decide (j ≠ 0) then some (.z (.int (i.fmod j))) else none
  | .pow, .int i, .int j => if powOk i j then some (.z (.int (i ^ j.toNat))) else none
  | _, _, _ => none
def ints? : List D → Option (List Int)
  | [] => some []
  | .int i :: ds => (ints? ds).map (i :: ·)
  | _ => none
def bls? : List D → Option (List Bool)
  | [] => some []
  | .bl i :: ds => (bls? ds).map (i :: ·)
  | _ => none
/-- tuples of ints as lists of ints -/
def tupInts? : D → Option (List Int)
  | .tup ds => ints? ds
  | _ => none
def D.isNon : D → Bool
  | .non => true
  | _ => false
def D.isBl (b : Bool) : D → Bool
  | .bl c => b == c
  | _ => false
def cmpop : Cop → D → D → Option Bool
  | .eq, a, b => if a.ok 60 && b.ok 60 then some (D.eqv a b) else none
  | .ne, a, b => if a.ok 60 && b.ok 60 then some (!D.eqv a b) else none
  | .lt, .int i, .int j => some (decide (i < j))
  | .lt, a, b => (tupInts? a).bind fun x => (tupInts? b).map fun y => HT.lexLt x y
  | .le, .int i, .int j => some (decide (i ≤ j))
  | .gt, .int i, .int j => some (decide (j < i))
  | .ge, .int i, .int j => some (decide (j ≤ i))
  | .mem, a, .lst ds => if a.ok 60 && (D.lst ds).ok 60 then some (ds.any fun z => D.eqv z a) else none
  | .nmem, a, .lst ds => if a.ok 60 && (D.lst ds).ok 60 then some (!ds.any fun z => D.eqv z a) else none
  | .is, a, .non => some a.isNon
  | .is, a, .bl b => some (a.isBl b)
  | .isn, a, .non => some (!a.isNon)
  | .isn, a, .bl b => some (!a.isBl b)
  | _, _, _ => none
def isiV : Ty → D → Option Bool
  | _, .fn _ => none
  | _, .obj _ _ => none
  | _, .exc _ _ => none
  | _, .clo _ _ => none
  | _, .scr _ => none
  | .int, .int _ => some true
  | .int, .bl _ => some true
  | .int, _ => some false
  | .bool, .bl _ => some true
  | .bool, _ => some false
  | .str, .str _ => some true
  | .str, _ => some false
  | .list, .lst _ => some true
  | .list, _ => some false
  | .tuple, .tup _ => some true
  | .tuple, _ => some false
  | .lt, .lst _ => some true
  | .lt, .tup _ => some true
  | .lt, _ => some false
def bltV : Blt → List D → Option O
  | .len, [.lst ds] => some (.z (.int ds.length))
  | .len, [.tup ds] => some (.z (.int ds.length))
  | .len, [.scr ds] => some (.z (.int ds.length))
  | .abs, [.int i] => some (.z (.int (if i < 0 then -i else i)))
  | .sum, [.lst ds] => (ints? ds).map fun ns => .z (.int ns.sum)
  | .max2, [.int i, .int j] => some (.z (.int (if j > i then j else i)))
  | .min2, [.int i, .int j] => some (.z (.int (if j < i then j else i)))
  | .max1, [.lst ds] => (ints? ds).bind fun ns => (ns.max?).map fun m => .z (.int m)
  | .min1, [.lst ds] => (ints? ds).bind fun ns => (ns.min?).map fun m => .z (.int m)
  | .int, [.int i] => some (.z (.int i))
  | .int, [.bl k] => some (.z (.int (if k then 1 else 0)))
  | .list, [.lst ds] => some (.l (ds.map .z))
  | .list, [.tup ds] => some (.l (ds.map .z))
  | .tuple, [.lst ds] => some (.z (.tup ds))
  | .all, [.lst ds] => (bls? ds).map fun bs => .z (.bl (bs.all id))
  | _, _ => none
/-- the whole numbers from lo on, n of them, by st -/
def rangeL (lo st : Int) : Nat → List D
  | 0 => []
  | n + 1 => .int lo :: rangeL (lo + st) st n
def rngOk (i : Int) : Bool := decide (-(2 ^ 40) < i) && decide (i < 2 ^ 40)
def enumL (k : Nat) : List D → List D
  | [] => []
  | d :: ds => .tup [.int k, d] :: enumL (k + 1) ds
/-- the items of a slice -/
def cutL {α : Type} (xs : List α) (lo hi : Option Int) : List α := (xs.drop (HT.sIx xs.length 0 lo)).take (HT.sIx xs.length xs.length hi - HT.sIx xs.length 0 lo)
/-! ### environments -/
def getE (env : Env) (i : Nat) : Option O := (env[i]?).join
def frz (o : O) : O := .z o.toD
/-- the slots is of new as in old -/
def restore (old new : Env) : List Nat → Env
  | [] => new
  | i :: is => (restore old new is).set i ((old[i]?).join)
def wipeE (env : Env) : List Nat → Env
  | [] => env
  | i :: is => (wipeE env is).set i none
def setAll (env : Env) : List Nat → List O → Option Env
  | [], [] => some env
  | i :: is, o :: os => setAll (env.set i (some o)) is os
  | _, _ => none
/-- items that a target of several names takes -/
def items? : O → Option (List O)
  | .z (.tup ds) => some (ds.map .z)
  | .t os => some os
  | _ => none
def tgE (t : Tg) (o : O) (env : Env) : Option Env := match t with
  | .nm i => some (env.set i (some o))
  | .tp is => (items? o).bind fun os => setAll env is os
def owned? : O → Option (List O)
  | .l os => some os
  | _ => none
/-- what a lambda keeps of its maker's slots -/
def caps? (env : Env) : List Nat → Option (List D)
  | [] => some []
  | i :: is => match getE env i with
    | some (.z d) => (caps? env is).map (d :: ·)
    | _ => none
def intD : D → Option Int
  | .int i => some i
  | _ => none
def ofOpt {α : Type} (o : Option α) (env : Env) : R α := match o with
  | some a => .ok a env
  | none => .no
@[simp] theorem ofOpt_some {α : Type} (a : α) (env : Env) : ofOpt (some a) env = .ok a env := rfl
@[simp] theorem ofOpt_none {α : Type} (env : Env) : ofOpt (none : Option α) env = .no := rfl
def O.isZ : O → Bool
  | .z _ => true
  | _ => false
/-- an argument: a value, or the owned list of a slot -/
inductive Ar where
  | val (d : D) | ref (i : Nat)
  deriving Inhabited
def Ar.slots : List Ar → List Nat
  | [] => []
  | .val _ :: r => Ar.slots r
  | .ref i :: r => i :: Ar.slots r
def Ar.fetch (env : Env) : List Ar → Option (List O)
  | [] => some []
  | .val d :: r => (Ar.fetch env r).map (.z d :: ·)
  | .ref i :: r => match getE env i with
    | some (.l os) => if os.all O.isZ then (Ar.fetch env r).map (.l os :: ·) else none
    | _ => none
def Ar.isRef : Ar → Bool
  | .val _ => false
  | .ref _ => true
/-- behind a call -/
def back0 (p : Bool) (old new : Env) : CR → R O
  | .rt o [] => if p && o.clean then .ok o old else .ok o new
  | .rt _ _ => .no
  | .ex c ds => .ex c ds
  | .no => .no
def back1 (new : Env) (i : Nat) : CR → R O
  | .rt o [.l us] => .ok o (new.set i (some (.l us)))
  | .rt _ _ => .no
  | .ex c ds => .ex c ds
  | .no => .no
def doCall (C : Cfg) (p : Bool) (f : Nat) (old new : Env) (as : List Ar) : R O :=
  if as.map Ar.isRef = C.sig f then
    match Ar.fetch new as with
    | some os => match Ar.slots as with
      | [] => back0 p old new (C.call f os)
      | [i] => if p then .no else back1 new i (C.call f os)
      | _ => .no
    | none => .no
  else .no
/-- the values in the parameters' order -/
def permA (os us : List O) (perm : List Nat) : List Ar := perm.map fun j => .val ((os ++ us).getD j (.z .non)).toD
/-! ### the evaluator -/
/-! nothing that stood there is changed -/
mutual
def pureX : X → Bool
  | .tup es => pureXs es
  | .lst es => pureXs es
  | .bin _ a b => pureX a && pureX b
  | .neg a => pureX a
  | .cmp _ a b => pureX a && pureX b
  | .cmp2 _ _ a b c => pureX a && pureX b && pureX c
  | .and es => pureXs es
  | .or es => pureXs es
  | .not a => pureX a
  | .ite c a b => pureX c && pureX a && pureX b
  | .ix a i => pureX a && pureX i
  | .sl a lo hi => pureX a && pureXo lo && pureXo hi
  | .rev a => pureX a
  | .call p _ es => p && pureXs es
  | .callk _ es ks _ => pureXs es && pureXs ks
  | .callv _ es => pureXs es
  | .blt _ es => pureXs es
  | .lrange it => pureIt it
  | .isi _ a => pureX a
  | .bits a => pureX a
  | .comp elt _ it c _ => pureX elt && pureIt it && pureXo c
  | .pop _ => false
  | .popAt _ _ => false
  | .lam _ _ => false
  | _ => true
def pureXs : Xs → Bool
  | .nil => true
  | .cons e es => pureX e && pureXs es
def pureXo : Xo → Bool
  | .none => true
  | .some e => pureX e
def pureIt : It → Bool
  | .seq a => pureX a
  | .rng1 a => pureX a
  | .rng2 a b => pureX a && pureX b
  | .rng3 a b c => pureX a && pureX b && pureX c
  | .enum a => pureX a
end
def O.flat : O → Bool
  | .z _ => true
  | .l os => os.all O.isZ
  | .t os => os.all O.isZ
/-- a value that is only looked at; pu: nothing is changed before it is used -/
def viewE (pu : Bool) (a : X) (r : R O) (env : Env) : R D := match a with
  | .v i => match getE env i with
    | some (.z d) => .ok d env
    | some o => if pu && o.flat then .ok o.toD env else r.bind fun o env1 => .ok o.toD env1
    | none => .no
  | _ => r.bind fun o env1 => .ok o.toD env1
def evalComp (elt : Env → R O) (t : Tg) (cond : Env → R O) (own : List Nat) : List D → Env → List O → R (List O)
  | [], env, acc => .ok acc env
  | d :: ds, env, acc => match tgE t (.z d) env with
    | some env1 => (cond env1).nox.bind fun x env2 => match x with
      | .z (.bl true) => if lenOk acc then (elt env2).nox.bind fun o env3 => evalComp elt t cond own ds (wipeE env3 own) (acc ++ [o]) else .no
      | .z (.bl false) => evalComp elt t cond own ds (wipeE env2 own) acc
      | _ => .no
    | none => .no
mutual
def evalE (C : Cfg) : X → Env → R O
  | .v i, env => match getE env i with
    | some (.z d) => .ok (.z d) env
    | some o => .ok (frz o) (env.set i (some (frz o)))
    | none => .no
  | .non, env => .ok (.z .non) env
  | .tt b, env => .ok (.z (.bl b)) env
  | .n i, env => .ok (.z (.int i)) env
  | .s x, env => .ok (.z (.str x)) env
  | .g f, env => .ok (.z (.fn f)) env
  | .gk _ i, env => .ok (.z (.int i)) env
  | .lam f is, env => ofOpt ((caps? env is).map fun ds => .z (.clo f ds)) env
  | .tup es, env => (evalEs C es env).bind fun os env1 => .ok (if os.all O.isZ then .z (.tup (O.toDs os)) else .t os) env1
  | .lst es, env => (evalEs C es env).bind fun os env1 => .ok (.l os) env1
  | .bin o a b, env => (viewE (pureX b) a (evalE C a env) env).bind fun x env1 => (viewE true b (evalE C b env1) env1).bind fun y env2 => ofOpt (binop o x y) env2
  | .neg a, env => (evalE C a env).bind fun x env1 => match x with
    | .z (.int i) => .ok (.z (.int (-i))) env1
    | _ => .no
  | .cmp o a b, env => (viewE (pureX b) a (evalE C a env) env).bind fun x env1 => (viewE true b (evalE C b env1) env1).bind fun y env2 => ofOpt ((cmpop o x y).map fun b => .z (.bl b)) env2
  | .cmp2 o p a b c, env => (viewE (pureX b) a (evalE C a env) env).bind fun x env1 => (viewE (pureX c) b (evalE C b env1) env1).bind fun y env2 => match cmpop o x y with
    | some false => .ok (.z (.bl false)) env2
    | some true => (viewE true c (evalE C c env2) env2).bind fun w env3 => ofOpt ((cmpop p y w).map fun b => .z (.bl b)) env3
    | none => .no
  | .and es, env => evalAnd C es env
  | .or es, env => evalOr C es env
  | .not a, env => (evalE C a env).bind fun x env1 => match x with
    | .z (.bl b) => .ok (.z (.bl (!b))) env1
    | _ => .no
  | .ite c a b, env => (evalE C c env).bind fun x env1 => match x with
    | .z (.bl true) => evalE C a env1
    | .z (.bl false) => evalE C b env1
    | _ => .no
  | .ix a i, env => (viewE (pureX i) a (evalE C a env) env).bind fun x env1 => (evalE C i env1).bind fun k env2 => match x, k with
    | .lst ds, .z (.int j) => ofOpt ((L2.atI ds j).map .z) env2
    | .tup ds, .z (.int j) => ofOpt ((L2.atI ds j).map .z) env2
    | .scr ns, .z (.int j) => ofOpt ((L2.atI ns j).map fun n => .z (.int n)) env2
    | _, _ => .no
  | .sl a lo hi, env => (viewE (pureXo lo && pureXo hi) a (evalE C a env) env).bind fun x env1 => (evalPart C lo env1).bind fun l env2 => (evalPart C hi env2).bind fun h env3 => match x with
    | .lst ds => .ok (.l ((cutL ds l h).map .z)) env3
    | .scr ns => .ok (.l ((cutL ns l h).map fun n => .z (.int n))) env3
    | _ => .no
  | .rev a, env => (viewE true a (evalE C a env) env).bind fun x env1 => match x with
    | .lst ds => .ok (.l (ds.reverse.map .z)) env1
    | _ => .no
  | .call p f es, env => (evalArgs C es (C.sig f) env).bind fun as env1 => doCall C p f env env1 as
  | .callk f es ks perm, env => (evalEs C es env).bind fun os env1 => (evalEs C ks env1).bind fun us env2 =>
      doCall C true f env env2 (permA os us perm)
  | .callv i es, env => match getE env i with
    | some (.z (.fn f)) => (evalArgs C es (C.sig f) env).bind fun as env1 => doCall C true f env env1 as
    | some (.z (.clo f ds)) => (evalArgs C es ((C.sig f).drop ds.length) env).bind fun as env1 => doCall C true f env env1 (ds.map .val ++ as)
    | _ => .no
  | .blt b es, env => (evalVs C es env).bind fun ds env1 => ofOpt (bltV b ds) env1
  | .lrange it, env => (evalIt C it env).bind fun ds env1 => if lenOk ds then .ok (.l (ds.map .z)) env1 else .no
  | .isi t a, env => (viewE true a (evalE C a env) env).bind fun x env1 => ofOpt ((isiV t x).map fun b => .z (.bl b)) env1
  | .bits a, env => (evalE C a env).bind fun x env1 => match x with
    | .z (.int i) => .ok (.z (.int (Builtin.Int.intBits i))) env1
    | _ => .no
  | .comp elt t it c own, env => (evalIt C it env).bind fun ds env1 =>
      (evalComp (fun e => evalE C elt e) t (fun e => evalCond C c e) own ds (wipeE env1 own) []).bind fun os env2 =>
        .ok (.l os) (if (pureX elt && pureIt it && pureXo c) && O.cleans os then env else restore env1 env2 own)
  | .pop i, env => match getE env i with
    | some (.l os) => match os[os.length - 1]? with
      | some o => .ok o (env.set i (some (.l os.dropLast)))
      | none => .no
    | _ => .no
  | .popAt i k, env => match getE env i with
    | some (.l _) => (evalE C k env).bind fun x env1 => match x, getE env1 i with
      | .z (.int j), some (.l os) => match (if lenOk os then L2.ixN os.length j else none) with
        | some q => match os[q]? with
          | some o => .ok o (env1.set i (some (.l (os.eraseIdx q))))
          | none => .no
        | none => .no
      | _, _ => .no
    | _ => .no
def evalEs (C : Cfg) : Xs → Env → R (List O)
  | .nil, env => .ok [] env
  | .cons e es, env => (evalE C e env).bind fun o env1 => (evalEs C es env1).bind fun os env2 => .ok (o :: os) env2
def evalVs (C : Cfg) : Xs → Env → R (List D)
  | .nil, env => .ok [] env
  | .cons e es, env => (viewE (pureXs es) e (evalE C e env) env).bind fun o env1 => (evalVs C es env1).bind fun os env2 => .ok (o :: os) env2
def evalAnd (C : Cfg) : Xs → Env → R O
  | .nil, _ => .no
  | .cons e .nil, env => evalE C e env
  | .cons e es, env => (evalE C e env).bind fun x env1 => match x with
    | .z (.bl true) => evalAnd C es env1
    | .z (.bl false) => .ok (.z (.bl false)) env1
    | _ => .no
def evalOr (C : Cfg) : Xs → Env → R O
  | .nil, _ => .no
  | .cons e .nil, env => evalE C e env
  | .cons e es, env => (evalE C e env).bind fun x env1 => match x with
    | .z (.bl false) => evalOr C es env1
    | .z (.bl true) => .ok (.z (.bl true)) env1
    | _ => .no
def evalPart (C : Cfg) : Xo → Env → R (Option Int)
  | .none, env => .ok none env
  | .some e, env => (evalE C e env).bind fun o env1 => match o with
    | .z (.int i) => .ok (some i) env1
    | _ => .no
def evalCond (C : Cfg) : Xo → Env → R O
  | .none, env => .ok (.z (.bl true)) env
  | .some e, env => evalE C e env
def evalArgs (C : Cfg) : Xs → List Bool → Env → R (List Ar)
  | .nil, ms, env => match ms with
    | [] => .ok [] env
    | _ => .no
  | .cons e es, ms, env => match ms with
    | [] => .no
    | false :: ms => (evalE C e env).bind fun o env1 => (evalArgs C es ms env1).bind fun as env2 => .ok (.val o.toD :: as) env2
    | true :: ms => match e with
      | .v i => match getE env i with
        | some _ => (evalArgs C es ms env).bind fun as env2 => .ok (.ref i :: as) env2
        | none => .no
      | _ => .no
/-- the items that a loop walks -/
def evalIt (C : Cfg) : It → Env → R (List D)
  | .seq a, env => (evalE C a env).bind fun o env1 => match o.toD with
    | .lst ds => .ok ds env1
    | .tup ds => .ok ds env1
    | _ => .no
  | .rng1 a, env => (evalE C a env).bind fun o env1 => match o with
    | .z (.int n) => if rngOk n then .ok (rangeL 0 1 n.toNat) env1 else .no
    | _ => .no
  | .rng2 a b, env => (evalE C a env).bind fun o env1 => (evalE C b env1).bind fun u env2 => match o, u with
    | .z (.int m), .z (.int n) => if rngOk m && rngOk n then .ok (rangeL m 1 (n - m).toNat) env2 else .no
    | _, _ => .no
  | .rng3 a b c, env => .no
  | .enum a, env => (evalE C a env).bind fun o env1 => match o.toD with
    | .lst ds => .ok (enumL 0 ds) env1
    | _ => .no
end
def Out.ofR (r : R O) (f : O → Env → Out) : Out := match r with
  | .ok o env => f o env
  | .ex c ds => .ex c ds
  | .no => .no
@[simp] theorem Out.ofR_ok (o : O) (env : Env) (f : O → Env → Out) : Out.ofR (.ok o env) f = f o env := rfl
def evalFor (t : Tg) (body : Env → Out) : List D → Env → Out
  | [], env => .nx env
  | d :: ds, env => match tgE t (.z d) env with
    | some env1 => match body env1 with
      | .nx env2 => evalFor t body ds env2
      | r => r
    | none => .no
def evalWhile (test : Env → R O) (body : Env → Out) : Nat → Env → Out
  | 0, _ => .no
  | n + 1, env => Out.ofR (test env) fun x env1 => match x with
    | .z (.bl true) => match body env1 with
      | .nx env2 => evalWhile test body n env2
      | r => r
    | .z (.bl false) => .nx env1
    | _ => .no
def Out.ofO (o : Option Env) : Out := match o with
  | some e => .nx e
  | none => .no
mutual
def evalS (C : Cfg) (W : Nat) : S → Env → Out
  | .set i e, env => Out.ofR (evalE C e env) fun o env1 => .nx (env1.set i (some o))
  | .asg is e, env => Out.ofR (evalE C e env) fun o env1 => Out.ofO (tgE (.tp is) o env1)
  | .par is es, env => match evalEs C es env with
    | .ok os env1 => Out.ofO (setAll env1 is os)
    | .ex c ds => .ex c ds
    | .no => .no
  | .sto i k e, env => Out.ofR (evalE C e env) fun o env1 => match getE env1 i with
    | some (.l _) => Out.ofR (evalE C k env1) fun x env2 => match x, getE env2 i with
      | .z (.int j), some (.l os) => match L2.ixN os.length j with
        | some q => .nx (env2.set i (some (.l (os.set q o))))
        | none => .no
      | _, _ => .no
    | _ => .no
  | .app i e, env => match getE env i with
    | some (.l _) => Out.ofR (evalE C e env) fun o env1 => match getE env1 i with
      | some (.l os) => if lenOk os then .nx (env1.set i (some (.l (os ++ [o])))) else .no
      | _ => .no
    | _ => .no
  | .expr e, env => Out.ofR (evalE C e env) fun _ env1 => .nx env1
  | .ret (.v i), env => match getE env i with
    | some o => .rt o (env.set i none)
    | none => .no
  | .ret e, env => Out.ofR (evalE C e env) fun o env1 => .rt o env1
  | .ret0, env => .rt (.z .non) env
  | .ite c a b, env => Out.ofR (evalE C c env) fun x env1 => match x with
    | .z (.bl true) => evalSs C W a env1
    | .z (.bl false) => evalSs C W b env1
    | _ => .no
  | .for t it b, env => match evalIt C it env with
    | .ok ds env1 => evalFor t (fun e => evalSs C W b e) ds env1
    | .ex c ds => .ex c ds
    | .no => .no
  | .whl c b, env => evalWhile (fun e => evalE C c e) (fun e => evalSs C W b e) W env
  | .pass, env => .nx env
def evalSs (C : Cfg) (W : Nat) : Ss → Env → Out
  | .nil, env => .nx env
  | .cons s r, env => match evalS C W s env with
    | .nx env1 => evalSs C W r env1
    | o => o
end
/-! ### defs -/
structure Fd where
  modes : List Bool
  slots : Nat
  body : Ss
/-- the owned parameters behind a call -/
def outs? (env : Env) : List Bool → Nat → Option (List O)
  | [], _ => some []
  | false :: ms, i => outs? env ms (i + 1)
  | true :: ms, i => match getE env i with
    | some (.l os) => (outs? env ms (i + 1)).map (.l os :: ·)
    | _ => none
def finish (ms : List Bool) : Out → CR
  | .nx env => match outs? env ms 0 with
    | some outs => .rt (.z .non) outs
    | none => .no
  | .rt o env => match outs? env ms 0 with
    | some outs => .rt o outs
    | none => .no
  | .ex c ds => .ex c ds
  | .no => .no
def runF (C : Cfg) (W : Nat) (F : Fd) (os : List O) : CR :=
  if os.length = F.modes.length then finish F.modes (evalSs C W F.body (os.map some ++ List.replicate (F.slots - os.length) none)) else .no
/-- calls within calls, to a depth -/
def G (T : Nat → Option Fd) (W : Nat) : Nat → Nat → List O → CR
  | 0, _, _ => .no
  | n + 1, f, os => match T f with
    | some F => runF ⟨G T W n, fun g => match T g with | some F => F.modes | none => []⟩ W F os
    | none => .no
def sigT (T : Nat → Option Fd) (g : Nat) : List Bool := match T g with | some F => F.modes | none => []
def cfg (T : Nat → Option Fd) (W n : Nat) : Cfg := ⟨G T W n, sigT T⟩
end RF
/-! RFb: how values stand in the heap. -/
namespace RF
open L2 PySem PySem.Spec PyProof.Rows
/-- what is fixed of a lambda -/
structure LamD where
  qual : Str
  params : Arguments
  body : Expr
  scope : Scope
/-- where the defs of the text stand; which lambdas bear which number -/
structure Fns where
  at_ : Nat → Option Addr
  ml : Nat → LamD → Prop
instance : CoeFun Fns (fun _ => Nat → Option Addr) := ⟨Fns.at_⟩
abbrev LamD.fd (L : LamD) (c : Addr) (pm ctv : Value) : FuncData := PySem.W.kla_fn "<lambda>" L.qual L.params L.body L.scope [] pm (.ref c) ctv
/-- the object at f is this lambda -/
def LamO (f c : Addr) (L : LamD) (pm ctv : Value) : HO := .ext fun h => ∃ (od : Option Addr) (sl : Array (Option Value)), h.get? f = some (⟨.type "function", od, .func (L.fd c pm ctv), sl⟩ : Obj)
mutual
inductive Rep (K : PySem.W.Frag) (FA : Fns) (F : Hp) : V → D → Prop
  | non : Rep K FA F .non .non
  | bl (b : Bool) : Rep K FA F (.bl b) (.bl b)
  | int (i : Int) : Rep K FA F (.int i) (.int i)
  | str (x : Str) : Rep K FA F (.str x) (.str x)
  | lst {a : Addr} {vs : List V} {ds : List D} : F a = some (.lst vs) → Reps K FA F vs ds → Rep K FA F (.ref a) (.lst ds)
  | tup {a : Addr} {vs : List V} {ds : List D} : F a = some (.tup vs) → Reps K FA F vs ds → Rep K FA F (.ref a) (.tup ds)
  | scr {a : Addr} {ns : List Int} : SqL K F a (ns.map V.int) → Rep K FA F (.ref a) (.scr ns)
  | fn {f : Nat} {a : Addr} : FA f = some a → Rep K FA F (.ref a) (.fn f)
  | clo {k : Nat} {f c : Addr} {L : LamD} {pm ctv : Value} : FA.ml k L → F f = some (LamO f c L pm ctv) → F c = some (LamX.CodeO c L.qual) → Rep K FA F (.ref f) (.clo k [])
inductive Reps (K : PySem.W.Frag) (FA : Fns) (F : Hp) : List V → List D → Prop
  | nil : Reps K FA F [] []
  | cons {v : V} {vs : List V} {d : D} {ds : List D} : Rep K FA F v d → Reps K FA F vs ds → Reps K FA F (v :: vs) (d :: ds)
end
mutual
inductive RepO (K : PySem.W.Frag) (FA : Fns) (F H : Hp) : V → O → List Addr → Prop
  | z {v : V} {d : D} : Rep K FA F v d → RepO K FA F H v (.z d) []
  | l {a : Addr} {vs : List V} {os : List O} {A : List Addr} : H a = some (.lst vs) → RepOs K FA F H vs os A → RepO K FA F H (.ref a) (.l os) (a :: A)
  | t {a : Addr} {vs : List V} {os : List O} {A : List Addr} : H a = some (.tup vs) → RepOs K FA F H vs os A → RepO K FA F H (.ref a) (.t os) A
inductive RepOs (K : PySem.W.Frag) (FA : Fns) (F H : Hp) : List V → List O → List Addr → Prop
  | nil : RepOs K FA F H [] [] []
  | cons {v : V} {vs : List V} {o : O} {os : List O} {A B : List Addr} : RepO K FA F H v o A → RepOs K FA F H vs os B → RepOs K FA F H (v :: vs) (o :: os) (A ++ B)
end
inductive RepL (K : PySem.W.Frag) (FA : Fns) (F H : Hp) : List (Option V × O) → List Addr → Prop
  | nil : RepL K FA F H [] []
  | cons {v : V} {o : O} {ps : List (Option V × O)} {A B : List Addr} : RepO K FA F H v o A → RepL K FA F H ps B → RepL K FA F H ((some v, o) :: ps) (A ++ B)
def Sub (F H : Hp) : Prop := ∀ a o, F a = some o → H a = some o
theorem Sub.refl (F : Hp) : Sub F F := fun _ _ h => h
theorem Sub.trans {F G H : Hp} (a : Sub F G) (b : Sub G H) : Sub F H := fun c o h => b c o (a c o h)
/-- the tuples stay -/
def Tups (H H' : Hp) : Prop := ∀ a xs, H a = some (.tup xs) → H' a = some (.tup xs)
theorem Sub.tups {H H' : Hp} (h : Sub H H') : Tups H H' := fun a xs e => h a _ e
section
variable {K : PySem.W.Frag} {FA : Fns} {F F' H H' : Hp}
theorem SqL.sub {a : Addr} {xs : List V} (s : Sub F F') (h : SqL K F a xs) : SqL K F' a xs := by
  rcases h with (h | ⟨o, h⟩) | h
  · exact .inl (.inl (s _ _ h))
  · exact .inl (.inr ⟨o, s _ _ h⟩)
  · exact .inr h
mutual
theorem Rep.mono (s : Sub F F') : ∀ {d : D} {v : V}, Rep K FA F v d → Rep K FA F' v d
  | _, _, .non => .non
  | _, _, .bl b => .bl b
  | _, _, .int i => .int i
  | _, _, .str x => .str x
  | _, _, .lst h r => .lst (s _ _ h) (Reps.mono s r)
  | _, _, .tup h r => .tup (s _ _ h) (Reps.mono s r)
  | _, _, .scr h => .scr (SqL.sub s h)
  | _, _, .fn h => .fn h
  | _, _, .clo h1 h2 h3 => .clo h1 (s _ _ h2) (s _ _ h3)
theorem Reps.mono (s : Sub F F') : ∀ {ds : List D} {vs : List V}, Reps K FA F vs ds → Reps K FA F' vs ds
  | _, _, .nil => .nil
  | _, _, .cons h r => .cons (Rep.mono s h) (Reps.mono s r)
end
mutual
/-- where no list is within, the tuples are enough -/
theorem Rep.lf (t : Tups F F') : ∀ {d : D} {v : V}, d.lf = true → Rep K FA F v d → Rep K FA F' v d
  | _, _, _, .non => .non
  | _, _, _, .bl b => .bl b
  | _, _, _, .int i => .int i
  | _, _, _, .str x => .str x
  | _, _, e, .lst h r => by simp [D.lf] at e
  | _, _, e, .tup h r => .tup (t _ _ h) (Reps.lf t (by simpa [D.lf] using e) r)
  | _, _, e, .scr h => by simp [D.lf] at e
  | _, _, _, .fn h => .fn h
theorem Reps.lf (t : Tups F F') : ∀ {ds : List D} {vs : List V}, D.lfs ds = true → Reps K FA F vs ds → Reps K FA F' vs ds
  | _, _, _, .nil => .nil
  | _, _, e, .cons h r => by
    have e' := by simpa [D.lfs] using e
    exact .cons (Rep.lf t e'.1 h) (Reps.lf t e'.2 r)
end
theorem Reps.length : ∀ {ds : List D} {vs : List V}, Reps K FA F vs ds → vs.length = ds.length
  | _, _, .nil => rfl
  | _, _, .cons _ r => by simp [r.length]
theorem Reps.get {d : D} : ∀ {ds : List D} {vs : List V} {i : Nat}, Reps K FA F vs ds → ds[i]? = some d → ∃ v, vs[i]? = some v ∧ Rep K FA F v d
  | _, _, _, .nil, e => by simp at e
  | _, _, 0, .cons h r, e => by simp at e; subst e; exact ⟨_, rfl, h⟩
  | _, _, i + 1, .cons h r, e => by
    obtain ⟨v, e1, h1⟩ := Reps.get (i := i) r (by simpa using e)
    exact ⟨v, by simpa using e1, h1⟩
theorem Reps.append : ∀ {ds es : List D} {vs us : List V}, Reps K FA F vs ds → Reps K FA F us es → Reps K FA F (vs ++ us) (ds ++ es)
  | _, _, _, _, .nil, s => s
  | _, _, _, _, .cons h r, s => .cons h (Reps.append r s)
theorem Reps.take : ∀ {ds : List D} {vs : List V} (n : Nat), Reps K FA F vs ds → Reps K FA F (vs.take n) (ds.take n)
  | _, _, 0, _ => .nil
  | _, _, _ + 1, .nil => .nil
  | _, _, n + 1, .cons h r => .cons h (Reps.take n r)
theorem Reps.drop : ∀ {ds : List D} {vs : List V} (n : Nat), Reps K FA F vs ds → Reps K FA F (vs.drop n) (ds.drop n)
  | _, _, 0, r => r
  | _, _, _ + 1, .nil => .nil
  | _, _, n + 1, .cons _ r => Reps.drop n r
theorem Reps.reverse : ∀ {ds : List D} {vs : List V}, Reps K FA F vs ds → Reps K FA F vs.reverse ds.reverse
  | _, _, .nil => .nil
  | _, _, .cons h r => by simp only [List.reverse_cons]; exact Reps.append r.reverse (.cons h .nil)
theorem Reps.rep {ds : List D} {vs : List V} (h : Reps K FA F vs ds) : ∀ k : Nat, Reps K FA F (List.replicate k vs).flatten (List.replicate k ds).flatten
  | 0 => .nil
  | k + 1 => by simp only [List.replicate_succ, List.flatten_cons]; exact Reps.append h (h.rep k)
theorem Reps.ints : ∀ {ns : List Int}, Reps K FA F (ns.map V.int) (ns.map D.int)
  | [] => .nil
  | _ :: _ => .cons (.int _) Reps.ints
theorem Reps.of_ints {vs : List V} : ∀ {ds : List D} {ns : List Int}, Reps K FA F vs ds → ints? ds = some ns → vs = ns.map V.int ∧ ds = ns.map D.int := by
  induction vs with
  | nil => intro ds ns r e; cases r; simp [ints?] at e; subst e; exact ⟨rfl, rfl⟩
  | cons v vs ih =>
    intro ds ns r e
    cases r with
    | cons h r =>
      rename_i d ds
      cases h <;> simp [ints?] at e
      obtain ⟨ms, e1, rfl⟩ := e
      obtain ⟨h1, h2⟩ := ih r e1
      exact ⟨by rw [h1]; rfl, by rw [h2]; rfl⟩
theorem Reps.of_bls {vs : List V} : ∀ {ds : List D} {ns : List Bool}, Reps K FA F vs ds → bls? ds = some ns → vs = ns.map V.bl := by
  induction vs with
  | nil => intro ds ns r e; cases r; simp [bls?] at e; subst e; rfl
  | cons v vs ih =>
    intro ds ns r e
    cases r with
    | cons h r =>
      rename_i d ds
      cases h <;> simp [bls?] at e
      obtain ⟨ms, e1, rfl⟩ := e
      rw [ih r e1]; rfl
mutual
theorem RepO.frame : ∀ {o : O} {v : V} {A : List Addr}, RepO K FA F H v o A → Sub F F' → (∀ a ∈ A, H' a = H a) → Tups H H' → RepO K FA F' H' v o A
  | _, _, _, .z h, s, _, _ => .z (h.mono s)
  | _, _, _, .l h r, s, k, t => .l (by rw [k _ (List.mem_cons_self)]; exact h) (RepOs.frame r s (fun a m => k a (List.mem_cons_of_mem _ m)) t)
  | _, _, _, .t h r, s, k, t => .t (t _ _ h) (RepOs.frame r s k t)
theorem RepOs.frame : ∀ {os : List O} {vs : List V} {A : List Addr}, RepOs K FA F H vs os A → Sub F F' → (∀ a ∈ A, H' a = H a) → Tups H H' → RepOs K FA F' H' vs os A
  | _, _, _, .nil, _, _, _ => .nil
  | _, _, _, .cons h r, s, k, t => .cons (RepO.frame h s (fun a m => k a (List.mem_append_left _ m)) t) (RepOs.frame r s (fun a m => k a (List.mem_append_right _ m)) t)
end
theorem RepL.frame : ∀ {ps : List (Option V × O)} {A : List Addr}, RepL K FA F H ps A → Sub F F' → (∀ a ∈ A, H' a = H a) → Tups H H' → RepL K FA F' H' ps A
  | _, _, .nil, _, _, _ => .nil
  | _, _, .cons h r, s, k, t => .cons (RepO.frame h s (fun a m => k a (List.mem_append_left _ m)) t) (RepL.frame r s (fun a m => k a (List.mem_append_right _ m)) t)
mutual
/-- the owned addresses stand in the heap -/
theorem RepO.dom : ∀ {o : O} {v : V} {A : List Addr}, RepO K FA F H v o A → ∀ a ∈ A, ∃ xs, H a = some (.lst xs)
  | _, _, _, .z _, a, m => by cases m
  | _, _, _, .l h r, a, m => by
    rcases List.mem_cons.mp m with e | m
    · exact ⟨_, by rw [e]; exact h⟩
    · exact RepOs.dom r a m
  | _, _, _, .t _ r, a, m => RepOs.dom r a m
theorem RepOs.dom : ∀ {os : List O} {vs : List V} {A : List Addr}, RepOs K FA F H vs os A → ∀ a ∈ A, ∃ xs, H a = some (.lst xs)
  | _, _, _, .nil, a, m => by cases m
  | _, _, _, .cons h r, a, m => (List.mem_append.mp m).elim (RepO.dom h a) (RepOs.dom r a)
end
theorem RepL.dom : ∀ {ps : List (Option V × O)} {A : List Addr}, RepL K FA F H ps A → ∀ a ∈ A, ∃ xs, H a = some (.lst xs)
  | _, _, .nil, a, m => by cases m
  | _, _, .cons h r, a, m => (List.mem_append.mp m).elim (RepO.dom h a) (RepL.dom r a)
mutual
/-- seen as it lies in the whole heap -/
theorem RepO.view (s : Sub F H) : ∀ {o : O} {v : V} {A : List Addr}, RepO K FA F H v o A → Rep K FA H v o.toD
  | _, _, _, .z h => by simp only [O.toD]; exact h.mono s
  | _, _, _, .l h r => by simp only [O.toD]; exact .lst h (RepOs.view s r)
  | _, _, _, .t h r => by simp only [O.toD]; exact .tup h (RepOs.view s r)
theorem RepOs.view (s : Sub F H) : ∀ {os : List O} {vs : List V} {A : List Addr}, RepOs K FA F H vs os A → Reps K FA H vs (O.toDs os)
  | _, _, _, .nil => by simp only [O.toDs]; exact .nil
  | _, _, _, .cons h r => by simp only [O.toDs]; exact .cons (RepO.view s h) (RepOs.view s r)
end
/-- the part of the heap that stands for good, with these addresses too -/
def addF (F H : Hp) (A : List Addr) : Hp := fun a => if a ∈ A then H a else F a
theorem addF_sub (s : Sub F H) {A : List Addr} : Sub F (addF F H A) := fun a o e => by
  unfold addF
  split
  · exact s a o e
  · exact e
theorem addF_subH (s : Sub F H) {A : List Addr} : Sub (addF F H A) H := fun a o e => by
  unfold addF at e
  split at e
  · exact e
  · exact s a o e
theorem addF_mono {A B : List Addr} (s : Sub F H) (h : ∀ a ∈ A, a ∈ B) : Sub (addF F H A) (addF F H B) := fun a o e => by
  unfold addF at e ⊢
  split at e
  · rename_i m; rw [if_pos (h a m)]; exact e
  · split
    · exact s a o e
    · exact e
mutual
theorem RepO.frozen (s : Sub F H) (t : Tups H F) : ∀ {o : O} {v : V} {A : List Addr}, RepO K FA F H v o A → Rep K FA (addF F H A) v o.toD
  | _, _, _, .z h => by simp only [O.toD]; exact h.mono (addF_sub s)
  | _, _, _, .l (a := a) h r => by
    simp only [O.toD]
    refine .lst (by unfold addF; rw [if_pos (List.mem_cons_self)]; exact h) ((RepOs.frozen s t r).mono (addF_mono s fun b m => List.mem_cons_of_mem _ m))
  | _, _, _, .t h r => by simp only [O.toD]; exact .tup (addF_sub s _ _ (t _ _ h)) (RepOs.frozen s t r)
theorem RepOs.frozen (s : Sub F H) (t : Tups H F) : ∀ {os : List O} {vs : List V} {A : List Addr}, RepOs K FA F H vs os A → Reps K FA (addF F H A) vs (O.toDs os)
  | _, _, _, .nil => by simp only [O.toDs]; exact .nil
  | _, _, _, .cons h r => by
    simp only [O.toDs]
    exact .cons ((RepO.frozen s t h).mono (addF_mono s fun b m => List.mem_append_left _ m)) ((RepOs.frozen s t r).mono (addF_mono s fun b m => List.mem_append_right _ m))
end
mutual
theorem RepO.clean (t : Tups F F') : ∀ {o : O} {v : V} {A : List Addr}, o.clean = true → RepO K FA F H v o A → RepO K FA F' H v o A
  | _, _, _, e, .z h => .z (h.lf t (by simpa [O.clean] using e))
  | _, _, _, e, .l h r => .l h (RepOs.clean t (by simpa [O.clean] using e) r)
  | _, _, _, e, .t h r => .t h (RepOs.clean t (by simpa [O.clean] using e) r)
theorem RepOs.clean (t : Tups F F') : ∀ {os : List O} {vs : List V} {A : List Addr}, O.cleans os = true → RepOs K FA F H vs os A → RepOs K FA F' H vs os A
  | _, _, _, _, .nil => .nil
  | _, _, _, e, .cons h r => by
    have e' := by simpa [O.cleans] using e
    exact .cons (RepO.clean t e'.1 h) (RepOs.clean t e'.2 r)
end
theorem RepOs.length : ∀ {os : List O} {vs : List V} {A : List Addr}, RepOs K FA F H vs os A → vs.length = os.length
  | _, _, _, .nil => rfl
  | _, _, _, .cons _ r => by simp [r.length]
/-- values only -/
theorem RepOs.of_reps : ∀ {ds : List D} {vs : List V}, Reps K FA F vs ds → RepOs K FA F H vs (ds.map .z) []
  | _, _, .nil => .nil
  | _, _, .cons h r => RepOs.cons (A := []) (.z h) (RepOs.of_reps r)
theorem RepOs.allZ : ∀ {os : List O} {vs : List V} {A : List Addr}, RepOs K FA F H vs os A → os.all O.isZ = true → A = [] ∧ Reps K FA F vs (O.toDs os)
  | _, _, _, .nil, _ => ⟨rfl, by simp only [O.toDs]; exact .nil⟩
  | _, _, _, .cons h r, e => by
    have e' := by simpa only [List.all_cons, Bool.and_eq_true] using e
    cases h with
    | z h =>
      obtain ⟨e1, e2⟩ := r.allZ e'.2
      subst e1
      exact ⟨rfl, by simp only [O.toDs, O.toD]; exact .cons h e2⟩
    | l _ _ => simp [O.isZ] at e'
    | t _ _ => simp [O.isZ] at e'
mutual
theorem RepO.uniq : ∀ {o : O} {v : V} {A B : List Addr}, RepO K FA F H v o A → RepO K FA F H v o B → A = B
  | _, _, _, _, .z _, .z _ => rfl
  | _, _, _, _, .l h r, .l h' r' => by
    rw [h] at h'; cases h'
    rw [RepOs.uniq r r']
  | _, _, _, _, .t h r, .t h' r' => by
    rw [h] at h'; cases h'
    exact RepOs.uniq r r'
theorem RepOs.uniq : ∀ {os : List O} {vs : List V} {A B : List Addr}, RepOs K FA F H vs os A → RepOs K FA F H vs os B → A = B
  | _, _, _, _, .nil, .nil => rfl
  | _, _, _, _, .cons h r, .cons h' r' => by rw [RepO.uniq h h', RepOs.uniq r r']
end
theorem RepL.uniq : ∀ {ps : List (Option V × O)} {A B : List Addr}, RepL K FA F H ps A → RepL K FA F H ps B → A = B
  | _, _, _, .nil, .nil => rfl
  | _, _, _, .cons h r, .cons h' r' => by rw [RepO.uniq h h', RepL.uniq r r']
theorem RepOs.append : ∀ {os us : List O} {vs ws : List V} {A B : List Addr}, RepOs K FA F H vs os A → RepOs K FA F H ws us B → RepOs K FA F H (vs ++ ws) (os ++ us) (A ++ B)
  | _, _, _, _, _, _, .nil, s => s
  | _, _, _, _, _, _, .cons h r, s => by
    rw [List.append_assoc]
    exact .cons h (RepOs.append r s)
/-- an item taken out -/
theorem RepOs.pick {o : O} : ∀ {os : List O} {vs : List V} {A : List Addr} {i : Nat}, RepOs K FA F H vs os A → os[i]? = some o →
    ∃ v Ao Ar, vs[i]? = some v ∧ RepO K FA F H v o Ao ∧ RepOs K FA F H (vs.eraseIdx i) (os.eraseIdx i) Ar ∧ A.Perm (Ao ++ Ar)
  | _, _, _, _, .nil, e => by simp at e
  | _, _, _, 0, .cons h r, e => by
    simp at e; subst e
    exact ⟨_, _, _, rfl, h, by simpa using r, .refl _⟩
  | _, _, _, i + 1, .cons (A := A1) h r, e => by
    obtain ⟨v, Ao, Ar, e1, h1, r1, p⟩ := RepOs.pick (i := i) r (by simpa using e)
    refine ⟨v, Ao, A1 ++ Ar, by simpa using e1, h1, by simpa using RepOs.cons h r1, ?_⟩
    refine (p.append_left A1).trans ?_
    rw [← List.append_assoc, ← List.append_assoc]
    exact List.perm_append_comm.append_right Ar
/-- an item put in the place of another -/
theorem RepOs.set {v : V} {o : O} {Ao : List Addr} (h : RepO K FA F H v o Ao) : ∀ {os : List O} {vs : List V} {A : List Addr} {i : Nat}, RepOs K FA F H vs os A → i < os.length →
    ∃ Ar, RepOs K FA F H (vs.set i v) (os.set i o) (Ar) ∧ ∃ Ad, (Ad ++ Ar).Perm (Ao ++ A)
  | _, _, _, _, .nil, e => by simp at e
  | _, _, _, 0, .cons (A := A1) (B := B1) h1 r, e => ⟨Ao ++ B1, by simpa using RepOs.cons h r, A1, by
      rw [← List.append_assoc, ← List.append_assoc]; exact List.perm_append_comm.append_right B1⟩
  | _, _, _, i + 1, .cons (A := A1) (B := B1) h1 r, e => by
    obtain ⟨Ar, r1, Ad, p⟩ := RepOs.set h (i := i) r (by simpa using e)
    refine ⟨A1 ++ Ar, by simpa using RepOs.cons h1 r1, Ad, ?_⟩
    have q1 : (Ad ++ (A1 ++ Ar)).Perm (A1 ++ (Ad ++ Ar)) := by
      rw [← List.append_assoc, ← List.append_assoc]; exact List.perm_append_comm.append_right Ar
    have q2 : (A1 ++ (Ao ++ B1)).Perm (Ao ++ (A1 ++ B1)) := by
      rw [← List.append_assoc, ← List.append_assoc]; exact List.perm_append_comm.append_right B1
    exact q1.trans ((p.append_left A1).trans q2)
theorem RepL.perm {ps qs : List (Option V × O)} (p : ps.Perm qs) : ∀ {A : List Addr}, RepL K FA F H ps A → ∃ B, RepL K FA F H qs B ∧ A.Perm B := by
  induction p with
  | nil => intro A h; exact ⟨_, h, .refl _⟩
  | cons x _ ih =>
    intro A h
    cases h with
    | cons h r =>
      obtain ⟨B, r', p⟩ := ih r
      exact ⟨_, .cons h r', p.append_left _⟩
  | swap x y l =>
    intro A h
    cases h with
    | cons h r =>
      cases r with
      | cons h' r =>
        refine ⟨_, .cons h' (.cons h r), ?_⟩
        rw [← List.append_assoc, ← List.append_assoc]
        exact List.perm_append_comm.append_right _
  | trans _ _ ih1 ih2 =>
    intro A h
    obtain ⟨B, h1, p1⟩ := ih1 h
    obtain ⟨C, h2, p2⟩ := ih2 h1
    exact ⟨C, h2, p1.trans p2⟩
theorem RepL.of_os : ∀ {os : List O} {vs : List V} {A B : List Addr} {ps : List (Option V × O)}, RepOs K FA F H vs os A → RepL K FA F H ps B → RepL K FA F H (((vs.map some).zip os) ++ ps) (A ++ B)
  | _, _, _, _, _, .nil, s => s
  | _, _, _, _, _, .cons h r, s => by
    rw [List.append_assoc]
    exact .cons h (RepL.of_os r s)
theorem RepL.to_os : ∀ {os : List O} {vs : List V} {C : List Addr} {ps : List (Option V × O)}, vs.length = os.length → RepL K FA F H (((vs.map some).zip os) ++ ps) C →
    ∃ A B, C = A ++ B ∧ RepOs K FA F H vs os A ∧ RepL K FA F H ps B
  | [], [], _, _, _, s => ⟨[], _, rfl, .nil, s⟩
  | o :: os, v :: vs, _, _, e, s => by
    cases s with
    | cons h r =>
      obtain ⟨A, B, rfl, r1, r2⟩ := RepL.to_os (by simpa using e) r
      exact ⟨_, B, by rw [List.append_assoc], .cons h r1, r2⟩
  | [], _ :: _, _, _, e, _ => by simp at e
  | _ :: _, [], _, _, e, _ => by simp at e
end
/-! ### the state of a frame -/
/-- at the entry: the heap, the owned lists that were handed in, the part that stands for good -/
structure W0 where
  H0 : Hp
  M : List Addr
  F0 : Hp
  T : List (Addr × Str)
structure HR (w : W0) (F H : Hp) : Prop where
  sub : Sub F H
  sub0 : Sub w.F0 F
  new : ∀ a o, F a = some o → w.F0 a = some o ∨ w.H0 a = none ∨ a ∈ w.M ∨ (w.H0 a = some o ∧ ∀ xs, o ≠ .lst xs)
  keep : ∀ a o, w.H0 a = some o → a ∉ w.M → H a = some o
  dom : ∀ a, H a = none → w.H0 a = none
  tups : Tups H F
  tabs : LamX.Tabs w.T H
  ntb : ∀ a ps, F a ≠ some (.tbl ps)
def Hs (K : PySem.W.Frag) (FA : Fns) (w : W0) (F H : Hp) (ps : List (Option V × O)) : Prop :=
  HR w F H ∧ ∃ A, RepL K FA F H ps A ∧ A.Nodup ∧ ∀ a ∈ A, F a = none ∧ (a ∈ w.M ∨ w.H0 a = none)
/-- the slots -/
def lv (σ : L2.St) (env : Env) : List (Option V × O) := (σ.zip env).filterMap fun p => p.2.map fun o => (p.1, o)
section
variable {K : PySem.W.Frag} {FA : Fns} {w : W0} {F F' H H' : Hp} {ps qs : List (Option V × O)} {v : V} {o : O} {d : D}
theorem Hs.perm (p : ps.Perm qs) (s : Hs K FA w F H ps) : Hs K FA w F H qs := by
  obtain ⟨hr, A, r, nd, q⟩ := s
  obtain ⟨B, r', p'⟩ := r.perm p
  exact ⟨hr, B, r', p'.nodup_iff.mp nd, fun a m => q a (p'.mem_iff.mpr m)⟩
theorem Hs.tail {p : Option V × O} (s : Hs K FA w F H (p :: ps)) : Hs K FA w F H ps := by
  obtain ⟨hr, A, r, nd, q⟩ := s
  cases r with
  | cons h r => exact ⟨hr, _, r, (List.nodup_append.mp nd).2.1, fun a m => q a (List.mem_append_right _ m)⟩
theorem Hs.head (s : Hs K FA w F H ((some v, o) :: ps)) : ∃ A, RepO K FA F H v o A := by
  obtain ⟨hr, A, r, nd, q⟩ := s
  cases r with
  | cons h r => exact ⟨_, h⟩
theorem Hs.isSome {u : Option V} (s : Hs K FA w F H ((u, o) :: ps)) : ∃ v, u = Option.some v := by
  obtain ⟨hr, A, r, nd, q⟩ := s
  cases r
  exact ⟨_, rfl⟩
theorem Hs.rep (s : Hs K FA w F H ((some v, .z d) :: ps)) : Rep K FA F v d := by
  obtain ⟨A, h⟩ := s.head
  cases h
  assumption
theorem Hs.view (s : Hs K FA w F H ((some v, o) :: ps)) : Rep K FA H v o.toD := by
  obtain ⟨A, h⟩ := s.head
  exact h.view s.1.sub
theorem Hs.add (s : Hs K FA w F H ps) (h : Rep K FA F v d) : Hs K FA w F H ((some v, .z d) :: ps) := by
  obtain ⟨hr, A, r, nd, q⟩ := s
  exact ⟨hr, A, RepL.cons (A := []) (.z h) r, nd, q⟩
theorem Tabs.stay {T : List (Addr × Str)} (t : LamX.Tabs T H) (e : ∀ b o, H b = some o → (∀ xs, o ≠ .lst xs) → H' b = some o) : LamX.Tabs T H' := fun p hp => by
  obtain ⟨ps, h1, h2, h3⟩ := t p hp
  refine ⟨ps, e _ _ h1 (fun xs z => by cases z), h2, fun pos cv hc => ?_⟩
  obtain ⟨c, e1, e2⟩ := h3 pos cv hc
  exact ⟨c, e1, e _ _ e2 (fun xs z => by unfold LamX.CodeO at z; cases z)⟩
/-- what is owned stands for good from now on -/
theorem Hs.freeze (s : Hs K FA w F H ((some v, o) :: ps)) : ∃ F', Sub F F' ∧ Hs K FA w F' H ((some v, frz o) :: ps) := by
  obtain ⟨hr, A, r, nd, q⟩ := s
  cases r with
  | cons h r =>
    rename_i A B
    have nd' := List.nodup_append.mp nd
    refine ⟨addF F H A, addF_sub hr.sub, ⟨addF_subH hr.sub, hr.sub0.trans (addF_sub hr.sub), fun a ob e => ?_, hr.keep, hr.dom, fun a xs e => addF_sub hr.sub _ _ (hr.tups a xs e), hr.tabs, fun a ps e => by
      unfold addF at e
      split at e
      · rename_i m
        obtain ⟨xs, e'⟩ := h.dom a m
        rw [e] at e'; cases e'
      · exact hr.ntb a ps e⟩, B, ?_, nd'.2.1, fun a m => ⟨?_, (q a (List.mem_append_right _ m)).2⟩⟩
    · unfold addF at e
      split at e
      · rename_i m
        obtain ⟨q1, q2⟩ := q a (List.mem_append_left _ m)
        exact .inr (q2.elim (fun z => .inr (.inl z)) .inl)
      · exact hr.new a ob e
    · exact RepL.cons (A := []) (.z (h.frozen hr.sub hr.tups)) (r.frame (addF_sub hr.sub) (fun _ _ => rfl) fun _ _ e => e)
    · unfold addF
      rw [if_neg fun m' => nd'.2.2 a m' a m rfl]
      exact (q a (List.mem_append_right _ m)).1
/-- something new is laid -/
theorem Hs.alloc {p : Addr} {ob : HO} (s : Hs K FA w F H ps) (hp : H p = none) (hn : ∀ xs, ob ≠ .tup xs) : Hs K FA w F (upd H p ob) ps := by
  obtain ⟨hr, A, r, nd, q⟩ := s
  have sb : Sub H (upd H p ob) := fun a x e => by rw [upd_ne (ne_of_none e hp)]; exact e
  refine ⟨⟨hr.sub.trans sb, hr.sub0, hr.new, fun a x e m => sb _ _ (hr.keep a x e m), fun a e => hr.dom a ?_, fun a xs e => ?_, Tabs.stay hr.tabs fun b o e _ => sb _ _ e, hr.ntb⟩, A, r.frame (Sub.refl _) (fun a m => ?_) sb.tups, nd, q⟩
  · by_cases z : a = p
    · rw [z]; exact hp
    · rw [upd_ne z] at e; exact e
  · by_cases z : a = p
    · rw [z, upd_same] at e; cases e; exact absurd rfl (hn xs)
    · rw [upd_ne z] at e; exact hr.tups a xs e
  · obtain ⟨xs, e⟩ := r.dom a m
    exact upd_ne (ne_of_none e hp)
theorem Hs.allocT {p : Addr} {xs : List V} (s : Hs K FA w F H ps) (hp : H p = none) : Hs K FA w (upd F p (.tup xs)) (upd H p (.tup xs)) ps := by
  obtain ⟨hr, A, r, nd, q⟩ := s
  have sb : Sub H (upd H p (.tup xs)) := fun a x e => by rw [upd_ne (ne_of_none e hp)]; exact e
  have fp : F p = none := by
    cases e : F p with
    | none => rfl
    | some o => rw [hr.sub _ _ e] at hp; cases hp
  have sf : Sub F (upd F p (.tup xs)) := fun a x e => by rw [upd_ne (ne_of_none e fp)]; exact e
  refine ⟨⟨fun a o e => ?_, hr.sub0.trans sf, fun a o e => ?_, fun a x e m => sb _ _ (hr.keep a x e m), fun a e => hr.dom a ?_, fun a ys e => ?_, Tabs.stay hr.tabs fun b o e _ => sb _ _ e, fun a ps e => by
      by_cases z : a = p
      · rw [z, upd_same] at e; cases e
      · rw [upd_ne z] at e; exact hr.ntb a ps e⟩, A, r.frame sf (fun a m => ?_) sb.tups, nd, fun a m => ⟨?_, (q a m).2⟩⟩
  · by_cases z : a = p
    · rw [z, upd_same] at e ⊢; exact e
    · rw [upd_ne z] at e ⊢; exact hr.sub _ _ e
  · by_cases z : a = p
    · exact .inr (.inl (hr.dom a (by rw [z]; exact hp)))
    · rw [upd_ne z] at e; exact hr.new _ _ e
  · by_cases z : a = p
    · rw [z]; exact hp
    · rw [upd_ne z] at e; exact e
  · by_cases z : a = p
    · rw [z, upd_same] at e ⊢; exact e
    · rw [upd_ne z] at e ⊢; exact hr.tups a ys e
  · obtain ⟨ys, e⟩ := r.dom a m
    exact upd_ne (ne_of_none e hp)
  · obtain ⟨ys, e⟩ := r.dom a m
    rw [upd_ne (ne_of_none e hp)]
    exact (q a m).1
/-- several at the front, as one list -/
theorem Hs.front {os : List O} {vs : List V} (hl : vs.length = os.length) (s : Hs K FA w F H ((vs.map Option.some).zip os ++ ps)) :
    ∃ A, RepOs K FA F H vs os A := by
  obtain ⟨hr, A, r, nd, q⟩ := s
  obtain ⟨A1, B1, rfl, r1, r2⟩ := RepL.to_os hl r
  exact ⟨A1, r1⟩
theorem Hs.drop {os : List O} {vs : List V} (hl : vs.length = os.length) (s : Hs K FA w F H ((vs.map Option.some).zip os ++ ps)) : Hs K FA w F H ps := by
  obtain ⟨hr, A, r, nd, q⟩ := s
  obtain ⟨A1, B1, rfl, r1, r2⟩ := RepL.to_os hl r
  exact ⟨hr, B1, r2, (List.nodup_append.mp nd).2.1, fun a m => q a (List.mem_append_right _ m)⟩
/-- [..] -/
theorem Hs.mkList {os : List O} {vs : List V} {p : Addr} (hl : vs.length = os.length) (s : Hs K FA w F H ((vs.map Option.some).zip os ++ ps)) (hp : H p = none) :
    Hs K FA w F (upd H p (.lst vs)) ((some (.ref p), .l os) :: ps) := by
  have s1 := s.alloc (ob := .lst vs) hp (fun xs z => by cases z)
  obtain ⟨hr, A, r, nd, q⟩ := s1
  obtain ⟨A1, B1, rfl, r1, r2⟩ := RepL.to_os hl r
  have np : ∀ a ∈ A1 ++ B1, a ≠ p := fun a m z => by
    obtain ⟨hr0, A0, r0, _, _⟩ := s
    have q2 := (q a m)
    obtain ⟨xs, e⟩ := r.dom a m
    -- the owned ones stood there before
    obtain ⟨C, D', eC, rC, rD⟩ := RepL.to_os hl r0
    have frC := r0.frame (F' := F) (H' := upd H p (.lst vs)) (Sub.refl _) (fun b mb => by
      obtain ⟨ys, eb⟩ := r0.dom b mb
      exact upd_ne (ne_of_none eb hp)) (fun b ys eb => by rw [upd_ne (ne_of_none eb hp)]; exact eb)
    exact absurd z (by
      intro z
      have := RepL.uniq frC r
      subst this
      obtain ⟨ys, eb⟩ := r0.dom a m
      rw [z, hp] at eb
      cases eb)
  refine ⟨hr, p :: A1 ++ B1, RepL.cons (A := p :: A1) (.l upd_same r1) r2, ?_, fun a m => ?_⟩
  · rw [List.cons_append]
    exact List.nodup_cons.mpr ⟨fun m => np p m rfl, nd⟩
  · rw [List.cons_append] at m
    rcases List.mem_cons.mp m with e | m
    · subst e
      have h0 : F a = none := by
        cases e : F a with
        | none => rfl
        | some o => rw [s.1.sub _ _ e] at hp; cases hp
      exact ⟨h0, .inr (s.1.dom a hp)⟩
    · exact q a m
end
end RF
/-! RFc: the slots, what changes. -/
namespace RF
open L2 PySem PySem.Spec PyProof.Rows
/-! ### slots -/
theorem lv_nil : lv [] [] = [] := rfl
theorem lv_none (w : Option V) (σ : L2.St) (env : Env) : lv (w :: σ) (none :: env) = lv σ env := rfl
theorem lv_some (w : Option V) (o : O) (σ : L2.St) (env : Env) : lv (w :: σ) (some o :: env) = (w, o) :: lv σ env := rfl
theorem getE_some {env : Env} {i : Nat} {o : O} (h : getE env i = some o) : env[i]? = some (some o) := by
  unfold getE at h
  cases e : env[i]? with
  | none => rw [e] at h; cases h
  | some x => rw [e] at h; simp at h; rw [h]
theorem lv_take : ∀ {σ : L2.St} {env : Env} {i : Nat} {o : O}, env.length = σ.length → env[i]? = some (some o) → ∃ w, σ[i]? = some w ∧ (lv σ env).Perm ((w, o) :: lv σ (env.set i none))
  | [], [], _, _, _, e => by simp at e
  | [], _ :: _, _, _, hl, _ => by simp at hl
  | _ :: _, [], _, _, hl, _ => by simp at hl
  | w :: σ, x :: env, 0, o, hl, e => by
    simp at e; subst e
    exact ⟨w, rfl, .refl _⟩
  | w :: σ, x :: env, i + 1, o, hl, e => by
    obtain ⟨w', e1, p⟩ := lv_take (σ := σ) (env := env) (i := i) (by simpa using hl) (by simpa using e)
    refine ⟨w', by simpa using e1, ?_⟩
    cases x with
    | none => exact p
    | some x =>
      rw [List.set_cons_succ, lv_some, lv_some]
      exact (p.cons _).trans (.swap _ _ _)
theorem lv_put (o : O) (w : Option V) : ∀ {σ : L2.St} {env : Env} {i : Nat}, env.length = σ.length → i < σ.length → (lv (σ.set i w) (env.set i (some o))).Perm ((w, o) :: lv σ (env.set i none))
  | [], [], _, _, h => by simp at h
  | [], _ :: _, _, hl, _ => by simp at hl
  | _ :: _, [], _, hl, _ => by simp at hl
  | w' :: σ, x :: env, 0, hl, h => .refl _
  | w' :: σ, x :: env, i + 1, hl, h => by
    have p := lv_put o w (σ := σ) (env := env) (i := i) (by simpa using hl) (by simpa using h)
    rw [List.set_cons_succ, List.set_cons_succ, List.set_cons_succ]
    cases x with
    | none => exact p
    | some x =>
      rw [lv_some, lv_some]
      exact (p.cons _).trans (.swap _ _ _)
theorem set_self : ∀ {σ : L2.St} {i : Nat} {w : Option V}, σ[i]? = some w → σ.set i w = σ
  | [], _, _, e => by simp at e
  | x :: σ, 0, w, e => by simp at e; subst e; rfl
  | x :: σ, i + 1, w, e => by rw [List.set_cons_succ, set_self (by simpa using e)]
theorem lv_none_of : ∀ {σ : L2.St} {env : Env} {i : Nat}, env.length = σ.length → getE env i = none → lv σ (env.set i none) = lv σ env
  | [], [], _, _, _ => rfl
  | [], _ :: _, _, hl, _ => by simp at hl
  | _ :: _, [], _, hl, _ => by simp at hl
  | w :: σ, x :: env, 0, hl, e => by
    cases x with
    | none => rfl
    | some x => simp [getE] at e
  | w :: σ, x :: env, i + 1, hl, e => by
    have h := lv_none_of (σ := σ) (env := env) (i := i) (by simpa using hl) (by simpa [getE] using e)
    rw [List.set_cons_succ]
    cases x with
    | none => rw [lv_none, lv_none, h]
    | some x => rw [lv_some, lv_some, h]
section
variable {K : PySem.W.Frag} {FA : Fns} {w : W0} {F F' H H' : Hp} {ps qs ts : List (Option V × O)} {v : V} {o : O} {d : D} {σ : L2.St} {env : Env} {i : Nat}
theorem Hs.take (hl : env.length = σ.length) (e : getE env i = some o) (s : Hs K FA w F H (lv σ env ++ ts)) : ∃ v, σ[i]? = some (some v) ∧ Hs K FA w F H ((some v, o) :: (lv σ (env.set i none) ++ ts)) := by
  obtain ⟨u, e1, p⟩ := lv_take hl (getE_some e)
  have s1 := s.perm (p.append_right ts)
  obtain ⟨v, rfl⟩ := s1.isSome
  exact ⟨v, e1, s1⟩
theorem Hs.put (hl : env.length = σ.length) (hi : i < σ.length) (s : Hs K FA w F H ((some v, o) :: (lv σ (env.set i none) ++ ts))) : Hs K FA w F H (lv (σ.set i (some v)) (env.set i (some o)) ++ ts) :=
  s.perm ((lv_put o (some v) hl hi).symm.append_right ts)
theorem Hs.back (hl : env.length = σ.length) (hi : σ[i]? = some (some v)) (s : Hs K FA w F H ((some v, o) :: (lv σ (env.set i none) ++ ts))) : Hs K FA w F H (lv σ (env.set i (some o)) ++ ts) := by
  have h := s.put hl (i := i) (by have := (List.getElem?_eq_some_iff.mp hi).1; exact this)
  rw [set_self hi] at h
  exact h
theorem Hs.forget (hl : env.length = σ.length) (s : Hs K FA w F H (lv σ env ++ ts)) : Hs K FA w F H (lv σ (env.set i none) ++ ts) := by
  cases e : getE env i with
  | none => rw [lv_none_of hl e]; exact s
  | some o =>
    obtain ⟨v, _, s1⟩ := s.take hl e
    exact s1.tail
theorem Hs.store (hl : env.length = σ.length) (hi : i < σ.length) (s : Hs K FA w F H ((some v, o) :: (lv σ env ++ ts))) : Hs K FA w F H (lv (σ.set i (some v)) (env.set i (some o)) ++ ts) := by
  refine Hs.put hl hi ?_
  have s1 : Hs K FA w F H (lv σ env ++ ((some v, o) :: ts)) := s.perm (List.perm_middle.symm)
  exact (s1.forget hl (i := i)).perm List.perm_middle
/-- the slot's value, seen -/
theorem Hs.slotView (hl : env.length = σ.length) (e : getE env i = some o) (s : Hs K FA w F H (lv σ env ++ ts)) : ∃ v, σ[i]? = some (some v) ∧ Rep K FA H v o.toD := by
  obtain ⟨v, e1, s1⟩ := s.take hl e
  exact ⟨v, e1, s1.view⟩
theorem Hs.slotRep (hl : env.length = σ.length) (e : getE env i = some (.z d)) (s : Hs K FA w F H (lv σ env ++ ts)) : ∃ v, σ[i]? = some (some v) ∧ Rep K FA F v d := by
  obtain ⟨v, e1, s1⟩ := s.take hl e
  exact ⟨v, e1, s1.rep⟩
/-- a value that is looked at: it stands for good, or its own list is read and its items stand for good -/
inductive RepV (K : PySem.W.Frag) (FA : Fns) (F H : Hp) : V → D → Prop
  | rep {v : V} {d : D} : Rep K FA F v d → RepV K FA F H v d
  | l {a : Addr} {vs : List V} {ds : List D} : H a = some (.lst vs) → Reps K FA F vs ds → RepV K FA F H (.ref a) (.lst ds)
theorem RepV.mono (h : RepV K FA F H v d) (s : Sub F F') (t : Sub H H') : RepV K FA F' H' v d := by
  cases h with
  | rep h => exact .rep (h.mono s)
  | l h r => exact .l (t _ _ h) (r.mono s)
theorem RepV.view (h : RepV K FA F H v d) (s : Sub F H) : Rep K FA H v d := by
  cases h with
  | rep h => exact h.mono s
  | l h r => exact .lst h (r.mono s)
theorem RepV.lst {ds : List D} (h : RepV K FA F H v (.lst ds)) (s : Sub F H) : ∃ a vs, v = .ref a ∧ H a = some (.lst vs) ∧ Reps K FA F vs ds := by
  cases h with
  | rep h =>
    cases h with
    | lst h r => exact ⟨_, _, rfl, s _ _ h, r⟩
  | l h r => exact ⟨_, _, rfl, h, r⟩
theorem RepV.tup {ds : List D} (h : RepV K FA F H v (.tup ds)) (s : Sub F H) : ∃ a vs, v = .ref a ∧ H a = some (.tup vs) ∧ Reps K FA F vs ds := by
  cases h with
  | rep h =>
    cases h with
    | tup h r => exact ⟨_, _, rfl, s _ _ h, r⟩
theorem RepV.int {n : Int} (h : RepV K FA F H v (.int n)) : v = .int n := by
  cases h with
  | rep h => cases h; rfl
theorem RepV.scr {ns : List Int} (h : RepV K FA F H v (.scr ns)) (s : Sub F H) : ∃ a, v = .ref a ∧ SqL K H a (ns.map V.int) := by
  cases h with
  | rep h =>
    cases h with
    | scr h => exact ⟨_, rfl, SqL.sub s h⟩
theorem RepOs.allZ' {os : List O} {vs : List V} {A : List Addr} (h : RepOs K FA F H vs os A) (e : os.all O.isZ = true) : A = [] ∧ Reps K FA F vs (O.toDs os) := h.allZ e
theorem RepO.viewV {A : List Addr} (t : Tups H F) (h : RepO K FA F H v o A) (e : o.flat = true) : RepV K FA F H v o.toD := by
  cases h with
  | z h => simp only [O.toD]; exact .rep h
  | l h r =>
    simp only [O.toD]
    obtain ⟨_, q⟩ := r.allZ (by simpa [O.flat] using e)
    exact .l h q
  | t h r =>
    simp only [O.toD]
    obtain ⟨_, q⟩ := r.allZ (by simpa [O.flat] using e)
    exact .rep (.tup (t _ _ h) q)
/-- an owned list is written -/
theorem Hs.write {a : Addr} {vs vs' : List V} {os' : List O} {A' B : List Addr} (hr : HR w F H) (h : H a = some (.lst vs)) (r : RepOs K FA F H vs' os' A') (rB : RepL K FA F H ps B)
    (nd : (a :: (A' ++ B)).Nodup) (q : ∀ x ∈ a :: (A' ++ B), F x = none ∧ (x ∈ w.M ∨ w.H0 x = none)) : Hs K FA w F (upd H a (.lst vs')) ((some (.ref a), .l os') :: ps) := by
  have na : ∀ x ∈ A' ++ B, x ≠ a := fun x m z => by
    have := (List.nodup_cons.mp nd).1
    rw [z] at m
    exact this m
  have fa : F a = none := (q a List.mem_cons_self).1
  have tp : Tups H (upd H a (.lst vs')) := fun x xs e => by
    rw [upd_ne (ne_of e h fun z => by cases z)]; exact e
  refine ⟨⟨fun x o e => ?_, hr.sub0, hr.new, fun x o e m => ?_, fun x e => ?_, fun x xs e => ?_, Tabs.stay hr.tabs fun b o e n => by rw [upd_ne (fun z => by rw [z, h] at e; cases e; exact n _ rfl)]; exact e, hr.ntb⟩, a :: A' ++ B, RepL.cons (A := a :: A') (.l upd_same (r.frame (Sub.refl _) (fun x m => upd_ne (na x (List.mem_append_left _ m))) tp)) (rB.frame (Sub.refl _) (fun x m => upd_ne (na x (List.mem_append_right _ m))) tp), by simpa using nd, fun x m => q x (by simpa using m)⟩
  · have : x ≠ a := fun z => by rw [z, fa] at e; cases e
    rw [upd_ne this]; exact hr.sub _ _ e
  · have : x ≠ a := fun z => by
      subst z
      rcases (q x List.mem_cons_self).2 with z | z
      · exact m z
      · rw [z] at e; cases e
    rw [upd_ne this]; exact hr.keep _ _ e m
  · by_cases z : x = a
    · rw [z, upd_same] at e; cases e
    · rw [upd_ne z] at e; exact hr.dom _ e
  · by_cases z : x = a
    · rw [z, upd_same] at e; cases e
    · rw [upd_ne z] at e; exact hr.tups _ _ e
theorem Hs.own {os : List O} (s : Hs K FA w F H ((some v, .l os) :: ps)) : ∃ a vs, v = .ref a ∧ H a = some (.lst vs) ∧ vs.length = os.length := by
  obtain ⟨A, h⟩ := s.head
  cases h with
  | l h r => exact ⟨_, _, rfl, h, r.length⟩
theorem Hs.append {os : List O} {a : Addr} {vs : List V} {y : V} (h : H a = some (.lst vs)) (s : Hs K FA w F H ((some (.ref a), .l os) :: (some y, o) :: ps)) :
    Hs K FA w F (upd H a (.lst (vs ++ [y]))) ((some (.ref a), .l (os ++ [o])) :: ps) := by
  obtain ⟨hr, C, r, nd, q⟩ := s
  cases r with
  | cons h1 r =>
    cases h1 with
    | l h2 r2 =>
      cases r with
      | cons h3 r3 =>
        rename_i vs2 A1 A3 B3
        rw [h] at h2; cases h2
        have r4 := r2.append (RepOs.cons h3 .nil)
        have e : a :: A1 ++ (A3 ++ B3) = a :: (A1 ++ (A3 ++ []) ++ B3) := by simp
        rw [e] at nd q
        exact Hs.write hr h r4 r3 nd q
theorem Hs.setAt {os : List O} {a : Addr} {vs : List V} {y : V} (h : H a = some (.lst vs)) (hi : i < os.length) (s : Hs K FA w F H ((some (.ref a), .l os) :: (some y, o) :: ps)) :
    Hs K FA w F (upd H a (.lst (vs.set i y))) ((some (.ref a), .l (os.set i o)) :: ps) := by
  obtain ⟨hr, C, r, nd, q⟩ := s
  cases r with
  | cons h1 r =>
    cases h1 with
    | l h2 r2 =>
      cases r with
      | cons h3 r3 =>
        rename_i vs2 A1 A3 B3
        rw [h] at h2; cases h2
        obtain ⟨Ar, r4, Ad, p⟩ := RepOs.set h3 r2 hi
        have p2 : (a :: A1 ++ (A3 ++ B3)).Perm (Ad ++ (a :: (Ar ++ B3))) := by
          have q1 : (a :: A1 ++ (A3 ++ B3)).Perm (a :: ((Ad ++ Ar) ++ B3)) := by
            rw [List.cons_append]
            refine List.Perm.cons a ?_
            rw [← List.append_assoc]
            exact ((List.perm_append_comm).trans p.symm).append_right B3
          refine q1.trans ?_
          rw [List.append_assoc]
          exact List.perm_middle.symm
        have nd2 := (List.nodup_append.mp (p2.nodup_iff.mp nd)).2.1
        exact Hs.write hr h r4 r3 nd2 fun x m => q x (p2.mem_iff.mpr (List.mem_append_right _ m))
/-- an item leaves an owned list -/
theorem Hs.erase {os : List O} {a : Addr} {vs : List V} (h : H a = some (.lst vs)) (hi : os[i]? = some o) (s : Hs K FA w F H ((some (.ref a), .l os) :: ps)) :
    ∃ y, vs[i]? = some y ∧ Hs K FA w F (upd H a (.lst (vs.eraseIdx i))) ((some y, o) :: (some (.ref a), .l (os.eraseIdx i)) :: ps) := by
  obtain ⟨hr, C, r, nd, q⟩ := s
  cases r with
  | @cons _ _ _ _ B1 h1 r =>
    cases h1 with
    | @l _ vs2 _ A1 h2 r2 =>
      rw [h] at h2; cases h2
      obtain ⟨y, Ao, Ar, e1, r3, r4, p⟩ := r2.pick hi
      refine ⟨y, e1, ?_⟩
      have p2 : (a :: A1 ++ B1).Perm (a :: (Ar ++ (Ao ++ B1))) := by
        rw [List.cons_append]
        refine List.Perm.cons a ?_
        refine (p.append_right B1).trans ?_
        rw [← List.append_assoc]
        exact List.perm_append_comm.append_right B1
      have s2 := Hs.write hr h r4 (RepL.cons r3 r) (p2.nodup_iff.mp nd) fun x m => q x (p2.mem_iff.mpr m)
      exact s2.perm (.swap _ _ _)
/-- (..) of values that stand for good -/
theorem Hs.mkTup {os : List O} {vs : List V} {p : Addr} (hl : vs.length = os.length) (s : Hs K FA w F H ((vs.map Option.some).zip os ++ ps)) (hp : H p = none) :
    Hs K FA w (upd F p (.tup vs)) (upd H p (.tup vs)) ((some (.ref p), if os.all O.isZ then .z (.tup (O.toDs os)) else .t os) :: ps) := by
  have s1 := s.allocT (xs := vs) hp
  by_cases z : os.all O.isZ = true
  · rw [if_pos z]
    obtain ⟨hr, A, r, nd, q⟩ := s1
    obtain ⟨A1, B1, rfl, r1, r2⟩ := RepL.to_os hl r
    obtain ⟨rfl, r3⟩ := r1.allZ z
    exact ⟨hr, B1, RepL.cons (A := []) (.z (.tup upd_same r3)) r2, nd, q⟩
  · rw [if_neg z]
    obtain ⟨hr, A, r, nd, q⟩ := s1
    obtain ⟨A1, B1, rfl, r1, r2⟩ := RepL.to_os hl r
    exact ⟨hr, A1 ++ B1, RepL.cons (.t upd_same r1) r2, nd, q⟩
/-- a new list of values that stand for good -/
theorem Hs.newList {ds : List D} {vs : List V} {p : Addr} (s : Hs K FA w F H ps) (r : Reps K FA F vs ds) (hp : H p = none) : Hs K FA w F (upd H p (.lst vs)) ((some (.ref p), .l (ds.map .z)) :: ps) := by
  have hl : vs.length = (ds.map O.z).length := by rw [List.length_map]; exact r.length
  refine Hs.mkList hl ?_ hp
  obtain ⟨hr, A, r1, nd, q⟩ := s
  exact ⟨hr, A, RepL.of_os (A := []) (RepOs.of_reps r) r1, nd, q⟩
/-- the owned addresses of a new value are new -/
def Fresh (K : PySem.W.Frag) (FA : Fns) (F' H H' : Hp) (v : V) (o : O) : Prop := ∃ A, RepO K FA F' H' v o A ∧ ∀ a ∈ A, H a = none
/-- the environment again as it was: nothing was changed, and what came shares no list -/
theorem Hs.restore {env1 : Env} (s : Hs K FA w F H (lv σ env ++ ts)) (s1 : Hs K FA w F' H' ((some v, o) :: (lv σ env1 ++ ts))) (hH : Sub H H') (hF : Sub F F') (fr : Fresh K FA F' H H' v o) (c : o.clean = true) :
    ∃ F2, Sub F F2 ∧ Fresh K FA F2 H H' v o ∧ Hs K FA w F2 H' ((some v, o) :: (lv σ env ++ ts)) := by
  obtain ⟨hr, B, rB, ndB, qB⟩ := s
  obtain ⟨hr1, C, rC, ndC, qC⟩ := s1
  obtain ⟨A, rA, nA⟩ := fr
  cases rC with
  | cons rA' rC =>
    rename_i A' B'
    obtain rfl := rA.uniq rA'
    let F2 : Hp := fun a => match F a with
      | some ob => some ob
      | none => match H' a with
        | some (.tup xs) => some (.tup xs)
        | _ => none
    have f2a : ∀ a ob, F a = some ob → F2 a = some ob := fun a ob e => by show (match F a with | some ob => some ob | none => _) = _; rw [e]
    have f2t : ∀ a xs, F a = none → H' a = some (.tup xs) → F2 a = some (.tup xs) := fun a xs e e' => by
      show (match F a with | some ob => some ob | none => match H' a with | some (.tup xs) => some (.tup xs) | _ => none) = _
      rw [e, e']
    have f2i : ∀ a ob, F2 a = some ob → F a = some ob ∨ (F a = none ∧ ∃ xs, ob = .tup xs ∧ H' a = some (.tup xs)) := fun a ob e => by
      have e : (match F a with | some ob => some ob | none => match H' a with | some (.tup xs) => some (.tup xs) | _ => none) = some ob := e
      cases q : F a with
      | some x => rw [q] at e; exact .inl e
      | none =>
        rw [q] at e
        cases q' : H' a with
        | none => rw [q'] at e; cases e
        | some x =>
          rw [q'] at e
          cases x <;> first | cases e; exact .inr ⟨rfl, _, rfl, rfl⟩ | cases e
    have tups2 : Tups H' F2 := fun a xs e => by
      cases q : F a with
      | none => exact f2t a xs q e
      | some ob =>
        have := hF _ _ q
        have h2 := hr1.sub _ _ this
        rw [e] at h2; cases h2
        exact f2a a _ q
    have hr2 : HR w F2 H' := ⟨fun a ob e => by
        rcases f2i a ob e with z | ⟨_, xs, z1, z2⟩
        · exact hr1.sub _ _ (hF _ _ z)
        · rw [z1]; exact z2,
      fun a ob e => f2a a ob (hr.sub0 a ob e), fun a ob e => by
        rcases f2i a ob e with z | ⟨n, xs, z1, z2⟩
        · exact hr.new a ob z
        · refine .inr (.inl (hr.dom a ?_))
          cases q : H a with
          | none => rfl
          | some x =>
            have h2 := hH _ _ q
            rw [z2] at h2
            cases h2
            have h3 := hr.tups _ _ q
            rw [n] at h3
            exact (nomatch h3), hr1.keep, hr1.dom, tups2, hr1.tabs, fun a ps e => by
        rcases f2i a _ e with z | ⟨_, xs, z1, _⟩
        · exact hr.ntb a ps z
        · cases z1⟩
    have sub2 : Sub F F2 := f2a
    have t12 : Tups F' F2 := fun a xs e => tups2 a xs (hr1.sub _ _ e)
    have rA2 := rA.clean t12 c
    have rB2 : RepL K FA F2 H' (lv σ env ++ ts) B := rB.frame sub2 (fun a m => by
      obtain ⟨xs, e⟩ := rB.dom a m
      rw [e]; exact hH _ _ e) hH.tups
    refine ⟨F2, sub2, ⟨A, rA2, nA⟩, hr2, A ++ B, RepL.cons rA2 rB2, List.nodup_append.mpr ⟨(List.nodup_append.mp ndC).1, ndB, fun a ma b mb e => ?_⟩, fun a m => ?_⟩
    · obtain ⟨xs, q⟩ := rB.dom b mb
      rw [e] at ma
      rw [nA b ma] at q; cases q
    · have nt : ∃ xs, H' a = some (.lst xs) := by
        rcases List.mem_append.mp m with m | m
        · exact rA2.dom a m
        · obtain ⟨xs, e⟩ := rB.dom a m
          exact ⟨xs, hH _ _ e⟩
      have fn : F a = none := by
        rcases List.mem_append.mp m with m | m
        · cases q : F a with
          | none => rfl
          | some x =>
            have := hr.sub _ _ q
            rw [nA a m] at this; cases this
        · exact (qB a m).1
      refine ⟨?_, ?_⟩
      · cases q : F2 a with
        | none => rfl
        | some x =>
          obtain ⟨xs, e⟩ := nt
          rcases f2i a x q with z | ⟨_, ys, rfl, z⟩
          · rw [fn] at z; cases z
          · rw [e] at z; cases z
      · rcases List.mem_append.mp m with m | m
        · exact .inr (hr.dom a (nA a m))
        · exact (qB a m).2
end
end RF
/-! RFd: what the text must look like; what a def promises; what a reading says. -/
namespace RF
open L2 PySem PySem.Spec PyProof.Rows
/-! ### the look at the text -/
structure Names where
  kw : List (Nat × Nat × List Str × List Nat)
  fn : Nat → Option Str
  kn : Nat → Option (Str × Int)
  pars : Nat → List Str
  mks : Bool
  lamB : Nat → Arguments → Scope → Expr → Bool
def kd (sc : Scope) (x : Str) : Option NameKind := sc.names.lookup x
def visB (N : List Str) (sc : Scope) (i : Nat) (x : Str) : Bool :=
  decide (N[i]? = some x) && (decide (kd sc x = some .local) || decide (kd sc x = some .cell) || decide (kd sc x = some .free)) && !(x == "__debug__") && !(x == "__classdict__")
def locB (N : List Str) (sc : Scope) (i : Nat) (x : Str) : Bool := decide (N[i]? = some x) && (decide (kd sc x = some .local) || decide (kd sc x = some .cell))
def glB (sc : Scope) (x : Str) : Bool := decide (kd sc x = some .globalImplicit) && !(x == "__debug__")
def bopIs : Bop → Operator → Bool
  | .add, .Add => true | .sub, .Sub => true | .mul, .Mult => true | .fdiv, .FloorDiv => true | .mod, .Mod => true | .pow, .Pow => true
  | _, _ => false
def copIs : Cop → CmpOp → Bool
  | .eq, .Eq => true | .ne, .NotEq => true | .lt, .Lt => true | .le, .LtE => true | .gt, .Gt => true | .ge, .GtE => true
  | .mem, .In => true | .nmem, .NotIn => true | .is, .Is => true | .isn, .IsNot => true
  | _, _ => false
def bltIs : Blt → Nat → Str → Bool
  | .len, 1, x => x == "len" | .abs, 1, x => x == "abs" | .sum, 1, x => x == "sum" | .max1, 1, x => x == "max" | .min1, 1, x => x == "min"
  | .max2, 2, x => x == "max" | .min2, 2, x => x == "min" | .int, 1, x => x == "int" | .list, 1, x => x == "list" | .tuple, 1, x => x == "tuple"
  | .all, 1, x => x == "all"
  | _, _, _ => false
def tyIs : Ty → Expr → Scope → Bool
  | .int, .Name x _, sc => x == "int" && glB sc x
  | .bool, .Name x _, sc => x == "bool" && glB sc x
  | .str, .Name x _, sc => x == "str" && glB sc x
  | .list, .Name x _, sc => x == "list" && glB sc x
  | .tuple, .Name x _, sc => x == "tuple" && glB sc x
  | .lt, .Tuple [.Name x _, .Name y _] _ _, sc => x == "list" && glB sc x && y == "tuple" && glB sc y
  | _, _, _ => false
def noMark (op : CmpOp) (b : Expr) : Bool := !behindInMarks op b
/-- the names of a target -/
def tgIs (N : List Str) (sc : Scope) : Tg → Expr → Bool
  | .nm i, .Name x _ => locB N sc i x
  | .tp is, .Tuple es _ _ => go is es
  | _, _ => false
where go : List Nat → List Expr → Bool
  | [], [] => true
  | i :: is, .Name x _ :: es => locB N sc i x && go is es
  | _, _ => false
def tgSlots : Tg → List Nat
  | .nm i => [i]
  | .tp is => is
def ownOf (N : List Str) (own : List Nat) : List (Str × Nat) := own.map fun i => (N.getD i "", i)
def kwNames : List Keyword → List Str
  | [] => []
  | ⟨.some n, _, _⟩ :: r => n :: kwNames r
  | ⟨.none, _, _⟩ :: r => kwNames r
def xsLen : Xs → Nat
  | .nil => 0
  | .cons _ es => xsLen es + 1
mutual
def isE (Nm : Names) (N : List Str) : X → Scope → Expr → Bool
  | .v i, sc, e => (match e with | .Name x _ => visB N sc i x | _ => false)
  | .non, _, e => (match e with | .Constant .none _ _ => true | _ => false)
  | .tt b, _, e => (match e with | .Constant (.bool c) _ _ => b == c | _ => false)
  | .n i, _, e => (match e with | .Constant (.int j) _ _ => decide (i = j) | _ => false)
  | .s x, _, e => (match e with | .Constant (.str y) _ _ => decide (x = y) | _ => false)
  | .g f, sc, e => (match e with | .Name x _ => decide (Nm.fn f = some x) && glB sc x | _ => false)
  | .gk j i, sc, e => (match e with | .Name x _ => decide (Nm.kn j = some (x, i)) && glB sc x | _ => false)
  | .tup es, sc, e => (match e with | .Tuple us _ _ => isEs Nm N es sc us && decide (us.length ≤ 1000) | _ => false)
  | .lst es, sc, e => (match e with | .List us _ => isEs Nm N es sc us && decide (us.length ≤ 1000) | _ => false)
  | .bin o a b, sc, e => (match e with | .BinOp x op y _ => bopIs o op && isE Nm N a sc x && isE Nm N b sc y | _ => false)
  | .neg a, sc, e => (match e with | .UnaryOp .USub x _ => isE Nm N a sc x | _ => false)
  | .cmp o a b, sc, e => (match e with | .Compare x [op] [y] _ => copIs o op && noMark op y && isE Nm N a sc x && isE Nm N b sc y | _ => false)
  | .cmp2 o p a b c, sc, e => (match e with | .Compare x [op, op'] [y, z] _ => copIs o op && copIs p op' && noMark op' z && isE Nm N a sc x && isE Nm N b sc y && isE Nm N c sc z | _ => false)
  | .and es, sc, e => (match e with | .BoolOp .And us _ => isEs Nm N es sc us | _ => false)
  | .or es, sc, e => (match e with | .BoolOp .Or us _ => isEs Nm N es sc us | _ => false)
  | .not a, sc, e => (match e with | .UnaryOp .Not x _ => isE Nm N a sc x | _ => false)
  | .ite c a b, sc, e => (match e with | .IfExp x y z _ => isE Nm N c sc x && isE Nm N a sc y && isE Nm N b sc z | _ => false)
  | .ix a i, sc, e => (match e with | .Subscript x y _ => isE Nm N a sc x && isE Nm N i sc y | _ => false)
  | .sl a lo hi, sc, e => (match e with | .Subscript x (.Slice l h .none _) _ => isE Nm N a sc x && isEo Nm N lo sc l && isEo Nm N hi sc h | _ => false)
  | .rev a, sc, e => (match e with | .Subscript x (.Slice .none .none (.some (.UnaryOp .USub (.Constant (.int 1) _ _) _)) _) _ => isE Nm N a sc x | _ => false)
  | .call p f es, sc, e => (match e with | .Call (.Name x _) us [] _ => decide (Nm.fn f = some x) && glB sc x && isEs Nm N es sc us && (!p || pureXs es) | _ => false)
  | .callk f es ks perm, sc, e => (match e with | .Call (.Name x _) us kws _ => decide (Nm.fn f = some x) && glB sc x && isEs Nm N es sc us && isKs Nm N ks sc kws && pureXs es && pureXs ks && decide (0 < kws.length) && Nm.kw.contains (f, us.length, kwNames kws, perm) | _ => false)
  | .callv i es, sc, e => (match e with | .Call (.Name x _) us [] _ => visB N sc i x && isEs Nm N es sc us && pureXs es | _ => false)
  | .blt b es, sc, e => (match e with | .Call (.Name x _) us [] _ => bltIs b us.length x && glB sc x && isEs Nm N es sc us | _ => false)
  | .lrange it, sc, e => (match e with | .Call (.Name x _) [u] [] _ => x == "list" && glB sc x && (match it with | .rng1 _ => true | .rng2 _ _ => true | _ => false) && isIt Nm N it sc (.Name "x" ⟨0, 0, 0, 0⟩) u | _ => false)
  | .isi t a, sc, e => (match e with | .Call (.Name x _) [u, c] [] _ => x == "isinstance" && glB sc x && isE Nm N a sc u && tyIs t c sc | _ => false)
  | .bits a, sc, e => (match e with | .Call (.Attribute (.Name x px) m p) [] [] q => m == "bit_length" && (p.endLine == q.line) && isE Nm N a sc (.Name x px) | _ => false)
  | .comp elt t it c own, sc, e => (match e with | .ListComp u [⟨tg, iu, ifs, 0⟩] sc' _ => blkC N sc sc' (ownOf N own) && own.all (fun i => decide (i < N.length)) && decide own.Nodup && (tgSlots t).all (fun i => own.contains i) && isIt Nm N it sc tg iu && tgIs N sc' t tg && isIfs Nm N c sc' ifs && isE Nm N elt sc' u | _ => false)
  | .pop i, sc, e => (match e with | .Call (.Attribute (.Name x _) m p) [] [] q => m == "pop" && (p.endLine == q.line) && visB N sc i x | _ => false)
  | .popAt i k, sc, e => (match e with | .Call (.Attribute (.Name x _) m p) [u] [] q => m == "pop" && (p.endLine == q.line) && visB N sc i x && isE Nm N k sc u | _ => false)
  | .lam k is, _, e => (match e with | .Lambda params body scope _ => Nm.mks && is.isEmpty && Nm.lamB k params scope body | _ => false)
def isEs (Nm : Names) (N : List Str) : Xs → Scope → List Expr → Bool
  | .nil, _, [] => true
  | .cons e es, sc, u :: us => isE Nm N e sc u && isEs Nm N es sc us
  | _, _, _ => false
def isKs (Nm : Names) (N : List Str) : Xs → Scope → List Keyword → Bool
  | .nil, _, [] => true
  | .cons e es, sc, ⟨.some _, u, _⟩ :: us => isE Nm N e sc u && isKs Nm N es sc us
  | _, _, _ => false
def isEo (Nm : Names) (N : List Str) : Xo → Scope → Option Expr → Bool
  | .none, _, .none => true
  | .some e, sc, .some u => isE Nm N e sc u
  | _, _, _ => false
def isIfs (Nm : Names) (N : List Str) : Xo → Scope → List Expr → Bool
  | .none, _, [] => true
  | .some e, sc, [u] => isE Nm N e sc u
  | _, _, _ => false
def isIt (Nm : Names) (N : List Str) : It → Scope → Expr → Expr → Bool
  | .seq a, sc, _, u => isE Nm N a sc u
  | .rng1 a, sc, _, e => (match e with | .Call (.Name x _) [u] [] _ => x == "range" && glB sc x && isE Nm N a sc u | _ => false)
  | .rng2 a b, sc, _, e => (match e with | .Call (.Name x _) [u, v] [] _ => x == "range" && glB sc x && isE Nm N a sc u && isE Nm N b sc v | _ => false)
  | .enum a, sc, tg, e => (match e with | .Call (.Name x _) [u] [] _ => x == "enumerate" && glB sc x && isE Nm N a sc u && (match tg with | .Tuple _ _ _ => true | _ => false) | _ => false)
  | .rng3 _ _ _, _, _, _ => false
end
/-! ### promises -/
def modeOk : List Bool → List O → Bool
  | [], [] => true
  | false :: ms, .z _ :: os => modeOk ms os
  | true :: ms, .l us :: os => us.all O.isZ && modeOk ms os
  | _, _ => false
/-- what the owned parameters hold behind the call -/
def outsOf : List Bool → List V → List O → List (Option V × O)
  | true :: ms, v :: vs, o :: os => (some v, o) :: outsOf ms vs os
  | false :: ms, _ :: vs, os => outsOf ms vs os
  | _, _, _ => []
/-- an exception's fields -/
def ExcAt (K : PySem.W.Frag) (FA : Fns) (F' H' : Hp) (ds : List D) (od : Option Addr) : Prop :=
  ds = [] ∨ ∃ dx v d, ds = [d] ∧ od = some dx ∧ H' dx = some (.xd [("value", v)]) ∧ Rep K FA F' v d
/-- the arguments in the parameters' order -/
def permL {α : Type} (dflt : α) (us ws : List α) (perm : List Nat) : List α := perm.map fun j => (us ++ ws).getD j dflt
def topA : List V → List O → List Addr
  | .ref a :: vs, .l _ :: os => a :: topA vs os
  | _ :: vs, _ :: os => topA vs os
  | _, _ => []
/-- the promise of a def that does g -/
def spG (K : PySem.W.Frag) (FA : Fns) (CA : Nat → Option Addr) (ms : List Bool) (g : List O → CR) : Sp := fun vs H Q E =>
  ∃ (F : Hp) (os : List O), vs.length = ms.length ∧ modeOk ms os = true ∧ Hs K FA ⟨H, topA vs os, F, []⟩ F H ((vs.map some).zip os) ∧
    match g os with
    | .rt o outs => ∀ v H' F', Sub F F' → Hs K FA ⟨H, topA vs os, F, []⟩ F' H' ((some v, o) :: outsOf ms vs outs) → Q v H'
    | .ex c ds => ∀ H' F' od a, CA c = some a → Sub F F' → HR ⟨H, topA vs os, F, []⟩ F' H' → ExcAt K FA F' H' ds od → E (.ref a) od H'
    | .no => False
/-- the promise of a lambda that stands at f -/
def spK (K : PySem.W.Frag) (FA : Fns) (CA : Nat → Option Addr) (ms : List Bool) (g : List O → CR) (f c : Addr) (L : LamD) (pm ctv : Value) : Sp := fun vs H Q E =>
  H f = some (LamO f c L pm ctv) ∧ H c = some (LamX.CodeO c L.qual) ∧ spG K FA CA ms g vs H Q E
/-! ### the context -/
structure ScR (X : Cx) (sc : Scope) : Prop where
  loc : ∀ x, kd sc x = some .local → X.env.scope.names.lookup x = some .local
  cell : ∀ x, kd sc x = some .cell → X.env.scope.names.lookup x = some .cell ∧ X.fn x = true
  free : ∀ x, kd sc x = some .free → X.env.scope.names.lookup x = some .cell ∨ X.env.scope.names.lookup x = some .free
  glob : ∀ x, kd sc x = some .globalImplicit → X.env.scope.names.lookup x = some .globalImplicit
/-- what the making of a lambda needs -/
structure MkOk (Nm : Names) (FA : Fns) (X : Cx) (w : W0) : Prop where
  tab : ∃ c P, X.env.code = .ref c ∧ LamX.TabB X.base X.mg c P ∧ (P, X.env.qual ++ "<lambda>") ∈ w.T ∧ (∀ p ∈ w.T, p.1 = P → p.2 = X.env.qual ++ "<lambda>") ∧ P ∈ w.M
  ml : ∀ k params scope body, Nm.lamB k params scope body = true → FA.ml k ⟨X.env.qual ++ "<lambda>", params, body, scope⟩ ∧ (∀ y ∈ scope.names, y.2 ≠ .free) ∧ ∀ env, defaultsOf params env = ([], [])
structure ScM (Nm : Names) (FA : Fns) (X : Cx) (w : W0) (sc : Scope) : Prop extends ScR X sc where
  mks : Nm.mks = true → MkOk Nm FA X w
def bltNames : List Str := ["len", "abs", "sum", "max", "min", "int", "list", "tuple", "sorted", "all", "str", "repr", "range", "enumerate", "isinstance", "bool", "set"]
structure Cok (Nm : Names) (FA : Fns) (CA : Nat → Option Addr) (C : Cfg) (X : Cx) (W : WX) : Prop where
  calm : X.calm = true
  nd : X.N.Nodup
  un : X.A.units + 65 < cLine
  takes : Takes X W
  fns : ∀ f a, FA f = some a → ∃ x k fd, Nm.fn f = some x ∧ X.mg x = some (.ref a) ∧ PySem.W.keepIn X.K (.ref a) = true ∧ Binds X.K fd (Nm.pars f) [] ∧ Room k X.A ∧
    FnOk X.prog X.w X.K X.mg X.base (CX X.prog X.w) k a fd (Nm.pars f) (spG X.K FA CA (C.sig f) (C.call f)) ∧
    ∀ n ks perm, (f, n, ks, perm) ∈ Nm.kw → ∀ (s : Shared) (us ws : List Value), X.K.In s.heap → us.length = n → ws.length = ks.length → BindsTo s fd ⟨us, ks.zip ws⟩ ((Nm.pars f).zip (permL .none us ws perm))
  lam : ∀ k L, FA.ml k L → ∃ n ps, Room n X.A ∧ (∀ (c : Addr) (pm ctv : Value) (us : List Value), us.length = ps.length → bindArgs (L.fd c pm ctv) ⟨us, []⟩ = pure (ps.zip us)) ∧
    ∀ f c pm ctv, FnOk X.prog X.w X.K X.mg X.base (CX X.prog X.w) n f (L.fd c pm ctv) ps (spK X.K FA CA (C.sig k) (C.call k) f c L pm ctv)
  has : ∀ f x, Nm.fn f = some x → ∃ a, FA f = some a
  kns : ∀ j x i, Nm.kn j = some (x, i) → ∃ t, X.mg x = some (.int i t)
  blt : ∀ x ∈ bltNames, X.mg x = none
theorem takesF {X : Cx} : Takes X (fun _ _ _ _ => False) := fun _ _ ⟨_, _, _, _, _, _, _, _, _, _, _, _, _, _, _, _, z⟩ => z.elim
theorem Cok.blk {Nm : Names} {FA : Fns} {CA : Nat → Option Addr} {C : Cfg} {X : Cx} {W : WX} (c : Cok Nm FA CA C X W) (s : Shared) (H : Hp) (scope : Scope) (cenv : PySem.Env) (fp : List Addr) :
    Cok Nm FA CA C (X.blk s H scope cenv fp) (fun _ _ _ _ => False) :=
  ⟨c.calm, c.nd, c.un, takesF, c.fns, c.lam, c.has, c.kns, c.blt⟩
/-! ### readings -/
section
variable (K : PySem.W.Frag) (FA : Fns) (CA : Nat → Option Addr) (W : WX) (w : W0)
/-- the end of an expression -/
def Post (pu : Bool) (σ : L2.St) (F H : Hp) (ts : List (Option V × O)) (Q : VK) : R O → Prop
  | .ok o env' => ∀ v H' F', env'.length = σ.length → Hs K FA w F' H' ((some v, o) :: (lv σ env' ++ ts)) → Sub F F' → (pu = true → Sub H H' ∧ Fresh K FA F' H H' v o) → Q v H'
  | .ex c ds => ∀ H' F' od a, CA c = some a → Sub F F' → HR w F' H' → ExcAt K FA F' H' ds od → W (.ref a) od σ H'
  | .no => False
def tE (C : Cfg) (m : X) : TE := fun σ H Q => ∃ F ts env, env.length = σ.length ∧ Hs K FA w F H (lv σ env ++ ts) ∧ Post K FA CA W w (pureX m) σ F H ts Q (evalE C m env)
def PostV (pu fl : Bool) (σ : L2.St) (F H : Hp) (ts : List (Option V × O)) (Q : VK) : R D → Prop
  | .ok d env' => ∀ v H' F', env'.length = σ.length → Hs K FA w F' H' (lv σ env' ++ ts) → RepV K FA F' H' v d → (fl = false → Rep K FA F' v d) → Sub F F' → (pu = true → Sub H H') → Q v H'
  | .ex c ds => ∀ H' F' od a, CA c = some a → Sub F F' → HR w F' H' → ExcAt K FA F' H' ds od → W (.ref a) od σ H'
  | .no => False
def tV (C : Cfg) (fl : Bool) (m : X) : TE := fun σ H Q => ∃ F ts env, env.length = σ.length ∧ Hs K FA w F H (lv σ env ++ ts) ∧ PostV K FA CA W w (pureX m) fl σ F H ts Q (viewE fl m (evalE C m env) env)
end
end RF
/-! RFe: operators. -/
namespace RF
open L2 PySem PySem.Spec PyProof.Rows
theorem PE.imp {X : Cx} {e : Expr} {t t' : TE} (h : PE X e t) (i : ∀ σ H Q, t' σ H Q → t σ H Q) : PE X e t' := ⟨fun pins s σ H Q I q => h.run pins s σ H Q I (i _ _ _ q)⟩
theorem PT.imp {X : Cx} {e : Expr} {t t' : TT} (h : PT X e t) (i : ∀ σ H Q, t' σ H Q → t σ H Q) : PT X e t' := ⟨fun pins s σ H Q I q => h.run pins s σ H Q I (i _ _ _ q)⟩
theorem PA.imp {X : Cx} {e : List Expr} {t t' : TA} (h : PA X e t) (i : ∀ σ H Q, t' σ H Q → t σ H Q) : PA X e t' := ⟨fun pos pins s σ H Q I q => h.run pos pins s σ H Q I (i _ _ _ q)⟩
/-! ### data -/
mutual
theorem Rep.dp {K : PySem.W.Frag} {FA : Fns} {H : Hp} : ∀ (n : Nat) {d : D} {v : V}, d.ok n = true → Rep K FA H v d → Dp K H v d.py ∧ d.py.canLay0 = true ∧ d.py.depth ≤ n
  | _, _, _, _, .non => ⟨by simp only [D.py]; exact .non, by simp [D.py, PyData.canLay0], by simp [D.py, PyData.depth]⟩
  | _, _, _, _, .bl b => ⟨by simp only [D.py]; exact .bl b, by simp [D.py, PyData.canLay0], by simp [D.py, PyData.depth]⟩
  | _, _, _, _, .int i => ⟨by simp only [D.py]; exact .int i, by simp [D.py, PyData.canLay0], by simp [D.py, PyData.depth]⟩
  | n, .str x, _, e, .str _ => ⟨by simp only [D.py]; exact .str x, by cases n <;> simpa [D.py, PyData.canLay0, D.ok] using e, by simp [D.py, PyData.depth]⟩
  | 0, .lst _, _, e, _ => by simp [D.ok] at e
  | n + 1, .lst ds, _, e, .lst h r => by
    obtain ⟨h1, h2, h3⟩ := Reps.dp n (by simpa [D.ok] using e) r
    refine ⟨by simp only [D.py]; exact .lst (.of h) h1, by simpa [D.py, PyData.canLay0] using h2, ?_⟩
    simp only [D.py, PyData.depth]; omega
  | 0, .tup _, _, e, _ => by simp [D.ok] at e
  | n + 1, .tup ds, _, e, .tup h r => by
    obtain ⟨h1, h2, h3⟩ := Reps.dp n (by simpa [D.ok] using e) r
    refine ⟨by simp only [D.py]; exact .tup (.of h) h1, by simpa [D.py, PyData.canLay0] using h2, ?_⟩
    simp only [D.py, PyData.depth]; omega
  | n, .scr _, _, e, _ => by cases n <;> simp [D.ok] at e
  | n, .fn _, _, e, _ => by cases n <;> simp [D.ok] at e
  | n, .clo _ _, _, e, _ => by cases n <;> simp [D.ok] at e
theorem Reps.dp {K : PySem.W.Frag} {FA : Fns} {H : Hp} : ∀ (n : Nat) {ds : List D} {vs : List V}, (∀ d ∈ ds, d.ok n = true) → Reps K FA H vs ds → DpAll K H vs (D.pys ds) ∧ PyData.canLayAll0 (D.pys ds) = true ∧ PyData.depthAll (D.pys ds) ≤ n
  | n, _, _, _, .nil => ⟨by simp only [D.pys]; exact .nil, by simp [D.pys, PyData.canLayAll0], by simp [D.pys, PyData.depthAll]⟩
  | n, _, _, e, .cons h r => by
    obtain ⟨a1, a2, a3⟩ := Rep.dp n (e _ List.mem_cons_self) h
    obtain ⟨b1, b2, b3⟩ := Reps.dp n (fun d m => e d (List.mem_cons_of_mem _ m)) r
    refine ⟨by simp only [D.pys]; exact .cons a1 b1, by simp [D.pys, PyData.canLayAll0, a2, b2], ?_⟩
    simp only [D.pys, PyData.depthAll]; omega
end
theorem Rep.shaped {K : PySem.W.Frag} {FA : Fns} {H : Hp} {d : D} {v : V} (e : d.ok 60 = true) (r : Rep K FA H v d) : Dp K H v d.py ∧ SeqAt.shaped d.py = true := by
  obtain ⟨h1, h2, h3⟩ := r.dp 60 e
  exact ⟨h1, by unfold SeqAt.shaped; rw [h2, decide_eq_true (show d.py.depth ≤ 64 by omega)]; rfl⟩
/-! ### binary operators -/
section
variable {X : Cx}
/-- // by any divisor but nought -/
theorem op_fdivNW : OpR X (binaryOp .FloorDiv) (rI (fun _ j => j ≠ 0 ∧ j.natAbs.log2 < 9000) fun i j => .int (i.fdiv j)) := opI fun _ _ _ _ _ _ _ hc q => floordiv_int hc.1 q (.inl (PyProof.noPylong_of_log2 hc.2))
theorem op_powW : OpR X (binaryOp .Pow) (rI (fun i j => 0 ≤ j ∧ i.natAbs.log2 + 1 ≤ 3000 ∧ j ≤ 3000) fun i j => .int (i ^ j.toNat)) := opI fun i j _ _ _ _ _ hc q => by
  refine pow_int hc.1 ?_ q
  have b : Builtin.Int.intBits i ≤ i.natAbs.log2 + 1 := by
    unfold Builtin.Int.intBits
    split <;> omega
  have h1 : ((Builtin.Int.intBits i : Nat) : Int) ≤ 3000 := by omega
  have h2 : ((Builtin.Int.intBits i : Nat) : Int) * j ≤ 3000 * 3000 := Int.mul_le_mul h1 hc.2.2 hc.1 (by decide)
  exact Int.le_trans h2 (by decide)
def rBop (K : PySem.W.Frag) : Bop → R2
  | .add => fun x y H Q => rI0 (fun i j => .int (i + j)) x y H Q ∨ rCat x y H Q
  | .sub => rI0 fun i j => .int (i - j)
  | .mul => fun x y H Q => rI CMulW (fun i j => .int (i * j)) x y H Q ∨ rRep x y H Q
  | .fdiv => rI (fun _ j => j ≠ 0 ∧ j.natAbs.log2 < 9000) fun i j => .int (i.fdiv j)
  | .mod => rI (fun _ j => j ≠ 0) fun i j => .int (i.fmod j)
  | .pow => rI (fun i j => 0 ≤ j ∧ i.natAbs.log2 + 1 ≤ 3000 ∧ j ≤ 3000) fun i j => .int (i ^ j.toNat)
theorem op_bop {o : Bop} {op : Operator} (h : bopIs o op = true) : OpR X (binaryOp op) (rBop X.K o) := by
  cases o <;> cases op <;> first | (exact absurd h (by decide)) | skip
  · exact op_add.or op_cat
  · exact op_sub
  · exact op_mulW.or op_rep
  · exact op_fdivNW
  · exact op_modN
  · exact op_powW
theorem mulOk_ok {i j : Int} (h : mulOk i j = true) : CMulW i j := of_decide_eq_true (p := i.natAbs.log2 + j.natAbs.log2 < 1000000) h
theorem line20 {n m : Nat} (h : n < 2 ^ 20) (h' : m < 2 ^ 20) : n + m ≤ sizeLine := by
  have e : (sizeLine : Nat) = 2 ^ 24 := rfl
  omega
variable {FA : Fns} {w : W0} {F F' H H' : Hp} {ps : List (Option V × O)} {v x y : V} {o : O} {dx dy : D}
/-- a new value's state -/
def Done (K : PySem.W.Frag) (FA : Fns) (w : W0) (F H : Hp) (ps : List (Option V × O)) (o : O) (Q : VK) : Prop :=
  ∀ v H' F', Hs K FA w F' H' ((some v, o) :: ps) → Sub F F' → Sub H H' → Fresh K FA F' H H' v o → Q v H'
theorem Done.z {K : PySem.W.Frag} {d : D} {Q : VK} (h : Done K FA w F H ps (.z d) Q) (s : Hs K FA w F H ps) (r : Rep K FA F v d) : Q v H :=
  h v H F (s.add r) (Sub.refl _) (Sub.refl _) ⟨[], .z r, fun _ m => nomatch m⟩
theorem sub_upd {p : Addr} {ob : HO} (hp : H p = none) : Sub H (upd H p ob) := fun b z e => by rw [upd_ne (ne_of_none e hp)]; exact e
theorem Hs.freshList {K : PySem.W.Frag} {ds : List D} {vs : List V} {p : Addr} {Q : VK} (h : Done K FA w F H ps (.l (ds.map .z)) Q) (s : Hs K FA w F H ps) (r : Reps K FA F vs ds) (hp : H p = none) : Q (.ref p) (upd H p (.lst vs)) := by
  have s1 := s.newList r hp
  refine h _ _ F s1 (Sub.refl _) (sub_upd hp) ⟨[p], .l (A := []) upd_same (RepOs.of_reps r), fun a m => ?_⟩
  rw [List.mem_singleton.mp m]; exact hp
theorem bop_ok {K : PySem.W.Frag} {b : Bop} {Q : VK} (s : Hs K FA w F H ps) (hx : RepV K FA F H x dx) (hy : RepV K FA F H y dy) (e : binop b dx dy = some o) (h : Done K FA w F H ps o Q) : rBop K b x y H Q := by
  have two : ∀ {i j : Int}, dx = .int i → dy = .int j → x = .int i ∧ y = .int j := fun e1 e2 => by
    subst e1; subst e2
    exact ⟨hx.int, hy.int⟩
  unfold binop at e
  split at e
  · obtain ⟨rfl, rfl⟩ := two rfl rfl
    cases e
    exact .inl ⟨_, _, rfl, rfl, h.z s (.int _)⟩
  · split at e
    · rename_i hl
      cases e
      obtain ⟨a, vs, rfl, h1, r1⟩ := hx.lst s.1.sub
      obtain ⟨a', vs', rfl, h2, r2⟩ := hy.lst s.1.sub
      have hl' : (_ ∧ _) := Bool.and_eq_true_iff.mp hl
      exact .inr ⟨a, a', vs, vs', rfl, rfl, h1, h2, by
        rw [r1.length, r2.length]
        exact line20 (of_decide_eq_true hl'.1) (of_decide_eq_true hl'.2), fun p hp => Hs.freshList h s (r1.append r2) hp⟩
    · cases e
  · obtain ⟨rfl, rfl⟩ := two rfl rfl
    cases e
    exact ⟨_, _, rfl, rfl, h.z s (.int _)⟩
  · split at e
    · rename_i hm
      obtain ⟨rfl, rfl⟩ := two rfl rfl
      cases e
      exact .inl ⟨_, _, rfl, rfl, mulOk_ok hm, h.z s (.int _)⟩
    · cases e
  · split at e
    · rename_i hm
      cases e
      obtain ⟨a, vs, rfl, h1, r1⟩ := hx.lst s.1.sub
      have ey := hy.int
      subst ey
      have hm1 := Bool.and_eq_true_iff.mp hm
      have hm2 := Bool.and_eq_true_iff.mp hm1.1
      have b1 := of_decide_eq_true hm1.2
      have b2 := of_decide_eq_true hm2.1
      have b3 := of_decide_eq_true hm2.2
      refine .inr ⟨a, _, vs, rfl, rfl, h1, by omega, by omega, ?_, fun p hp => Hs.freshList h s (r1.rep _) hp⟩
      rw [r1.length]
      have : (sizeLine : Nat) = 2 ^ 24 := rfl
      rw [this]
      refine Nat.le_trans (Nat.mul_le_mul (Nat.le_of_lt b2) (show _ ≤ 1024 by omega)) (by decide)
    · cases e
  · split at e
    · rename_i hm
      obtain ⟨rfl, rfl⟩ := two rfl rfl
      cases e
      have hm' := Bool.and_eq_true_iff.mp hm
      exact ⟨_, _, rfl, rfl, ⟨of_decide_eq_true hm'.1, of_decide_eq_true hm'.2⟩, h.z s (.int _)⟩
    · cases e
  · split at e
    · rename_i hm
      obtain ⟨rfl, rfl⟩ := two rfl rfl
      cases e
      exact ⟨_, _, rfl, rfl, of_decide_eq_true hm, h.z s (.int _)⟩
    · cases e
  · split at e
    · rename_i hm
      obtain ⟨rfl, rfl⟩ := two rfl rfl
      cases e
      have hm1 := Bool.and_eq_true_iff.mp hm
      have hm2 := Bool.and_eq_true_iff.mp hm1.1
      exact ⟨_, _, rfl, rfl, ⟨of_decide_eq_true hm2.1, of_decide_eq_true hm2.2, of_decide_eq_true hm1.2⟩, h.z s (.int _)⟩
    · cases e
  · cases e
/-! ### comparisons -/
theorem plain_bl {x : V} {v : Value} {b : Bool} (r : RelV x v) : plainIs v (.bool b) = true := by
  cases x <;> first | (obtain ⟨t, rfl⟩ := r; rfl) | (cases r; rfl)
theorem op_isB : OpR X (compareOp .Is) (fun x y H Q => ∃ b, y = .bl b ∧ Q (.bl (decide (x = .bl b))) H) := by
  intro pins s σ H x y v u Q I rx ry h
  obtain ⟨b, rfl, q⟩ := h
  cases (show u = Value.bool b from ry)
  refine wpAny_is_plain (plain_bl rx) ⟨.bl _, H, I, ?_, q⟩
  show _ = _
  congr 1
  by_cases e : x = .bl b
  · subst e
    cases (show v = Value.bool b from rx)
    simp
  · rw [decide_eq_false e]
    refine beq_eq_false_iff_ne.mpr fun z => e ?_
    subst z
    exact RelV.inj (u := .bool b) rx rfl
theorem op_isnB : OpR X (compareOp .IsNot) (fun x y H Q => ∃ b, y = .bl b ∧ Q (.bl (!decide (x = .bl b))) H) := by
  intro pins s σ H x y v u Q I rx ry h
  obtain ⟨b, rfl, q⟩ := h
  cases (show u = Value.bool b from ry)
  refine wpAny_isNot_plain (plain_bl rx) ⟨.bl _, H, I, ?_, q⟩
  show _ = _
  congr 2
  by_cases e : x = .bl b
  · subst e
    cases (show v = Value.bool b from rx)
    simp
  · rw [decide_eq_false e]
    refine beq_eq_false_iff_ne.mpr fun z => e ?_
    subst z
    exact RelV.inj (u := .bool b) rx rfl
def rCop (K : PySem.W.Frag) : Cop → R2
  | .eq => rEqD K
  | .ne => rNeD K
  | .lt => fun x y H Q => rI0 (fun i j => .bl (decide (i < j))) x y H Q ∨ rLtT K x y H Q
  | .le => rI0 fun i j => .bl (decide (i ≤ j))
  | .gt => rI0 fun i j => .bl (decide (j < i))
  | .ge => rI0 fun i j => .bl (decide (j ≤ i))
  | .mem => rInD K
  | .nmem => rNotInD K
  | .is => fun x y H Q => (y = .non ∧ Q (.bl (decide (x = .non))) H) ∨ ∃ b, y = .bl b ∧ Q (.bl (decide (x = .bl b))) H
  | .isn => fun x y H Q => (y = .non ∧ Q (.bl (!decide (x = .non))) H) ∨ ∃ b, y = .bl b ∧ Q (.bl (!decide (x = .bl b))) H
theorem op_cop {o : Cop} {op : CmpOp} (hu : X.A.units + 65 < cLine) (h : copIs o op = true) : OpR X (compareOp op) (rCop X.K o) := by
  cases o <;> cases op <;> first | (exact absurd h (by decide)) | skip
  · exact op_eqD (by omega)
  · exact op_neD (by omega)
  · exact op_lt.or (op_ltT (by omega))
  · exact op_le
  · exact op_gt
  · exact op_ge
  · exact op_inD hu
  · exact op_notInD hu
  · exact op_isN.or op_isB
  · exact op_notN.or op_isnB
theorem any_py {a : D} : ∀ {ds : List D}, (D.pys ds).any (fun z => PyData.eqv z a.py) = ds.any fun z => D.eqv z a
  | [] => rfl
  | d :: ds => by simp only [D.pys, List.any_cons, any_py]; rfl
theorem RepV.non (h : RepV X.K FA F H x .non) : x = .non := by
  cases h with
  | rep h => cases h; rfl
theorem RepV.bl {b : Bool} (h : RepV X.K FA F H x (.bl b)) : x = .bl b := by
  cases h with
  | rep h => cases h; rfl
theorem isn_iff (h : RepV X.K FA F H x dx) : decide (x = V.non) = dx.isNon := by
  cases h with
  | rep h => cases h <;> rfl
  | l h r => rfl
theorem isb_iff {b : Bool} (h : RepV X.K FA F H x dx) : decide (x = V.bl b) = dx.isBl b := by
  cases h with
  | rep h =>
    cases h <;> first | rfl | skip
    rename_i c
    by_cases e : c = b
    · subst e; simp [D.isBl]
    · have : ¬ V.bl c = V.bl b := fun z => e (V.bl.inj z)
      rw [decide_eq_false this]
      exact (beq_eq_false_iff_ne.mpr (Ne.symm e)).symm
  | l h r => rfl
theorem RepV.tupInts {ns : List Int} (h : RepV X.K FA F H x dx) (s : Sub F H) (e : tupInts? dx = some ns) : ∃ a, x = .ref a ∧ SqT X.K H a (ns.map V.int) := by
  cases dx with
  | tup ds =>
    obtain ⟨a, vs, rfl, h1, r⟩ := h.tup s
    obtain ⟨rfl, _⟩ := r.of_ints (show ints? ds = some ns from e)
    exact ⟨a, rfl, .of h1⟩
  | _ => simp [tupInts?] at e
theorem cop_ok {b : Cop} {k : Bool} {Q : VK} (s : Hs X.K FA w F H ps) (hx : RepV X.K FA F H x dx) (hy : RepV X.K FA F H y dy) (e : cmpop b dx dy = some k) (h : Q (.bl k) H) : rCop X.K b x y H Q := by
  have two : ∀ {i j : Int}, dx = .int i → dy = .int j → x = .int i ∧ y = .int j := fun e1 e2 => by
    subst e1; subst e2
    exact ⟨hx.int, hy.int⟩
  have vx := hx.view s.1.sub
  have vy := hy.view s.1.sub
  unfold cmpop at e
  split at e
  · split at e
    · rename_i hm
      cases e
      have hm' := Bool.and_eq_true_iff.mp hm
      exact ⟨_, _, (vx.shaped hm'.1).1, (vy.shaped hm'.2).1, (vx.shaped hm'.1).2, (vy.shaped hm'.2).2, h⟩
    · cases e
  · split at e
    · rename_i hm
      cases e
      have hm' := Bool.and_eq_true_iff.mp hm
      exact ⟨_, _, (vx.shaped hm'.1).1, (vy.shaped hm'.2).1, (vx.shaped hm'.1).2, (vy.shaped hm'.2).2, h⟩
    · cases e
  · obtain ⟨rfl, rfl⟩ := two rfl rfl
    cases e
    exact .inl ⟨_, _, rfl, rfl, h⟩
  · cases e1 : tupInts? dx with
    | none => rw [e1] at e; cases e
    | some ns =>
      rw [e1] at e
      cases e2 : tupInts? dy with
      | none => rw [e2] at e; cases e
      | some ms =>
        rw [e2] at e
        cases e
        obtain ⟨a, rfl, h1⟩ := hx.tupInts s.1.sub e1
        obtain ⟨a', rfl, h2⟩ := hy.tupInts s.1.sub e2
        exact .inr ⟨a, a', ns, ms, rfl, rfl, h1, h2, h⟩
  · obtain ⟨rfl, rfl⟩ := two rfl rfl
    cases e
    exact ⟨_, _, rfl, rfl, h⟩
  · obtain ⟨rfl, rfl⟩ := two rfl rfl
    cases e
    exact ⟨_, _, rfl, rfl, h⟩
  · obtain ⟨rfl, rfl⟩ := two rfl rfl
    cases e
    exact ⟨_, _, rfl, rfl, h⟩
  · split at e
    · rename_i hm
      cases e
      have hm' := Bool.and_eq_true_iff.mp hm
      have h1 := vx.shaped hm'.1
      have h2 := vy.shaped hm'.2
      simp only [D.py] at h2
      refine ⟨_, _, h1.1, h2.1, h1.2, h2.2, ?_⟩
      rw [any_py]; exact h
    · cases e
  · split at e
    · rename_i hm
      cases e
      have hm' := Bool.and_eq_true_iff.mp hm
      have h1 := vx.shaped hm'.1
      have h2 := vy.shaped hm'.2
      simp only [D.py] at h2
      refine ⟨_, _, h1.1, h2.1, h1.2, h2.2, ?_⟩
      rw [any_py]; exact h
    · cases e
  · cases e
    exact .inl ⟨hy.non, by rw [isn_iff hx]; exact h⟩
  · cases e
    exact .inr ⟨_, hy.bl, by rw [isb_iff hx]; exact h⟩
  · cases e
    refine .inl ⟨hy.non, ?_⟩
    rw [isn_iff hx]
    exact h
  · cases e
    refine .inr ⟨_, hy.bl, ?_⟩
    rw [isb_iff hx]
    exact h
  · cases e
end
end RF
/-! RFf: built-ins, isinstance, items, slices. -/
namespace RF
open L2 PySem PySem.Spec PyProof.Rows
inductive RepVs (K : PySem.W.Frag) (FA : Fns) (F H : Hp) : List V → List D → Prop
  | nil : RepVs K FA F H [] []
  | cons {v : V} {d : D} {vs : List V} {ds : List D} : RepV K FA F H v d → RepVs K FA F H vs ds → RepVs K FA F H (v :: vs) (d :: ds)
section
variable {K : PySem.W.Frag} {FA : Fns} {w : W0} {F F' H H' : Hp} {ps : List (Option V × O)} {v x y : V} {o : O} {d dx dy : D}
theorem RepVs.one {vs : List V} (h : RepVs K FA F H vs [d]) : ∃ v, vs = [v] ∧ RepV K FA F H v d := by
  cases h with
  | cons h r => cases r; exact ⟨_, rfl, h⟩
theorem RepVs.two {vs : List V} (h : RepVs K FA F H vs [dx, dy]) : ∃ v u, vs = [v, u] ∧ RepV K FA F H v dx ∧ RepV K FA F H u dy := by
  cases h with
  | cons h r =>
    cases r with
    | cons h' r => cases r; exact ⟨_, _, rfl, h, h'⟩
/-! ### the types of values -/
def tyName : D → String
  | .non => "NoneType" | .bl _ => "bool" | .int _ => "int" | .str _ => "str" | .lst _ => "list" | .tup _ => "tuple" | _ => ""
theorem RepV.ty (h : RepV K FA F H v d) (s : Sub F H) (e : isiV .int d ≠ none) : TyX K H v (.type (tyName d)) := by
  refine .base ?_
  cases h with
  | rep h =>
    cases h with
    | non => exact .non
    | bl b => exact .bl b
    | int i => exact .int i
    | str x => exact .str x
    | lst h r => exact .lst (s _ _ h)
    | tup h r => exact .tup (s _ _ h)
    | scr h => exact absurd rfl e
    | fn h => exact absurd rfl e
    | clo h1 h2 h3 => exact absurd rfl e
  | l h r => exact .lst h
def tyStr : Ty → String
  | .int => "int" | .bool => "bool" | .str => "str" | .list => "list" | .tuple => "tuple" | .lt => "list"
theorem isi_some {t : Ty} {d : D} {b : Bool} (e : isiV t d = some b) : isiV .int d ≠ none := by
  cases d <;> first | (simp [isiV]; done) | (cases t <;> simp [isiV] at e)
theorem isi_kit {K : PySem.W.Frag} {t : Ty} {d : D} {b : Bool} (ht : t ≠ .lt) (e : isiV t d = some b) : PySem.W.kitOne K (.type (tyName d)) (.type (tyStr t)) = some b := by
  refine kit_ty ?_
  cases t <;> first | (exact absurd rfl ht) | skip
  all_goals (cases d <;> simp [isiV] at e <;> subst e <;> simp only [tyName, tyStr] <;> decide +kernel)
theorem isi_kit2 {K : PySem.W.Frag} {d : D} {b : Bool} (e : isiV .lt d = some b) : PySem.W.kitAny K (.type (tyName d)) [.type "list", .type "tuple"] = some b := by
  have n1 : ∀ {t : Value} {x y : Bool}, PySem.W.kitOne K t (.type "list") = some x → PySem.W.kitOne K t (.type "tuple") = some y → PySem.W.kitAny K t [.type "list", .type "tuple"] = some (x || y) := fun {t x y} h1 h2 => by
    refine kitAny_cons h1 (fun z => ?_) (fun z => by rw [z]; rfl)
    rw [z, Bool.false_or]
    refine kitAny_cons h2 (fun z => ?_) (fun z => z)
    rw [z]; rfl
  cases d <;> simp [isiV] at e <;> subst e <;> simp only [tyName] <;> first
    | exact n1 (x := false) (y := false) (kit_ty (by decide +kernel)) (kit_ty (by decide +kernel))
    | exact n1 (x := true) (y := false) (kit_ty (by decide +kernel)) (kit_ty (by decide +kernel))
    | exact n1 (x := false) (y := true) (kit_ty (by decide +kernel)) (kit_ty (by decide +kernel))
end
section
variable {X : Cx} {FA : Fns} {w : W0} {F F' H H' : Hp} {ps : List (Option V × O)} {v x y : V} {o : O} {d dx dy : D}
/-! ### built-ins -/
def rBlt (K : PySem.W.Frag) : Blt → List V → Hp → VK → Prop
  | .len => fun xs H Q => ∃ p ys, xs = [.ref p] ∧ (SqL K H p ys ∨ SqT K H p ys) ∧ Q (.int ys.length) H
  | .abs => fun xs H Q => ∃ i, xs = [.int i] ∧ Q (.int (if i < 0 then -i else i)) H
  | .sum => rSum K
  | .max2 => fun xs H Q => ∃ i j, xs = [.int i, .int j] ∧ Q (.int (if j > i then j else i)) H
  | .min2 => fun xs H Q => ∃ i j, xs = [.int i, .int j] ∧ Q (.int (if j < i then j else i)) H
  | .max1 => rMax K
  | .min1 => rMin K
  | .int => fun xs H Q => (∃ i, xs = [.int i] ∧ Q (.int i) H) ∨ ∃ k, xs = [.bl k] ∧ Q (.int (if k then 1 else 0)) H
  | .list => fun xs H Q => ∃ p ys, xs = [.ref p] ∧ (SqL K H p ys ∨ SqT K H p ys) ∧ ∀ l, H l = none → Q (.ref l) (upd H l (.lst ys))
  | .tuple => fun xs H Q => ∃ p ys, xs = [.ref p] ∧ ((SqL K H p ys ∧ ∀ l, H l = none → Q (.ref l) (upd H l (.tup ys))) ∨ (SqT K H p ys ∧ Q (.ref p) H))
  | .all => rAll K
  | _ => fun _ _ _ => False
theorem max_uniq {ns : List Int} {m k : Int} (e : ns.max? = some m) (h1 : k ∈ ns) (h2 : ∀ y, y ∈ ns → y ≤ k) : k = m := by
  have h := List.max?_eq_some_iff.mp e
  exact Int.le_antisymm (h.2 k h1) (h2 m h.1)
theorem min_uniq {ns : List Int} {m k : Int} (e : ns.min? = some m) (h1 : k ∈ ns) (h2 : ∀ y, y ∈ ns → k ≤ y) : k = m := by
  have h := List.min?_eq_some_iff.mp e
  exact Int.le_antisymm (h2 m h.1) (h.2 k h1)
theorem blt_ok {b : Blt} {vs : List V} {ds : List D} {Q : VK} (s : Hs X.K FA w F H ps) (hv : RepVs X.K FA F H vs ds) (e : bltV b ds = some o) (h : Done X.K FA w F H ps o Q) : rBlt X.K b vs H Q := by
  have sb := s.1.sub
  unfold bltV at e
  split at e
  · obtain ⟨v, rfl, r⟩ := hv.one
    cases e
    obtain ⟨a, us, rfl, h1, r1⟩ := r.lst sb
    refine ⟨a, us, rfl, .inl (.of h1), ?_⟩
    rw [r1.length]
    exact h.z s (.int _)
  · obtain ⟨v, rfl, r⟩ := hv.one
    cases e
    obtain ⟨a, us, rfl, h1, r1⟩ := r.tup sb
    refine ⟨a, us, rfl, .inr (.of h1), ?_⟩
    rw [r1.length]
    exact h.z s (.int _)
  · obtain ⟨v, rfl, r⟩ := hv.one
    cases e
    obtain ⟨a, rfl, h1⟩ := r.scr sb
    refine ⟨a, _, rfl, .inl h1, ?_⟩
    rw [List.length_map]
    exact h.z s (.int _)
  · obtain ⟨v, rfl, r⟩ := hv.one
    cases e
    obtain rfl := r.int
    exact ⟨_, rfl, h.z s (.int _)⟩
  · obtain ⟨v, rfl, r⟩ := hv.one
    obtain ⟨a, us, rfl, h1, r1⟩ := r.lst sb
    cases e1 : ints? _ with
    | none => rw [e1] at e; cases e
    | some ns =>
      rw [e1] at e
      cases e
      obtain ⟨rfl, _⟩ := r1.of_ints e1
      exact ⟨a, ns, rfl, .of h1, h.z s (.int _)⟩
  · obtain ⟨v, u, rfl, r, r'⟩ := hv.two
    cases e
    obtain rfl := r.int
    obtain rfl := r'.int
    exact ⟨_, _, rfl, h.z s (.int _)⟩
  · obtain ⟨v, u, rfl, r, r'⟩ := hv.two
    cases e
    obtain rfl := r.int
    obtain rfl := r'.int
    exact ⟨_, _, rfl, h.z s (.int _)⟩
  · obtain ⟨v, rfl, r⟩ := hv.one
    obtain ⟨a, us, rfl, h1, r1⟩ := r.lst sb
    cases e1 : ints? _ with
    | none => rw [e1] at e; cases e
    | some ns =>
      rw [e1] at e
      obtain ⟨rfl, _⟩ := r1.of_ints e1
      cases e2 : ns.max? with
      | none => simp [e2] at e
      | some m =>
        simp [e2] at e
        subst e
        have hm := List.max?_eq_some_iff.mp e2
        exact ⟨a, ns, rfl, .of h1, List.length_pos_of_mem hm.1, fun k k1 k2 => by rw [max_uniq e2 k1 k2]; exact h.z s (.int _)⟩
  · obtain ⟨v, rfl, r⟩ := hv.one
    obtain ⟨a, us, rfl, h1, r1⟩ := r.lst sb
    cases e1 : ints? _ with
    | none => rw [e1] at e; cases e
    | some ns =>
      rw [e1] at e
      obtain ⟨rfl, _⟩ := r1.of_ints e1
      cases e2 : ns.min? with
      | none => simp [e2] at e
      | some m =>
        simp [e2] at e
        subst e
        have hm := List.min?_eq_some_iff.mp e2
        exact ⟨a, ns, rfl, .of h1, List.length_pos_of_mem hm.1, fun k k1 k2 => by rw [min_uniq e2 k1 k2]; exact h.z s (.int _)⟩
  · obtain ⟨v, rfl, r⟩ := hv.one
    cases e
    obtain rfl := r.int
    exact .inl ⟨_, rfl, h.z s (.int _)⟩
  · obtain ⟨v, rfl, r⟩ := hv.one
    cases e
    obtain rfl := r.bl
    exact .inr ⟨_, rfl, h.z s (.int _)⟩
  · obtain ⟨v, rfl, r⟩ := hv.one
    cases e
    obtain ⟨a, us, rfl, h1, r1⟩ := r.lst sb
    exact ⟨a, us, rfl, .inl (.of h1), fun p hp => Hs.freshList h s r1 hp⟩
  · obtain ⟨v, rfl, r⟩ := hv.one
    cases e
    obtain ⟨a, us, rfl, h1, r1⟩ := r.tup sb
    exact ⟨a, us, rfl, .inr (.of h1), fun p hp => Hs.freshList h s r1 hp⟩
  · obtain ⟨v, rfl, r⟩ := hv.one
    cases e
    obtain ⟨a, us, rfl, h1, r1⟩ := r.lst sb
    refine ⟨a, us, rfl, .inl ⟨.of h1, fun p hp => ?_⟩⟩
    have s1 := s.allocT (xs := us) hp
    have fp : F p = none := by
      cases z : F p with
      | none => rfl
      | some ob => rw [sb _ _ z] at hp; cases hp
    have r2 : Rep X.K FA (upd F p (.tup us)) (.ref p) (.tup _) := .tup upd_same (r1.mono (sub_upd fp))
    exact h _ _ _ (s1.add r2) (sub_upd fp) (sub_upd hp) ⟨[], .z r2, fun _ m => nomatch m⟩
  · obtain ⟨v, rfl, r⟩ := hv.one
    obtain ⟨a, us, rfl, h1, r1⟩ := r.lst sb
    cases e1 : bls? _ with
    | none => rw [e1] at e; cases e
    | some ns =>
      rw [e1] at e
      cases e
      obtain rfl := r1.of_bls e1
      exact ⟨a, ns, rfl, .of h1, h.z s (.bl _)⟩
  · cases e
/-! ### items -/
theorem ix_ok {j : Int} {dd : D} {Q : VK} (s : Hs X.K FA w F H ps) (hx : RepV X.K FA F H x dx) (e : (match dx with | .lst ds => (atI ds j) | .tup ds => (atI ds j) | .scr ns => (atI ns j).map fun n => D.int n | _ => none) = some dd)
    (h : Done X.K FA w F H ps (.z dd) Q) : rIx X.K x (.int j) H Q := by
  have sb := s.1.sub
  cases dx with
  | lst ds =>
    obtain ⟨a, us, rfl, h1, r1⟩ := hx.lst sb
    have e : atI ds j = some dd := e
    unfold atI at e
    cases e1 : ixN ds.length j with
    | none => rw [e1] at e; cases e
    | some k =>
      rw [e1] at e
      obtain ⟨v, e2, r2⟩ := r1.get (show ds[k]? = some dd from e)
      refine .inl ⟨a, us, j, v, rfl, rfl, .of h1, ?_, h.z s r2⟩
      unfold atI
      rw [r1.length, e1]
      exact e2
  | tup ds =>
    obtain ⟨a, us, rfl, h1, r1⟩ := hx.tup sb
    have e : atI ds j = some dd := e
    unfold atI at e
    cases e1 : ixN ds.length j with
    | none => rw [e1] at e; cases e
    | some k =>
      rw [e1] at e
      obtain ⟨v, e2, r2⟩ := r1.get (show ds[k]? = some dd from e)
      refine .inr (.inl ⟨a, us, j, v, rfl, rfl, .of h1, ?_, h.z s r2⟩)
      unfold atI
      rw [r1.length, e1]
      exact e2
  | scr ns =>
    obtain ⟨a, rfl, h1⟩ := hx.scr sb
    have e : (atI ns j).map (fun n => D.int n) = some dd := e
    unfold atI at e
    cases e1 : ixN ns.length j with
    | none => rw [e1] at e; cases e
    | some k =>
      rw [e1] at e
      cases e2 : ns[k]? with
      | none => simp [e2] at e
      | some n =>
        simp [e2] at e
        subst e
        refine .inl ⟨a, _, j, .int n, rfl, rfl, h1, ?_, h.z s (.int _)⟩
        unfold atI
        rw [List.length_map, e1]
        simp [e2]
  | _ => cases e
/-! ### slices -/
theorem cutL_map {α β : Type} (f : α → β) (xs : List α) (lo hi : Option Int) : cutL (xs.map f) lo hi = (cutL xs lo hi).map f := by
  unfold cutL
  rw [List.length_map, List.drop_eq_drop_iff.mpr rfl, ← List.map_drop, ← List.map_take]
theorem cutV_eq (xs : List V) (lo hi : Option Int) : cutV xs lo hi = cutL xs lo hi := rfl
theorem sl_ok {lo hi : Option Int} {Q : VK} {o : O} (s : Hs X.K FA w F H ps) (hx : RepV X.K FA F H x dx) (e : (match dx with | .lst ds => some (O.l ((cutL ds lo hi).map .z)) | .scr ns => some (O.l ((cutL ns lo hi).map fun n => .z (.int n))) | _ => none) = some o)
    (h : Done X.K FA w F H ps o Q) : rSlL X.K x lo hi H Q := by
  have sb := s.1.sub
  cases dx with
  | lst ds =>
    obtain ⟨a, us, rfl, h1, r1⟩ := hx.lst sb
    cases e
    refine ⟨a, us, rfl, .of h1, fun p hp => ?_⟩
    refine Hs.freshList h s ?_ hp
    rw [cutV_eq]
    unfold cutL
    rw [r1.length]
    exact (r1.drop _).take _
  | scr ns =>
    obtain ⟨a, rfl, h1⟩ := hx.scr sb
    cases e
    refine ⟨a, _, rfl, h1, fun p hp => ?_⟩
    have h' : Done X.K FA w F H ps (.l (((cutL ns lo hi).map D.int).map .z)) Q := by rw [List.map_map]; exact h
    refine Hs.freshList h' s ?_ hp
    rw [cutV_eq, cutL_map]
    exact Reps.ints
  | _ => cases e
end
end RF
/-! RFg: readings of expressions. -/
namespace RF
open L2 PySem PySem.Spec PyProof.Rows
section
variable {Nm : Names} {FA : Fns} {CA : Nat → Option Addr} {C : Cfg} {X : Cx} {W : WX} {w : W0} {sc : Scope}
variable {σ : L2.St} {F F1 H H1 : Hp} {ts : List (Option V × O)} {Q Q1 : VK} {pu pu1 fl : Bool}
theorem Fresh.weak {K : PySem.W.Frag} {F' H0 H H' : Hp} {v : V} {o : O} (h : Fresh K FA F' H H' v o) (s : Sub H0 H) : Fresh K FA F' H0 H' v o := by
  obtain ⟨A, r, n⟩ := h
  refine ⟨A, r, fun a m => ?_⟩
  cases e : H0 a with
  | none => rfl
  | some x => rw [← s _ _ e, n a m]
theorem Fresh.mono {K : PySem.W.Frag} {F F' H0 H H' : Hp} {v : V} {o : O} (h : Fresh K FA F H0 H v o) (s : Sub F F') (t : Sub H H') : Fresh K FA F' H0 H' v o := by
  obtain ⟨A, r, n⟩ := h
  exact ⟨A, r.frame s (fun a m => by obtain ⟨xs, e⟩ := r.dom a m; rw [e]; exact t _ _ e) t.tups, n⟩
theorem Fresh.z {K : PySem.W.Frag} {F H0 H : Hp} {v : V} {d : D} (h : Rep K FA F v d) : Fresh K FA F H0 H v (.z d) := ⟨[], .z h, fun _ m => nomatch m⟩
theorem Hs.swapTemp {K : PySem.W.Frag} {p q : Option V × O} {l : List (Option V × O)} (s : Hs K FA w F H (p :: (l ++ q :: ts))) : Hs K FA w F H (q :: p :: (l ++ ts)) :=
  s.perm (((List.perm_middle).cons p).trans (.swap _ _ _))
theorem Hs.toTemp {K : PySem.W.Frag} {p : Option V × O} {l : List (Option V × O)} (s : Hs K FA w F H (p :: (l ++ ts))) : Hs K FA w F H (l ++ p :: ts) := s.perm List.perm_middle.symm
theorem Hs.ofTemp {K : PySem.W.Frag} {p : Option V × O} {l : List (Option V × O)} (s : Hs K FA w F H (l ++ p :: ts)) : Hs K FA w F H (p :: (l ++ ts)) := s.perm List.perm_middle
theorem Post.rebase {r : R O} (h : Post X.K FA CA W w pu σ F H ts Q r) (sF : Sub F F1) (sH : pu = true → Sub H H1) : Post X.K FA CA W w pu σ F1 H1 ts Q r := by
  cases r with
  | ok o env => exact fun v H' F' hl s sf p => h v H' F' hl s (sF.trans sf) fun z => ⟨(sH z).trans (p z).1, (p z).2.weak (sH z)⟩
  | ex c ds => exact fun H' F' od a e sf hr x => h H' F' od a e (sF.trans sf) hr x
  | no => exact h
theorem Post.temp {r : R O} {p : Option V × O} (h : Post X.K FA CA W w pu σ F H ts Q r) : Post X.K FA CA W w pu σ F H (p :: ts) Q r := by
  cases r with
  | ok o env => exact fun v H' F' hl s sf p => h v H' F' hl s.swapTemp.tail sf p
  | ex c ds => exact h
  | no => exact h
theorem Post.weakP {r : R O} (h : Post X.K FA CA W w pu σ F H ts Q r) (e : pu = true → pu1 = true) : Post X.K FA CA W w pu1 σ F H ts Q r := by
  cases r with
  | ok o env => exact fun v H' F' hl s sf p => h v H' F' hl s sf fun z => p (e z)
  | ex c ds => exact h
  | no => exact h
theorem bindV {r : R D} {k : D → Env → R O} (post : Post X.K FA CA W w pu σ F H ts Q (r.bind k))
    (hk : ∀ d env1 v H1 F1, r = .ok d env1 → env1.length = σ.length → Hs X.K FA w F1 H1 (lv σ env1 ++ ts) → RepV X.K FA F1 H1 v d → (fl = false → Rep X.K FA F1 v d) → Sub F F1 → (pu1 = true → Sub H H1) →
      Post X.K FA CA W w pu σ F H ts Q (k d env1) → Q1 v H1) : PostV X.K FA CA W w pu1 fl σ F H ts Q1 r := by
  cases r with
  | ok d env => exact fun v H' F' hl s rv rf sf p => hk d env v H' F' rfl hl s rv rf sf p post
  | ex c ds => exact post
  | no => exact post
theorem bindE {r : R O} {k : O → Env → R O} (post : Post X.K FA CA W w pu σ F H ts Q (r.bind k))
    (hk : ∀ o env1 v H1 F1, r = .ok o env1 → env1.length = σ.length → Hs X.K FA w F1 H1 ((some v, o) :: (lv σ env1 ++ ts)) → Sub F F1 → (pu1 = true → Sub H H1 ∧ Fresh X.K FA F1 H H1 v o) →
      Post X.K FA CA W w pu σ F H ts Q (k o env1) → Q1 v H1) : Post X.K FA CA W w pu1 σ F H ts Q1 r := by
  cases r with
  | ok d env => exact fun v H' F' hl s sf p => hk d env v H' F' rfl hl s sf p post
  | ex c ds => exact post
  | no => exact post
/-- a value that is made at once -/
theorem Post.done {o : O} {env : Env} (post : Post X.K FA CA W w pu σ F H ts Q (.ok o env)) (hl : env.length = σ.length) : Done X.K FA w F H (lv σ env ++ ts) o Q :=
  fun v H' F' s sF sH fr => post v H' F' hl s sF fun _ => ⟨sH, fr⟩
theorem Post.z {d : D} {env : Env} {v : V} (post : Post X.K FA CA W w pu σ F H ts Q (.ok (.z d) env)) (hl : env.length = σ.length) (s : Hs X.K FA w F H (lv σ env ++ ts)) (r : Rep X.K FA F v d) : Q v H :=
  (post.done hl).z s r
/-! ### names -/
theorem visB_ok (r : ScR X sc) {i : Nat} {x : Str} (h : visB X.N sc i x = true) : X.N[i]? = some x ∧ Vis X.env.scope x ∧ (x == ("__debug__" : Str)) = false ∧ (x == ("__classdict__" : Str)) = false := by
  unfold visB at h
  simp only [Bool.and_eq_true, Bool.or_eq_true, decide_eq_true_eq, Bool.not_eq_true'] at h
  obtain ⟨⟨⟨h1, h2⟩, h3⟩, h4⟩ := h
  refine ⟨h1, ?_, h3, h4⟩
  rcases h2 with (h2 | h2) | h2
  · exact .inl (r.loc x h2)
  · exact .inr (.inl (r.cell x h2).1)
  · rcases r.free x h2 with z | z
    · exact .inr (.inl z)
    · exact .inr (.inr z)
theorem glB_ok (r : ScR X sc) {x : Str} (h : glB sc x = true) : Gl X x ∧ (x == ("__debug__" : Str)) = false := by
  unfold glB at h
  simp only [Bool.and_eq_true, decide_eq_true_eq, Bool.not_eq_true'] at h
  exact ⟨r.glob x h.1, h.2⟩
theorem pe_slot (r : ScR X sc) {i : Nat} {x : Str} {pos : Pos} (h : visB X.N sc i x = true) : PE X (.Name x pos) (tVar i) := by
  obtain ⟨h1, h2, h3, h4⟩ := visB_ok r h
  exact pe_var h1 h2 h3 h4
theorem c_v (r : ScR X sc) {i : Nat} {x : Str} {pos : Pos} (h : visB X.N sc i x = true) : PE X (.Name x pos) (tE X.K FA CA W w C (.v i)) := by
  refine PE.imp (pe_slot r h) fun σ H Q ⟨F, ts, env, hl, s, post⟩ => ?_
  unfold evalE at post
  cases e : getE env i with
  | none => rw [e] at post; exact post.elim
  | some o =>
    rw [e] at post
    cases o with
    | z d =>
      obtain ⟨v, e1, rp⟩ := s.slotRep hl e
      exact ⟨v, e1, post.z hl s rp⟩
    | l os =>
      obtain ⟨v, e1, s1⟩ := s.take hl e
      obtain ⟨F', sF, s2⟩ := s1.freeze
      have rp := s2.rep
      have s3 := s2.back hl e1
      exact ⟨v, e1, post v H F' (by rw [List.length_set]; exact hl) (s3.add rp) sF fun _ => ⟨Sub.refl _, Fresh.z rp⟩⟩
    | t os =>
      obtain ⟨v, e1, s1⟩ := s.take hl e
      obtain ⟨F', sF, s2⟩ := s1.freeze
      have rp := s2.rep
      have s3 := s2.back hl e1
      exact ⟨v, e1, post v H F' (by rw [List.length_set]; exact hl) (s3.add rp) sF fun _ => ⟨Sub.refl _, Fresh.z rp⟩⟩
/-- a value that is looked at -/
theorem sV_gen {e : Expr} {m : RF.X} (h : PE X e (tE X.K FA CA W w C m)) (hv : ∀ env, viewE fl m (evalE C m env) env = (evalE C m env).bind fun o env1 => .ok o.toD env1) : PE X e (tV X.K FA CA W w C fl m) := by
  refine PE.imp h fun σ H Q ⟨F, ts, env, hl, s, post⟩ => ⟨F, ts, env, hl, s, ?_⟩
  rw [hv] at post
  cases e1 : evalE C m env with
  | ok o env1 =>
    rw [e1] at post
    intro v H' F' hl' s' sf p
    obtain ⟨F2, sF2, s2⟩ := s'.freeze
    exact post v H' F2 hl' s2.tail (.rep s2.rep) (fun _ => s2.rep) (sf.trans sF2) fun z => (p z).1
  | ex c ds => rw [e1] at post; exact post
  | no => rw [e1] at post; exact post
theorem c_vV (r : ScR X sc) {i : Nat} {x : Str} {pos : Pos} (h : visB X.N sc i x = true) : PE X (.Name x pos) (tV X.K FA CA W w C fl (.v i)) := by
  refine PE.imp (pe_slot r h) fun σ H Q ⟨F, ts, env, hl, s, post⟩ => ?_
  have own : ∀ o, getE env i = some o → (∀ d, o ≠ .z d) → viewE fl (.v i) (evalE C (.v i) env) env = if fl && o.flat then R.ok o.toD env else R.ok o.toD (env.set i (some (frz o))) := fun o e nz => by
    unfold viewE evalE
    simp only [e]
    cases o with
    | z d => exact absurd rfl (nz d)
    | l os => simp only [frz, O.toD, R.bind_ok]
    | t os => simp only [frz, O.toD, R.bind_ok]
  have go : ∀ o, getE env i = some o → (∀ d, o ≠ .z d) → tVar i σ H Q := fun o e nz => by
    rw [own o e nz] at post
    split at post
    · rename_i z
      have z' := Bool.and_eq_true_iff.mp z
      obtain ⟨v, e1, s1⟩ := s.take hl e
      obtain ⟨A, ro⟩ := s1.head
      exact ⟨v, e1, post v H F hl s (ro.viewV s.1.tups z'.2) (fun z2 => by rw [z2] at z'; cases z'.1) (Sub.refl _) fun _ => Sub.refl _⟩
    · obtain ⟨v, e1, s1⟩ := s.take hl e
      obtain ⟨F', sF, s2⟩ := s1.freeze
      have rp := s2.rep
      exact ⟨v, e1, post v H F' (by rw [List.length_set]; exact hl) (s2.back hl e1) (.rep rp) (fun _ => rp) sF fun _ => Sub.refl _⟩
  cases e : getE env i with
  | none => unfold viewE at post; simp only [e] at post; exact post.elim
  | some o =>
    cases o with
    | z d =>
      unfold viewE at post
      simp only [e] at post
      obtain ⟨v, e1, rp⟩ := s.slotRep hl e
      exact ⟨v, e1, post v H F hl s (.rep rp) (fun _ => rp) (Sub.refl _) fun _ => Sub.refl _⟩
    | l os => exact go _ e fun d z => by cases z
    | t os => exact go _ e fun d z => by cases z
theorem sV {e : Expr} {m : RF.X} (r : ScR X sc) (hi : isE Nm X.N m sc e = true) (h : PE X e (tE X.K FA CA W w C m)) : PE X e (tV X.K FA CA W w C fl m) := by
  cases m with
  | v i =>
    cases e with
    | Name x pos => exact c_vV r (by simpa [isE] using hi)
    | _ => simp [isE] at hi
  | _ => exact sV_gen h fun env => rfl
/-! ### constants -/
theorem c_const {e : Expr} {m : RF.X} {v : V} {d : D} (h : PE X e (tC v)) (he : ∀ env, evalE C m env = .ok (.z d) env) (rp : ∀ F, Rep X.K FA F v d) : PE X e (tE X.K FA CA W w C m) := by
  refine PE.imp h fun σ H Q ⟨F, ts, env, hl, s, post⟩ => ?_
  rw [he] at post
  exact post.z hl s (rp F)
/-! ### operators -/
theorem c_bin {a b : RF.X} {o : Bop} {op : Operator} {x y : Expr} {pos : Pos} (ho : bopIs o op = true) (ha : PE X x (tV X.K FA CA W w C (pureX b) a)) (hb : PE X y (tV X.K FA CA W w C true b)) : PE X (.BinOp x op y pos) (tE X.K FA CA W w C (.bin o a b)) := by
  refine PE.imp (pe_op (op_bop ho) ha hb) fun σ H Q ⟨F, ts, env, hl, s, post⟩ => ⟨F, ts, env, hl, s, ?_⟩
  unfold evalE at post
  refine bindV post fun dx env1 vx H1 F1 _ hl1 s1 rx rf sF1 p1 post => ⟨F1, ts, env1, hl1, s1, ?_⟩
  have post := post.rebase sF1 fun z => p1 (by
    have z' : (pureX a && pureX b) = true := z
    exact (Bool.and_eq_true_iff.mp z').1)
  refine bindV post fun dy env2 vy H2 F2 _ hl2 s2 ry _ sF2 p2 post => ?_
  have post := post.rebase sF2 fun z => p2 (by
    have z' : (pureX a && pureX b) = true := z
    exact (Bool.and_eq_true_iff.mp z').2)
  have rx2 : RepV X.K FA F2 H2 vx dx := by
    cases e : pureX b with
    | true => exact rx.mono sF2 (p2 e)
    | false => exact .rep ((rf e).mono sF2)
  cases e : binop o dx dy with
  | none => rw [e] at post; exact post.elim
  | some q =>
    rw [e] at post
    exact bop_ok s2 rx2 ry e (post.done hl2)
theorem c_neg {a : RF.X} {x : Expr} {pos : Pos} (ha : PE X x (tE X.K FA CA W w C a)) : PE X (.UnaryOp .USub x pos) (tE X.K FA CA W w C (.neg a)) := by
  refine PE.imp (pe_un un_neg ha) fun σ H Q ⟨F, ts, env, hl, s, post⟩ => ⟨F, ts, env, hl, s, ?_⟩
  unfold evalE at post
  refine bindE post fun o env1 v H1 F1 _ hl1 s1 sF1 p1 post => ?_
  have post := post.rebase sF1 fun z => (p1 z).1
  split at post
  · obtain rfl := RepV.int (.rep s1.rep : RepV X.K FA F1 H1 v _)
    exact ⟨_, rfl, post.z hl1 s1.tail (.int _)⟩
  · exact post.elim
theorem i_not {a : RF.X} : ∀ σ H Q, tE X.K FA CA W w C (.not a) σ H Q → tE X.K FA CA W w C a σ H fun x H1 => ∃ c, x = .bl c ∧ Q (.bl (!c)) H1 := by
  refine fun σ H Q ⟨F, ts, env, hl, s, post⟩ => ⟨F, ts, env, hl, s, ?_⟩
  unfold evalE at post
  refine bindE post fun o env1 v H1 F1 _ hl1 s1 sF1 p1 post => ?_
  have post := post.rebase sF1 fun z => (p1 z).1
  split at post
  · obtain rfl := RepV.bl (.rep s1.rep : RepV X.K FA F1 H1 v _)
    exact ⟨_, rfl, post.z hl1 s1.tail (.bl _)⟩
  · exact post.elim
theorem c_not {a : RF.X} {x : Expr} {pos : Pos} (ha : PE X x (tE X.K FA CA W w C a)) (hb : PT X x (tTest (tE X.K FA CA W w C a))) :
    PE X (.UnaryOp .Not x pos) (tE X.K FA CA W w C (.not a)) ∧ PT X (.UnaryOp .Not x pos) (tTest (tE X.K FA CA W w C (.not a))) := by
  refine ⟨PE.imp (pe_not ha) i_not, ⟨fun pins s σ H Q I h => ?_⟩⟩
  have h' := i_not _ _ _ h
  refine isTrue_not (thn (hb.run pins s σ H (fun c H1 => Q (!c) H1) I ?_) fun _ _ z => z)
  obtain ⟨F, ts, env, hl, s, post⟩ := h'
  refine ⟨F, ts, env, hl, s, ?_⟩
  cases e : evalE C a env with
  | ok o env1 =>
    rw [e] at post
    intro v H1 F1 hl1 s1 sF1 p1
    obtain ⟨c, rfl, k, e1, q⟩ := post v H1 F1 hl1 s1 sF1 p1
    cases e1
    exact ⟨c, rfl, q⟩
  | ex c ds => rw [e] at post; exact post
  | no => rw [e] at post; exact post
theorem i_cmp {a b : RF.X} {o : Cop} : ∀ σ H Q, tE X.K FA CA W w C (.cmp o a b) σ H Q → tOp (rCop X.K o) (tV X.K FA CA W w C (pureX b) a) (tV X.K FA CA W w C true b) σ H Q := by
  refine fun σ H Q ⟨F, ts, env, hl, s, post⟩ => ⟨F, ts, env, hl, s, ?_⟩
  unfold evalE at post
  refine bindV post fun dx env1 vx H1 F1 _ hl1 s1 rx rf sF1 p1 post => ⟨F1, ts, env1, hl1, s1, ?_⟩
  have post := post.rebase sF1 fun z => p1 (by
    have z' : (pureX a && pureX b) = true := z
    exact (Bool.and_eq_true_iff.mp z').1)
  refine bindV post fun dy env2 vy H2 F2 _ hl2 s2 ry _ sF2 p2 post => ?_
  have post := post.rebase sF2 fun z => p2 (by
    have z' : (pureX a && pureX b) = true := z
    exact (Bool.and_eq_true_iff.mp z').2)
  have rx2 : RepV X.K FA F2 H2 vx dx := by
    cases e : pureX b with
    | true => exact rx.mono sF2 (p2 e)
    | false => exact .rep ((rf e).mono sF2)
  cases e : cmpop o dx dy with
  | none => rw [e] at post; exact post.elim
  | some q =>
    rw [e] at post
    exact cop_ok s2 rx2 ry e (post.z hl2 s2 (.bl _))
theorem c_cmp {a b : RF.X} {o : Cop} {op : CmpOp} {x y : Expr} {pos : Pos} (c : Cok Nm FA CA C X W) (ho : copIs o op = true) (hm : noMark op y = true) (ha : PE X x (tV X.K FA CA W w C (pureX b) a)) (hb : PE X y (tV X.K FA CA W w C true b)) :
    PE X (.Compare x [op] [y] pos) (tE X.K FA CA W w C (.cmp o a b)) ∧ PT X (.Compare x [op] [y] pos) (tTest (tE X.K FA CA W w C (.cmp o a b))) :=
  ⟨PE.imp (pe_cmpR (op_cop c.un ho) ha hb (by simpa [noMark] using hm)) i_cmp, PT.imp (pt_cmpR (op_cop c.un ho) ha hb (by simpa [noMark] using hm)) fun _ _ _ h => i_cmp _ _ _ h⟩
theorem i_cmp2 {a b d : RF.X} {o p : Cop} : ∀ σ H Q, tE X.K FA CA W w C (.cmp2 o p a b d) σ H Q → tChain (rCop X.K o) (rCop X.K p) (tV X.K FA CA W w C (pureX b) a) (tV X.K FA CA W w C (pureX d) b) (tV X.K FA CA W w C true d) σ H Q := by
  refine fun σ H Q ⟨F, ts, env, hl, s, post⟩ => ⟨F, ts, env, hl, s, ?_⟩
  unfold evalE at post
  have pp : ∀ {q : Prop}, (pureX a = true → pureX b = true → pureX d = true → q) → pureX (.cmp2 o p a b d) = true → q := fun h z => by
    have z' : (pureX a && pureX b && pureX d) = true := z
    have z1 := Bool.and_eq_true_iff.mp z'
    have z2 := Bool.and_eq_true_iff.mp z1.1
    exact h z2.1 z2.2 z1.2
  refine bindV post fun dx env1 vx H1 F1 _ hl1 s1 rx rf sF1 p1 post => ⟨F1, ts, env1, hl1, s1, ?_⟩
  have post := post.rebase sF1 (pp fun z _ _ => p1 z)
  refine bindV post fun dy env2 vy H2 F2 _ hl2 s2 ry ryf sF2 p2 post => ?_
  have post := post.rebase sF2 (pp fun _ z _ => p2 z)
  have rx2 : RepV X.K FA F2 H2 vx dx := by
    cases e : pureX b with
    | true => exact rx.mono sF2 (p2 e)
    | false => exact .rep ((rf e).mono sF2)
  cases e : cmpop o dx dy with
  | none => rw [e] at post; exact post.elim
  | some q =>
    rw [e] at post
    refine cop_ok s2 rx2 ry e ⟨q, rfl, ?_⟩
    cases q with
    | false =>
      rw [if_neg Bool.false_ne_true]
      exact post.z hl2 s2 (.bl _)
    | true =>
      rw [if_pos rfl]
      refine ⟨F2, ts, env2, hl2, s2, ?_⟩
      refine bindV post fun dw env3 vw H3 F3 _ hl3 s3 rw3 _ sF3 p3 post => ?_
      have post := post.rebase sF3 (pp fun _ _ z => p3 z)
      have ry3 : RepV X.K FA F3 H3 vy dy := by
        cases e : pureX d with
        | true => exact ry.mono sF3 (p3 e)
        | false => exact .rep ((ryf e).mono sF3)
      cases e : cmpop p dy dw with
      | none => rw [e] at post; exact post.elim
      | some q =>
        rw [e] at post
        exact cop_ok s3 ry3 rw3 e (post.z hl3 s3 (.bl _))
theorem c_cmp2 {a b d : RF.X} {o p : Cop} {op op' : CmpOp} {x y z : Expr} {pos : Pos} (c : Cok Nm FA CA C X W) (ho : copIs o op = true) (ho' : copIs p op' = true) (hm : noMark op' z = true)
    (ha : PE X x (tV X.K FA CA W w C (pureX b) a)) (hb : PE X y (tV X.K FA CA W w C (pureX d) b)) (hd : PE X z (tV X.K FA CA W w C true d)) :
    PE X (.Compare x [op, op'] [y, z] pos) (tE X.K FA CA W w C (.cmp2 o p a b d)) ∧ PT X (.Compare x [op, op'] [y, z] pos) (tTest (tE X.K FA CA W w C (.cmp2 o p a b d))) := by
  have hm' : lastMarks [op, op'] [y, z] = false := by
    show behindInMarks op' z = false
    simpa [noMark] using hm
  exact ⟨PE.imp (pe_chain (op_cop c.un ho) (op_cop c.un ho') ha hb hd hm') i_cmp2, PT.imp (pt_chain (op_cop c.un ho) (op_cop c.un ho') ha hb hd hm') fun _ _ _ h => i_cmp2 _ _ _ h⟩
/-! ### tests -/
theorem i_ite {a b d : RF.X} : ∀ σ H Q, tE X.K FA CA W w C (.ite a b d) σ H Q → tIf (tTest (tE X.K FA CA W w C a)) (tE X.K FA CA W w C b) (tE X.K FA CA W w C d) σ H Q := by
  refine fun σ H Q ⟨F, ts, env, hl, s, post⟩ => ⟨F, ts, env, hl, s, ?_⟩
  unfold evalE at post
  have pp : ∀ {q : Prop}, (pureX a = true → pureX b = true → pureX d = true → q) → pureX (.ite a b d) = true → q := fun h z => by
    have z' : (pureX a && pureX b && pureX d) = true := z
    have z1 := Bool.and_eq_true_iff.mp z'
    have z2 := Bool.and_eq_true_iff.mp z1.1
    exact h z2.1 z2.2 z1.2
  refine bindE post fun o env1 v H1 F1 _ hl1 s1 sF1 p1 post => ?_
  have post := post.rebase sF1 (pp fun z _ _ => (p1 z).1)
  split at post
  · obtain rfl := RepV.bl (.rep s1.rep : RepV X.K FA F1 H1 v _)
    exact ⟨_, rfl, iteT ⟨F1, ts, env1, hl1, s1.tail, post.weakP (pp fun _ z _ => z)⟩⟩
  · obtain rfl := RepV.bl (.rep s1.rep : RepV X.K FA F1 H1 v _)
    exact ⟨_, rfl, iteF ⟨F1, ts, env1, hl1, s1.tail, post.weakP (pp fun _ _ z => z)⟩⟩
  · exact post.elim
theorem c_ite {a b d : RF.X} {x y z : Expr} {pos : Pos} (hc : PT X x (tTest (tE X.K FA CA W w C a))) (ha : PE X y (tE X.K FA CA W w C b)) (hb : PE X z (tE X.K FA CA W w C d)) : PE X (.IfExp x y z pos) (tE X.K FA CA W w C (.ite a b d)) :=
  PE.imp (pe_ifExp hc ha hb) i_ite
theorem isTrue_ite {M : Model} {A : Around} {E : Value → Shared → Prop} {s : Shared} {x y z : Expr} {pos : Pos} {env : PySem.Env} {whole : Sem Value} {Q : Bool → Shared → Prop}
    (h : wpAny M A (isTrue x env (eval x env)) (fun b s1 => if b = true then wpAny M A (isTrue y env (eval y env)) Q E s1 else wpAny M A (isTrue z env (eval z env)) Q E s1) E s) : wpAny M A (isTrue (.IfExp x y z pos) env whole) Q E s := by
  show wpAny M A (do if ← isTrue x env (eval x env) then isTrue y env (eval y env) else isTrue z env (eval z env)) Q E s
  refine wpAny_bind (wpAny_mono h (fun b s1 h1 => ?_) fun _ _ x => x)
  cases b with
  | true => exact h1
  | false => exact h1
theorem ct_ite {a b d : RF.X} {x y z : Expr} {pos : Pos} (hc : PT X x (tTest (tE X.K FA CA W w C a))) (ha : PT X y (tTest (tE X.K FA CA W w C b))) (hb : PT X z (tTest (tE X.K FA CA W w C d))) : PT X (.IfExp x y z pos) (tTest (tE X.K FA CA W w C (.ite a b d))) := by
  refine ⟨fun pins s σ H Q I h => ?_⟩
  have h' := i_ite _ _ _ h
  refine isTrue_ite (thn (hc.run pins s σ H _ I h') fun k s1 ⟨H1, I1, q1⟩ => ?_)
  cases k with
  | true => exact ha.run pins s1 σ H1 Q I1 q1
  | false => exact hb.run pins s1 σ H1 Q I1 q1
end
end RF
/-! RFh: lists of expressions; and, or; items, slices, built-ins. -/
namespace RF
open L2 PySem PySem.Spec PyProof.Rows
theorem notStar {Nm : Names} {N : List Str} {m : X} {sc : Scope} {e : Expr} {p : Pos} : isE Nm N m sc (.Starred e p) = false := by cases m <;> rfl
theorem notSlice {Nm : Names} {N : List Str} {m : X} {sc : Scope} {a b c : Option Expr} {p : Pos} : isE Nm N m sc (.Slice a b c p) = false := by cases m <;> rfl
theorem star_cons {Nm : Names} {N : List Str} {m : X} {sc : Scope} {e : Expr} {es : List Expr} {env : PySem.Env} (h : isE Nm N m sc e = true) : starEach (e :: es) env = (false, eval e env) :: starEach es env := by
  cases e <;> first | rfl | (rw [notStar] at h; cases h)
theorem star_any {Nm : Names} {N : List Str} {sc : Scope} {env : PySem.Env} {pos : Pos} : ∀ {es : Xs} {us : List Expr}, isEs Nm N es sc us = true → (backTo pos (starEach us env)).any (·.1) = false
  | .nil, [], _ => rfl
  | .nil, _ :: _, h => by simp [isEs] at h
  | .cons _ _, [], h => by simp [isEs] at h
  | .cons e es, u :: us, h => by
    have h' : isE Nm N e sc u = true ∧ isEs Nm N es sc us = true := by simpa [isEs] using h
    rw [star_cons h'.1]
    show (false || (backTo pos (starEach us env)).any (·.1)) = false
    rw [star_any h'.2]; rfl
theorem plainIx {Nm : Names} {N : List Str} {m : X} {sc : Scope} {e : Expr} (h : isE Nm N m sc e = true) : PlainIx e := fun o i => by
  cases e <;> first | rfl | (rw [notSlice] at h; cases h)
theorem evalEs_len {C : Cfg} : ∀ {es : Xs} {env env1 : Env} {os : List O}, evalEs C es env = .ok os env1 → os.length = xsLen es
  | .nil, _, _, _, h => by
    unfold evalEs at h; cases h; rfl
  | .cons e es, env, env1, os, h => by
    unfold evalEs at h
    cases e1 : evalE C e env with
    | ok o env2 =>
      rw [e1, R.bind_ok] at h
      cases e2 : evalEs C es env2 with
      | ok os2 env3 => rw [e2, R.bind_ok] at h; cases h; simp [xsLen, evalEs_len e2]
      | ex c ds => rw [e2] at h; cases h
      | no => rw [e2] at h; cases h
    | ex c ds => rw [e1] at h; cases h
    | no => rw [e1] at h; cases h
section
variable {Nm : Names} {FA : Fns} {CA : Nat → Option Addr} {C : Cfg} {X : Cx} {W : WX} {w : W0} {sc : Scope}
variable {σ : L2.St} {F F1 H H1 : Hp} {ts : List (Option V × O)} {Q Q1 : VK} {pu pu1 fl : Bool}
/-- an exception on the way -/
def exW (K : PySem.W.Frag) (FA : Fns) (CA : Nat → Option Addr) (W : WX) (w : W0) (σ : L2.St) (F : Hp) (c : Nat) (ds : List D) : Prop :=
  ∀ H' F' od a, CA c = some a → Sub F F' → HR w F' H' → ExcAt K FA F' H' ds od → W (.ref a) od σ H'
def PG {α : Type} (K : PySem.W.Frag) (FA : Fns) (CA : Nat → Option Addr) (W : WX) (w : W0) (σ : L2.St) (F : Hp) (P : α → Env → Prop) : R α → Prop
  | .ok a env => P a env
  | .ex c ds => exW K FA CA W w σ F c ds
  | .no => False
def okE (K : PySem.W.Frag) (FA : Fns) (w : W0) (pu : Bool) (σ : L2.St) (F H : Hp) (ts : List (Option V × O)) (Q : VK) : O → Env → Prop := fun o env' =>
  ∀ v H' F', env'.length = σ.length → Hs K FA w F' H' ((some v, o) :: (lv σ env' ++ ts)) → Sub F F' → (pu = true → Sub H H' ∧ Fresh K FA F' H H' v o) → Q v H'
theorem Post.pg {r : R O} : Post X.K FA CA W w pu σ F H ts Q r = PG X.K FA CA W w σ F (okE X.K FA w pu σ F H ts Q) r := by cases r <;> rfl
theorem PG.bind {α β : Type} {r : R α} {k : α → Env → R β} {P : β → Env → Prop} : PG X.K FA CA W w σ F P (r.bind k) = PG X.K FA CA W w σ F (fun a env => PG X.K FA CA W w σ F P (k a env)) r := by cases r <;> rfl
theorem PG.imp {α : Type} {r : R α} {P P' : α → Env → Prop} (h : PG X.K FA CA W w σ F P r) (i : ∀ a env, r = .ok a env → P a env → P' a env) : PG X.K FA CA W w σ F P' r := by
  cases r with
  | ok a env => exact i a env rfl h
  | ex c ds => exact h
  | no => exact h
theorem PG.rebase {α : Type} {r : R α} {P P' : α → Env → Prop} (h : PG X.K FA CA W w σ F P r) (sF : Sub F F1) (i : ∀ a env, P a env → P' a env) : PG X.K FA CA W w σ F1 P' r := by
  cases r with
  | ok a env => exact i a env h
  | ex c ds => exact fun H' F' od a e sf hr x => h H' F' od a e (sF.trans sf) hr x
  | no => exact h
theorem bindG {α : Type} {r : R O} {k : O → Env → R α} {P : α → Env → Prop} (post : PG X.K FA CA W w σ F P (r.bind k))
    (hk : ∀ o env1 v H1 F1, r = .ok o env1 → env1.length = σ.length → Hs X.K FA w F1 H1 ((some v, o) :: (lv σ env1 ++ ts)) → Sub F F1 → (pu1 = true → Sub H H1 ∧ Fresh X.K FA F1 H H1 v o) →
      PG X.K FA CA W w σ F P (k o env1) → Q1 v H1) : Post X.K FA CA W w pu1 σ F H ts Q1 r := by
  cases r with
  | ok d env => exact fun v H' F' hl s sf p => hk d env v H' F' rfl hl s sf p post
  | ex c ds => exact post
  | no => exact post
theorem bindVG {α : Type} {r : R D} {k : D → Env → R α} {P : α → Env → Prop} (post : PG X.K FA CA W w σ F P (r.bind k))
    (hk : ∀ d env1 v H1 F1, r = .ok d env1 → env1.length = σ.length → Hs X.K FA w F1 H1 (lv σ env1 ++ ts) → RepV X.K FA F1 H1 v d → (fl = false → Rep X.K FA F1 v d) → Sub F F1 → (pu1 = true → Sub H H1) →
      PG X.K FA CA W w σ F P (k d env1) → Q1 v H1) : PostV X.K FA CA W w pu1 fl σ F H ts Q1 r := by
  cases r with
  | ok d env => exact fun v H' F' hl s rv rf sf p => hk d env v H' F' rfl hl s rv rf sf p post
  | ex c ds => exact post
  | no => exact post
/-! ### lists of expressions -/
def FreshL (K : PySem.W.Frag) (FA : Fns) (F' H H' : Hp) (vs : List V) (os : List O) : Prop := ∃ A, RepOs K FA F' H' vs os A ∧ ∀ a ∈ A, H a = none
def okEs (K : PySem.W.Frag) (FA : Fns) (w : W0) (pu : Bool) (σ : L2.St) (F H : Hp) (ts : List (Option V × O)) (Q : List V → Hp → Prop) : List O → Env → Prop := fun os env' =>
  ∀ vs H' F', env'.length = σ.length → vs.length = os.length → Hs K FA w F' H' ((vs.map some).zip os ++ (lv σ env' ++ ts)) → Sub F F' → (pu = true → Sub H H' ∧ FreshL K FA F' H H' vs os) → Q vs H'
def tEs (K : PySem.W.Frag) (FA : Fns) (CA : Nat → Option Addr) (W : WX) (w : W0) (C : Cfg) (es : Xs) : TA := fun σ H Q => ∃ F ts env, env.length = σ.length ∧ Hs K FA w F H (lv σ env ++ ts) ∧ PG K FA CA W w σ F (okEs K FA w (pureXs es) σ F H ts Q) (evalEs C es env)
theorem c_nil : PA X [] (tEs X.K FA CA W w C .nil) := PA.imp pa_nil fun σ H Q ⟨F, ts, env, hl, s, post⟩ => post [] H F hl rfl s (Sub.refl _) fun _ => ⟨Sub.refl _, [], .nil, fun _ m => nomatch m⟩
theorem c_cons {e : RF.X} {es : Xs} {u : Expr} {us : List Expr} (hi : isE Nm X.N e sc u = true) (he : PE X u (tE X.K FA CA W w C e)) (hs : PA X us (tEs X.K FA CA W w C es)) : PA X (u :: us) (tEs X.K FA CA W w C (.cons e es)) := by
  refine PA.imp (pa_cons he hs (star_cons hi)) fun σ H Q ⟨F, ts, env, hl, s, post⟩ => ⟨F, ts, env, hl, s, ?_⟩
  unfold evalEs at post
  refine bindG post fun o env1 v H1 F1 _ hl1 s1 sF1 p1 post => ⟨F1, (some v, o) :: ts, env1, hl1, s1.toTemp, ?_⟩
  rw [PG.bind] at post
  refine post.rebase sF1 fun os env2 q vs H2 F2 hl2 hv s2 sF2 p2 => ?_
  have s3 : Hs X.K FA w F2 H2 ((some v, o) :: ((vs.map some).zip os ++ (lv σ env2 ++ ts))) := by
    rw [← List.append_assoc] at s2
    have := s2.ofTemp
    rwa [List.append_assoc] at this
  refine q (v :: vs) H2 F2 hl2 (by simp [hv]) s3 (sF1.trans sF2) fun z => ?_
  have z' := Bool.and_eq_true_iff.mp (show (pureX e && pureXs es) = true from z)
  obtain ⟨a1, a2⟩ := p1 z'.1
  obtain ⟨b1, B, b2, b3⟩ := p2 z'.2
  obtain ⟨A, a3, a4⟩ := a2.mono sF2 b1
  refine ⟨a1.trans b1, A ++ B, .cons a3 b2, fun a m => ?_⟩
  rcases List.mem_append.mp m with m | m
  · exact a4 a m
  · cases e : H a with
    | none => rfl
    | some x => rw [← a1 _ _ e, b3 a m]
theorem c_tup {es : Xs} {us : List Expr} {k : Nat} {pos : Pos} (hs : PA X us (tEs X.K FA CA W w C es)) (hz : xsLen es = us.length) (hz2 : us.length ≤ 1000) : PE X (.Tuple us k pos) (tE X.K FA CA W w C (.tup es)) := by
  refine PE.imp (pe_tup hs) fun σ H Q ⟨F, ts, env, hl, s, post⟩ => ⟨F, ts, env, hl, s, ?_⟩
  unfold evalE at post
  rw [Post.pg, PG.bind] at post
  refine post.imp fun os env1 he q vs H1 F1 hl1 hv s1 sF1 p1 => ⟨?_, fun p hp => ?_⟩
  · rw [hv]
    have : os.length = xsLen es := evalEs_len he
    have e24 : (sizeLine : Nat) = 2 ^ 24 := rfl
    omega
  · have s2 := s1.mkTup hv hp
    have fp : F1 p = none := by
      cases z : F1 p with
      | none => rfl
      | some ob => rw [s1.1.sub _ _ z] at hp; cases hp
    refine q _ _ _ hl1 s2 (sF1.trans (sub_upd fp)) fun z => ?_
    obtain ⟨a1, A, a2, a3⟩ := p1 z
    refine ⟨a1.trans (sub_upd hp), ?_⟩
    have a4 := a2.frame (F' := upd F1 p (.tup vs)) (H' := upd H1 p (.tup vs)) (sub_upd fp) (fun b m => by
      obtain ⟨xs, e⟩ := a2.dom b m
      exact upd_ne (ne_of_none e hp)) (sub_upd hp).tups
    by_cases zz : os.all O.isZ = true
    · rw [if_pos zz]
      obtain ⟨_, r3⟩ := a4.allZ zz
      exact Fresh.z (.tup upd_same r3)
    · rw [if_neg zz]
      exact ⟨A, .t upd_same a4, a3⟩
end
end RF
/-! RFi: displays; and, or; items, slices, built-ins. -/
namespace RF
open L2 PySem PySem.Spec PyProof.Rows
section
variable {Nm : Names} {FA : Fns} {CA : Nat → Option Addr} {C : Cfg} {X : Cx} {W : WX} {w : W0} {sc : Scope}
variable {σ : L2.St} {F F1 H H1 : Hp} {ts : List (Option V × O)} {Q Q1 : VK} {pu pu1 fl : Bool}
theorem Hs.nonew {K : PySem.W.Frag} {ps : List (Option V × O)} (s : Hs K FA w F H ps) {p : Addr} (hp : H p = none) : F p = none := by
  cases z : F p with
  | none => rfl
  | some ob => rw [s.1.sub _ _ z] at hp; cases hp
theorem c_lst {es : Xs} {us : List Expr} {pos : Pos} (hs : PA X us (tEs X.K FA CA W w C es)) (hz : xsLen es = us.length) (hz2 : us.length ≤ 1000) : PE X (.List us pos) (tE X.K FA CA W w C (.lst es)) := by
  refine PE.imp (pe_lst hs) fun σ H Q ⟨F, ts, env, hl, s, post⟩ => ⟨F, ts, env, hl, s, ?_⟩
  unfold evalE at post
  rw [Post.pg, PG.bind] at post
  refine post.imp fun os env1 he q vs H1 F1 hl1 hv s1 sF1 p1 => ⟨?_, fun p hp => ?_⟩
  · rw [hv]
    have : os.length = xsLen es := evalEs_len he
    have e24 : (sizeLine : Nat) = 2 ^ 24 := rfl
    omega
  · have s2 := s1.mkList hv hp
    refine q _ _ _ hl1 s2 sF1 fun z => ?_
    obtain ⟨a1, A, a2, a3⟩ := p1 z
    refine ⟨a1.trans (sub_upd hp), p :: A, .l upd_same (a2.frame (Sub.refl _) (fun b m => ?_) (sub_upd hp).tups), fun a m => ?_⟩
    · obtain ⟨xs, e⟩ := a2.dom b m
      exact upd_ne (ne_of_none e hp)
    · rcases List.mem_cons.mp m with e | m
      · rw [e]
        cases z : H p with
        | none => rfl
        | some x => rw [a1 _ _ z] at hp; cases hp
      · exact a3 a m
/-! ### and, or -/
def tAn (K : PySem.W.Frag) (FA : Fns) (CA : Nat → Option Addr) (W : WX) (w : W0) (C : Cfg) (es : Xs) : TE := fun σ H Q => ∃ F ts env, env.length = σ.length ∧ Hs K FA w F H (lv σ env ++ ts) ∧ Post K FA CA W w (pureXs es) σ F H ts Q (evalAnd C es env)
def tOr (K : PySem.W.Frag) (FA : Fns) (CA : Nat → Option Addr) (W : WX) (w : W0) (C : Cfg) (es : Xs) : TE := fun σ H Q => ∃ F ts env, env.length = σ.length ∧ Hs K FA w F H (lv σ env ++ ts) ∧ Post K FA CA W w (pureXs es) σ F H ts Q (evalOr C es env)
theorem PW.imp {e : Expr} {t t' : TT} (h : PW X e t) (i : ∀ σ H Q, t' σ H Q → t σ H Q) : PW X e t' := ⟨fun wh pins s σ H Q I q => h.run wh pins s σ H Q I (i _ _ _ q)⟩
theorem pxs1 {e : RF.X} : pureXs (.cons e .nil) = true → pureX e = true := fun z => (Bool.and_eq_true_iff.mp (show (pureX e && true) = true from z)).1
theorem i_and1 {e : RF.X} : ∀ σ H Q, tAn X.K FA CA W w C (.cons e .nil) σ H Q → tE X.K FA CA W w C e σ H Q := by
  refine fun σ H Q ⟨F, ts, env, hl, s, post⟩ => ⟨F, ts, env, hl, s, ?_⟩
  have q : evalAnd C (.cons e .nil) env = evalE C e env := by unfold evalAnd; rfl
  rw [q] at post
  cases e1 : evalE C e env with
  | ok o env1 => rw [e1] at post; exact fun v H' F' a b c d => post v H' F' a b c fun z => d (pxs1 z)
  | ex c ds => rw [e1] at post; exact post
  | no => rw [e1] at post; exact post
theorem i_or1 {e : RF.X} : ∀ σ H Q, tOr X.K FA CA W w C (.cons e .nil) σ H Q → tE X.K FA CA W w C e σ H Q := by
  refine fun σ H Q ⟨F, ts, env, hl, s, post⟩ => ⟨F, ts, env, hl, s, ?_⟩
  have q : evalOr C (.cons e .nil) env = evalE C e env := by unfold evalOr; rfl
  rw [q] at post
  cases e1 : evalE C e env with
  | ok o env1 => rw [e1] at post; exact fun v H' F' a b c d => post v H' F' a b c fun z => d (pxs1 z)
  | ex c ds => rw [e1] at post; exact post
  | no => rw [e1] at post; exact post
theorem and2 {e f : RF.X} {es : Xs} {env : Env} : evalAnd C (.cons e (.cons f es)) env = (evalE C e env).bind fun x env1 => match x with
    | .z (.bl true) => evalAnd C (.cons f es) env1
    | .z (.bl false) => .ok (.z (.bl false)) env1
    | _ => .no := by
  (conv => lhs; unfold evalAnd) <;> rfl
theorem or2 {e f : RF.X} {es : Xs} {env : Env} : evalOr C (.cons e (.cons f es)) env = (evalE C e env).bind fun x env1 => match x with
    | .z (.bl false) => evalOr C (.cons f es) env1
    | .z (.bl true) => .ok (.z (.bl true)) env1
    | _ => .no := by
  (conv => lhs; unfold evalOr) <;> rfl
theorem px2 {e : RF.X} {es : Xs} : pureXs (.cons e es) = true → pureX e = true ∧ pureXs es = true := fun z => Bool.and_eq_true_iff.mp z
theorem i_and2 {e f : RF.X} {es : Xs} : ∀ σ H Q, tAn X.K FA CA W w C (.cons e (.cons f es)) σ H Q → tE X.K FA CA W w C e σ H fun x H1 => ∃ c, x = .bl c ∧ if c = true then tAn X.K FA CA W w C (.cons f es) σ H1 Q else Q (.bl false) H1 := by
  refine fun σ H Q ⟨F, ts, env, hl, s, post⟩ => ⟨F, ts, env, hl, s, ?_⟩
  rw [and2] at post
  refine bindE post fun o env1 v H1 F1 _ hl1 s1 sF1 p1 post => ?_
  have post := post.rebase sF1 fun z => (p1 (px2 z).1).1
  split at post
  · obtain rfl := RepV.bl (.rep s1.rep : RepV X.K FA F1 H1 v _)
    exact ⟨_, rfl, iteT ⟨F1, ts, env1, hl1, s1.tail, post.weakP fun z => (px2 z).2⟩⟩
  · obtain rfl := RepV.bl (.rep s1.rep : RepV X.K FA F1 H1 v _)
    exact ⟨_, rfl, iteF (post.z hl1 s1.tail (.bl _))⟩
  · exact post.elim
theorem i_or2 {e f : RF.X} {es : Xs} : ∀ σ H Q, tOr X.K FA CA W w C (.cons e (.cons f es)) σ H Q → tE X.K FA CA W w C e σ H fun x H1 => ∃ c, x = .bl c ∧ if c = true then Q (.bl true) H1 else tOr X.K FA CA W w C (.cons f es) σ H1 Q := by
  refine fun σ H Q ⟨F, ts, env, hl, s, post⟩ => ⟨F, ts, env, hl, s, ?_⟩
  rw [or2] at post
  refine bindE post fun o env1 v H1 F1 _ hl1 s1 sF1 p1 post => ?_
  have post := post.rebase sF1 fun z => (p1 (px2 z).1).1
  split at post
  · obtain rfl := RepV.bl (.rep s1.rep : RepV X.K FA F1 H1 v _)
    exact ⟨_, rfl, iteF ⟨F1, ts, env1, hl1, s1.tail, post.weakP fun z => (px2 z).2⟩⟩
  · obtain rfl := RepV.bl (.rep s1.rep : RepV X.K FA F1 H1 v _)
    exact ⟨_, rfl, iteT (post.z hl1 s1.tail (.bl _))⟩
  · exact post.elim
theorem tTest_of {t : TE} {g : Bool → Hp → Prop} {σ : L2.St} {H : Hp} (mono : ∀ Q Q' : VK, (∀ v H', Q v H' → Q' v H') → t σ H Q → t σ H Q') (h : t σ H fun x H1 => ∃ c, x = .bl c ∧ g c H1) : tTest t σ H g :=
  mono _ _ (fun _ _ z => z) h
theorem tE_mono {m : RF.X} {σ : L2.St} {H : Hp} {Q Q' : VK} (i : ∀ v H', Q v H' → Q' v H') (h : tE X.K FA CA W w C m σ H Q) : tE X.K FA CA W w C m σ H Q' := by
  obtain ⟨F, ts, env, hl, s, post⟩ := h
  refine ⟨F, ts, env, hl, s, ?_⟩
  cases e : evalE C m env with
  | ok o env1 => rw [e] at post; exact fun v H' F' a b c d => i _ _ (post v H' F' a b c d)
  | ex c ds => rw [e] at post; exact post
  | no => rw [e] at post; exact post
theorem c_and1 {e : RF.X} {u : Expr} {pos : Pos} (h : PE X u (tE X.K FA CA W w C e)) (ht : PT X u (tTest (tE X.K FA CA W w C e))) :
    PE X (.BoolOp .And [u] pos) (tAn X.K FA CA W w C (.cons e .nil)) ∧ PW X (.BoolOp .And [u] pos) (tTest (tAn X.K FA CA W w C (.cons e .nil))) :=
  ⟨PE.imp (pe_one h) i_and1, PW.imp (pw_and1 ht) fun _ _ _ h => i_and1 _ _ _ h⟩
theorem c_or1 {e : RF.X} {u : Expr} {pos : Pos} (h : PE X u (tE X.K FA CA W w C e)) (ht : PT X u (tTest (tE X.K FA CA W w C e))) :
    PE X (.BoolOp .Or [u] pos) (tOr X.K FA CA W w C (.cons e .nil)) ∧ PW X (.BoolOp .Or [u] pos) (tTest (tOr X.K FA CA W w C (.cons e .nil))) :=
  ⟨PE.imp (pe_one h) i_or1, PW.imp (pw_or1 ht) fun _ _ _ h => i_or1 _ _ _ h⟩
theorem c_and2 {e f : RF.X} {es : Xs} {u u' : Expr} {us : List Expr} {pos : Pos} (h : PE X u (tE X.K FA CA W w C e)) (ht : PT X u (tTest (tE X.K FA CA W w C e)))
    (h2 : PE X (.BoolOp .And (u' :: us) pos) (tAn X.K FA CA W w C (.cons f es)) ∧ PW X (.BoolOp .And (u' :: us) pos) (tTest (tAn X.K FA CA W w C (.cons f es)))) :
    PE X (.BoolOp .And (u :: u' :: us) pos) (tAn X.K FA CA W w C (.cons e (.cons f es))) ∧ PW X (.BoolOp .And (u :: u' :: us) pos) (tTest (tAn X.K FA CA W w C (.cons e (.cons f es)))) := by
  refine ⟨PE.imp (pe_and h h2.1) i_and2, PW.imp (pw_and ht h2.2) fun σ H Q q => ?_⟩
  refine tE_mono (fun v H1 z => ?_) (i_and2 _ _ _ q)
  obtain ⟨c, rfl, z⟩ := z
  refine ⟨c, rfl, ?_⟩
  cases c with
  | true =>
    rw [if_pos rfl] at z
    exact iteT z
  | false =>
    rw [if_neg Bool.false_ne_true] at z
    obtain ⟨k, e1, q⟩ := z
    cases e1
    exact iteF q
theorem c_or2 {e f : RF.X} {es : Xs} {u u' : Expr} {us : List Expr} {pos : Pos} (h : PE X u (tE X.K FA CA W w C e)) (ht : PT X u (tTest (tE X.K FA CA W w C e)))
    (h2 : PE X (.BoolOp .Or (u' :: us) pos) (tOr X.K FA CA W w C (.cons f es)) ∧ PW X (.BoolOp .Or (u' :: us) pos) (tTest (tOr X.K FA CA W w C (.cons f es)))) :
    PE X (.BoolOp .Or (u :: u' :: us) pos) (tOr X.K FA CA W w C (.cons e (.cons f es))) ∧ PW X (.BoolOp .Or (u :: u' :: us) pos) (tTest (tOr X.K FA CA W w C (.cons e (.cons f es)))) := by
  refine ⟨PE.imp (pe_or h h2.1) i_or2, PW.imp (pw_or ht h2.2) fun σ H Q q => ?_⟩
  refine tE_mono (fun v H1 z => ?_) (i_or2 _ _ _ q)
  obtain ⟨c, rfl, z⟩ := z
  refine ⟨c, rfl, ?_⟩
  cases c with
  | false =>
    rw [if_neg Bool.false_ne_true] at z
    exact iteF z
  | true =>
    rw [if_pos rfl] at z
    obtain ⟨k, e1, q⟩ := z
    cases e1
    exact iteT q
/-! ### items, slices -/
theorem c_ix {a i : RF.X} {x y : Expr} {pos : Pos} (hi : isE Nm X.N i sc y = true) (ha : PE X x (tV X.K FA CA W w C (pureX i) a)) (hb : PE X y (tE X.K FA CA W w C i)) : PE X (.Subscript x y pos) (tE X.K FA CA W w C (.ix a i)) := by
  refine PE.imp (pe_ix ix_seq ha hb (plainIx hi)) fun σ H Q ⟨F, ts, env, hl, s, post⟩ => ⟨F, ts, env, hl, s, ?_⟩
  unfold evalE at post
  have pp := fun z => Bool.and_eq_true_iff.mp (show (pureX a && pureX i) = true from z)
  refine bindV post fun dx env1 vx H1 F1 _ hl1 s1 rx rf sF1 p1 post => ⟨F1, ts, env1, hl1, s1, ?_⟩
  have post := post.rebase sF1 fun z => p1 (pp z).1
  refine bindE post fun o env2 vy H2 F2 _ hl2 s2 sF2 p2 post => ?_
  have post := post.rebase sF2 fun z => (p2 (pp z).2).1
  have rx2 : RepV X.K FA F2 H2 vx dx := by
    cases e : pureX i with
    | true => exact rx.mono sF2 (p2 e).1
    | false => exact .rep ((rf e).mono sF2)
  cases o with
  | z d =>
    cases d with
    | int j =>
      obtain rfl := RepV.int (.rep s2.rep : RepV X.K FA F2 H2 vy _)
      cases dx with
      | lst ds =>
        cases e : atI ds j with
        | none => simp only [e] at post; exact post.elim
        | some d => simp only [e] at post; exact ix_ok s2.tail rx2 e (post.done hl2)
      | tup ds =>
        cases e : atI ds j with
        | none => simp only [e] at post; exact post.elim
        | some d => simp only [e] at post; exact ix_ok s2.tail rx2 e (post.done hl2)
      | scr ns =>
        cases e : atI ns j with
        | none => simp only [e] at post; exact post.elim
        | some d => simp only [e] at post; exact ix_ok s2.tail rx2 (dd := .int d) (by simp only [e]; rfl) (post.done hl2)
      | _ => exact post.elim
    | _ => cases dx <;> exact post.elim
  | _ => cases dx <;> exact post.elim
def okP (K : PySem.W.Frag) (FA : Fns) (w : W0) (pu : Bool) (σ : L2.St) (F H : Hp) (ts : List (Option V × O)) (Q : Option Int → Hp → Prop) : Option Int → Env → Prop := fun o env' =>
  ∀ H' F', env'.length = σ.length → Hs K FA w F' H' (lv σ env' ++ ts) → Sub F F' → (pu = true → Sub H H') → Q o H'
def tPo (K : PySem.W.Frag) (FA : Fns) (CA : Nat → Option Addr) (W : WX) (w : W0) (C : Cfg) (m : Xo) : TO := fun σ H Q => ∃ F ts env, env.length = σ.length ∧ Hs K FA w F H (lv σ env ++ ts) ∧ PG K FA CA W w σ F (okP K FA w (pureXo m) σ F H ts Q) (evalPart C m env)
theorem PO.imp {e : Option Expr} {t t' : TO} (h : PO X e t) (i : ∀ σ H Q, t' σ H Q → t σ H Q) : PO X e t' := ⟨fun pins s σ H Q I q => h.run pins s σ H Q I (i _ _ _ q)⟩
theorem c_poN : PO X none (tPo X.K FA CA W w C .none) := PO.imp po_none fun σ H Q ⟨F, ts, env, hl, s, post⟩ => post H F hl s (Sub.refl _) fun _ => Sub.refl _
theorem c_poS {m : RF.X} {e : Expr} (h : PE X e (tE X.K FA CA W w C m)) : PO X (some e) (tPo X.K FA CA W w C (.some m)) := by
  refine PO.imp (po_some h) fun σ H Q ⟨F, ts, env, hl, s, post⟩ => ⟨F, ts, env, hl, s, ?_⟩
  unfold evalPart at post
  refine bindG post fun o env1 v H1 F1 _ hl1 s1 sF1 p1 post => ?_
  split at post
  · obtain rfl := RepV.int (.rep s1.rep : RepV X.K FA F1 H1 v _)
    exact ⟨_, rfl, post H1 F1 hl1 s1.tail sF1 fun z => (p1 z).1⟩
  · exact post.elim
theorem c_sl {a : RF.X} {lo hi : Xo} {x : Expr} {l h : Option Expr} {p pos : Pos} (ha : PE X x (tV X.K FA CA W w C (pureXo lo && pureXo hi) a)) (hl : PO X l (tPo X.K FA CA W w C lo)) (hh : PO X h (tPo X.K FA CA W w C hi)) : PE X (.Subscript x (.Slice l h none p) pos) (tE X.K FA CA W w C (.sl a lo hi)) := by
  refine PE.imp (pe_slice sl_list ha hl hh) fun σ H Q ⟨F, ts, env, hl, s, post⟩ => ⟨F, ts, env, hl, s, ?_⟩
  unfold evalE at post
  have pp := fun z => Bool.and_eq_true_iff.mp (show (pureX a && pureXo lo && pureXo hi) = true from z)
  refine bindV post fun dx env1 vx H1 F1 _ hl1 s1 rx rf sF1 p1 post => ⟨F1, ts, env1, hl1, s1, ?_⟩
  have post := post.rebase sF1 fun z => p1 (Bool.and_eq_true_iff.mp (pp z).1).1
  rw [Post.pg, PG.bind] at post
  refine post.imp fun l env2 _ post H2 F2 hl2 s2 sF2 p2 => ⟨F2, ts, env2, hl2, s2, ?_⟩
  have post := Post.pg.mpr post
  have post := post.rebase sF2 fun z => p2 (Bool.and_eq_true_iff.mp (pp z).1).2
  rw [Post.pg, PG.bind] at post
  refine post.imp fun u env3 _ post H3 F3 hl3 s3 sF3 p3 => ?_
  have post := Post.pg.mpr post
  have post := post.rebase sF3 fun z => p3 (pp z).2
  have rx3 : RepV X.K FA F3 H3 vx dx := by
    cases e : (pureXo lo && pureXo hi) with
    | true =>
      have e' := Bool.and_eq_true_iff.mp e
      exact (rx.mono sF2 (p2 e'.1)).mono sF3 (p3 e'.2)
    | false => exact .rep (((rf e).mono sF2).mono sF3)
  split at post
  · exact sl_ok s3 rx3 rfl (post.done hl3)
  · exact sl_ok s3 rx3 rfl (post.done hl3)
  · exact post.elim
theorem c_rev {a : RF.X} {x : Expr} {k : Nat} {p1 p2 p3 pos : Pos} (ha : PE X x (tV X.K FA CA W w C true a)) : PE X (.Subscript x (.Slice none none (some (.UnaryOp .USub (.Constant (.int 1) k p1) p2)) p3) pos) (tE X.K FA CA W w C (.rev a)) := by
  refine PE.imp (pe_revL ha) fun σ H Q ⟨F, ts, env, hl, s, post⟩ => ⟨F, ts, env, hl, s, ?_⟩
  unfold evalE at post
  refine bindV post fun dx env1 vx H1 F1 _ hl1 s1 rx rf sF1 p1 post => ?_
  have post := post.rebase sF1 fun z => p1 z
  split at post
  · obtain ⟨b, us, rfl, h1, r1⟩ := rx.lst s1.1.sub
    exact ⟨b, us, rfl, .of h1, fun p hp => Hs.freshList (post.done hl1) s1 r1.reverse hp⟩
  · exact post.elim
/-! ### built-ins -/
def okVs (K : PySem.W.Frag) (FA : Fns) (w : W0) (pu : Bool) (σ : L2.St) (F H : Hp) (ts : List (Option V × O)) (Q : List V → Hp → Prop) : List D → Env → Prop := fun ds env' =>
  ∀ vs H' F', env'.length = σ.length → RepVs K FA F' H' vs ds → Hs K FA w F' H' (lv σ env' ++ ts) → Sub F F' → (pu = true → Sub H H') → Q vs H'
def tVs (K : PySem.W.Frag) (FA : Fns) (CA : Nat → Option Addr) (W : WX) (w : W0) (C : Cfg) (es : Xs) : TA := fun σ H Q => ∃ F ts env, env.length = σ.length ∧ Hs K FA w F H (lv σ env ++ ts) ∧ PG K FA CA W w σ F (okVs K FA w (pureXs es) σ F H ts Q) (evalVs C es env)
theorem c_vnil : PA X [] (tVs X.K FA CA W w C .nil) := PA.imp pa_nil fun σ H Q ⟨F, ts, env, hl, s, post⟩ => post [] H F hl .nil s (Sub.refl _) fun _ => Sub.refl _
theorem c_vcons {e : RF.X} {es : Xs} {u : Expr} {us : List Expr} (hi : isE Nm X.N e sc u = true) (he : PE X u (tV X.K FA CA W w C (pureXs es) e)) (hs : PA X us (tVs X.K FA CA W w C es)) : PA X (u :: us) (tVs X.K FA CA W w C (.cons e es)) := by
  refine PA.imp (pa_cons he hs (star_cons hi)) fun σ H Q ⟨F, ts, env, hl, s, post⟩ => ⟨F, ts, env, hl, s, ?_⟩
  unfold evalVs at post
  refine bindVG post fun d env1 v H1 F1 _ hl1 s1 rv rf sF1 p1 post => ⟨F1, ts, env1, hl1, s1, ?_⟩
  rw [PG.bind] at post
  refine post.rebase sF1 fun ds env2 q vs H2 F2 hl2 hv s2 sF2 p2 => ?_
  refine q (v :: vs) H2 F2 hl2 (.cons ?_ hv) s2 (sF1.trans sF2) fun z => (p1 (px2 z).1).trans (p2 (px2 z).2)
  cases e : pureXs es with
  | true => exact rv.mono sF2 (p2 e)
  | false => exact .rep ((rf e).mono sF2)
theorem blt_free (c : Cok Nm FA CA C X W) {x : Str} (h : x ∈ bltNames) : X.mg x = none := c.blt x h
theorem boot_enum' : True := trivial
theorem c_blt {b : Blt} {e : RF.X} {es : Xs} {x : Str} {u : Expr} {us : List Expr} {p pos : Pos} (c : Cok Nm FA CA C X W) (r : ScR X sc) (hi : isEs Nm X.N (.cons e es) sc (u :: us) = true) (hb : bltIs b (u :: us).length x = true) (hg : glB sc x = true)
    (ha : PA X (u :: us) (tVs X.K FA CA W w C (.cons e es))) : PE X (.Call (.Name x p) (u :: us) [] pos) (tE X.K FA CA W w C (.blt b (.cons e es))) := by
  obtain ⟨g1, g2⟩ := glB_ok r hg
  have hi' : isE Nm X.N e sc u = true ∧ isEs Nm X.N es sc us = true := by simpa [isEs] using hi
  have fin : PE X (.Call (.Name x p) (u :: us) [] pos) (tCB (rBlt X.K b) (tVs X.K FA CA W w C (.cons e es))) := by
    have st := star_cons (env := X.env) (es := us) hi'.1
    have sa := star_any (env := X.env) (pos := pos) hi'.2
    have k : ∀ {y : Str}, (x == y) = true → x = y := fun h => by simpa using h
    cases b <;> (rcases us with _ | ⟨u2, _ | ⟨u3, us⟩⟩) <;> first | (simp [bltIs] at hb; done) | skip
    · obtain rfl := k (y := "len") (by simpa [bltIs] using hb)
      exact pe_callB call_len_seq g1 (c.blt _ (by decide)) PySem.boot_len ha (he := st) (hpl := sa)
    · obtain rfl := k (y := "abs") (by simpa [bltIs] using hb)
      exact pe_callB call_abs g1 (c.blt _ (by decide)) boot_abs ha (he := st) (hpl := sa)
    · obtain rfl := k (y := "sum") (by simpa [bltIs] using hb)
      exact pe_callB (cr_sum c.calm) g1 (c.blt _ (by decide)) boot_sum ha (he := st) (hpl := sa)
    · obtain rfl := k (y := "max") (by simpa [bltIs] using hb)
      exact pe_callB (cr_max c.calm) g1 (c.blt _ (by decide)) boot_max ha (he := st) (hpl := sa)
    · obtain rfl := k (y := "min") (by simpa [bltIs] using hb)
      exact pe_callB (cr_min c.calm) g1 (c.blt _ (by decide)) boot_min ha (he := st) (hpl := sa)
    · obtain rfl := k (y := "max") (by simpa [bltIs] using hb)
      exact pe_callB (call_max2 c.calm) g1 (c.blt _ (by decide)) boot_max ha (he := st) (hpl := sa)
    · obtain rfl := k (y := "min") (by simpa [bltIs] using hb)
      exact pe_callB (call_min2 c.calm) g1 (c.blt _ (by decide)) boot_min ha (he := st) (hpl := sa)
    · obtain rfl := k (y := "int") (by simpa [bltIs] using hb)
      exact pe_callTy call_int1 g1 (c.blt _ (by decide)) (by decide +kernel) ha (he := st) (hpl := sa)
    · obtain rfl := k (y := "list") (by simpa [bltIs] using hb)
      exact pe_callTy call_list_of g1 (c.blt _ (by decide)) (by decide +kernel) ha (he := st) (hpl := sa)
    · obtain rfl := k (y := "tuple") (by simpa [bltIs] using hb)
      exact pe_callTy call_tuple_of g1 (c.blt _ (by decide)) (by decide +kernel) ha (he := st) (hpl := sa)
    · obtain rfl := k (y := "all") (by simpa [bltIs] using hb)
      exact pe_callB (cr_all c.calm) g1 (c.blt _ (by decide)) boot_all ha (he := st) (hpl := sa)
  refine PE.imp fin fun σ H Q ⟨F, ts, env, hl, s, post⟩ => ⟨F, ts, env, hl, s, ?_⟩
  unfold evalE at post
  rw [Post.pg, PG.bind] at post
  refine post.imp fun ds env1 _ q vs H1 F1 hl1 rv s1 sF1 p1 => ?_
  have post := (Post.pg.mpr q).rebase sF1 fun z => p1 z
  cases e1 : bltV b ds with
  | none => rw [e1] at post; exact post.elim
  | some o => rw [e1] at post; exact blt_ok s1 rv e1 (post.done hl1)
end
end RF
/-! RFj: calls. -/
namespace RF
open L2 PySem PySem.Spec PyProof.Rows
section
variable {Nm : Names} {FA : Fns} {CA : Nat → Option Addr} {C : Cfg} {X : Cx} {W : WX} {w : W0} {sc : Scope}
variable {σ : L2.St} {F F' F1 H H' H1 : Hp} {ts : List (Option V × O)} {Q Q1 : VK} {pu pu1 fl : Bool}
/-! ### arguments -/
inductive ArgsR (K : PySem.W.Frag) (FA : Fns) (F : Hp) (σ : L2.St) : List V → List Ar → Prop
  | nil : ArgsR K FA F σ [] []
  | val {v : V} {d : D} {vs : List V} {as : List Ar} : Rep K FA F v d → ArgsR K FA F σ vs as → ArgsR K FA F σ (v :: vs) (.val d :: as)
  | ref {v : V} {i : Nat} {vs : List V} {as : List Ar} : σ[i]? = some (some v) → ArgsR K FA F σ vs as → ArgsR K FA F σ (v :: vs) (.ref i :: as)
theorem ArgsR.mono {K : PySem.W.Frag} {vs : List V} {as : List Ar} (h : ArgsR K FA F σ vs as) (s : Sub F F') : ArgsR K FA F' σ vs as := by
  induction h with
  | nil => exact .nil
  | val r _ ih => exact .val (r.mono s) ih
  | ref r _ ih => exact .ref r ih
theorem ArgsR.length {K : PySem.W.Frag} {vs : List V} {as : List Ar} (h : ArgsR K FA F σ vs as) : vs.length = as.length := by
  induction h with
  | nil => rfl
  | val r _ ih => simp [ih]
  | ref r _ ih => simp [ih]
def okAr (K : PySem.W.Frag) (FA : Fns) (w : W0) (pu : Bool) (σ : L2.St) (F H : Hp) (ts : List (Option V × O)) (Q : List V → Hp → Prop) : List Ar → Env → Prop := fun as env' =>
  ∀ vs H' F', env'.length = σ.length → ArgsR K FA F' σ vs as → Hs K FA w F' H' (lv σ env' ++ ts) → Sub F F' → (pu = true → Sub H H') → Q vs H'
def tAr (K : PySem.W.Frag) (FA : Fns) (CA : Nat → Option Addr) (W : WX) (w : W0) (C : Cfg) (ms : List Bool) (es : Xs) : TA := fun σ H Q => ∃ F ts env, env.length = σ.length ∧ Hs K FA w F H (lv σ env ++ ts) ∧ PG K FA CA W w σ F (okAr K FA w (pureXs es) σ F H ts Q) (evalArgs C es ms env)
theorem c_anil {ms : List Bool} : PA X [] (tAr X.K FA CA W w C ms .nil) := PA.imp pa_nil fun σ H Q ⟨F, ts, env, hl, s, post⟩ => by
  unfold evalArgs at post
  cases ms with
  | nil => exact post [] H F hl .nil s (Sub.refl _) fun _ => Sub.refl _
  | cons m ms => exact post.elim
theorem c_acons {e : RF.X} {es : Xs} {u : Expr} {us : List Expr} {ms : List Bool} (r : ScR X sc) (hi : isE Nm X.N e sc u = true) (he : PE X u (tE X.K FA CA W w C e)) (hs : ∀ ms, PA X us (tAr X.K FA CA W w C ms es)) : PA X (u :: us) (tAr X.K FA CA W w C ms (.cons e es)) := by
  cases ms with
  | nil => exact PA.imp (pa_cons he (hs []) (star_cons hi)) fun σ H Q ⟨F, ts, env, hl, s, post⟩ => by unfold evalArgs at post; exact post.elim
  | cons m ms =>
    cases m with
    | false =>
      refine PA.imp (pa_cons he (hs ms) (star_cons hi)) fun σ H Q ⟨F, ts, env, hl, s, post⟩ => ⟨F, ts, env, hl, s, ?_⟩
      unfold evalArgs at post
      refine bindG post fun o env1 v H1 F1 _ hl1 s1 sF1 p1 post => ?_
      obtain ⟨F2, sF2, s2⟩ := s1.freeze
      refine ⟨F2, ts, env1, hl1, s2.tail, ?_⟩
      rw [PG.bind] at post
      refine post.rebase (sF1.trans sF2) fun as env2 q vs H3 F3 hl3 ra s3 sF3 p3 => ?_
      exact q (v :: vs) H3 F3 hl3 (.val (s2.rep.mono sF3) ra) s3 ((sF1.trans sF2).trans sF3) fun z => (p1 (px2 z).1).1.trans (p3 (px2 z).2)
    | true =>
      cases e with
      | v i =>
        cases u with
        | Name x pos =>
          refine PA.imp (pa_cons (pe_slot r (show visB X.N sc i x = true by simpa [isE] using hi)) (hs ms) (star_cons hi)) fun σ H Q ⟨F, ts, env, hl, s, post⟩ => ?_
          unfold evalArgs at post
          cases e1 : getE env i with
          | none => simp only [e1] at post; exact post.elim
          | some o =>
            simp only [e1] at post
            obtain ⟨v, e2, _⟩ := s.take hl e1
            refine ⟨v, e2, F, ts, env, hl, s, ?_⟩
            rw [PG.bind] at post
            refine post.rebase (Sub.refl _) fun as env2 q vs H3 F3 hl3 ra s3 sF3 p3 => ?_
            exact q (v :: vs) H3 F3 hl3 (.ref e2 ra) s3 sF3 fun z => p3 (px2 z).2
        | _ => simp [isE] at hi
      | _ => exact PA.imp (pa_cons he (hs ms) (star_cons hi)) fun σ H Q ⟨F, ts, env, hl, s, post⟩ => by unfold evalArgs at post; exact post.elim
/-! ### behind a call -/
theorem HR.call {K : PySem.W.Frag} {M : List Addr} (hr : HR w F H) (qM : ∀ a ∈ M, a ∈ w.M ∨ w.H0 a = none) (h : HR ⟨H, M, F, []⟩ F' H') (hM : ∀ a ∈ M, ∃ xs, H a = some (.lst xs)) : HR w F' H' where
  sub := h.sub
  sub0 := hr.sub0.trans h.sub0
  new := fun a o e => by
    rcases h.new a o e with z | z | z | z
    · exact hr.new a o z
    · exact .inr (.inl (hr.dom a z))
    · rcases qM a z with z | z
      · exact .inr (.inr (.inl z))
      · exact .inr (.inl z)
    · cases q : w.H0 a with
      | none => exact .inr (.inl rfl)
      | some o' =>
        by_cases m : a ∈ w.M
        · exact .inr (.inr (.inl m))
        · have e1 := hr.keep a o' q m
          have z1 : H a = some o := z.1
          rw [e1] at z1
          obtain rfl := Option.some.inj z1
          exact .inr (.inr (.inr ⟨rfl, z.2⟩))
  keep := fun a o e m => by
    refine h.keep a o (hr.keep a o e m) fun z => ?_
    rcases qM a z with z | z
    · exact m z
    · rw [z] at e; cases e
  dom := fun a e => hr.dom a (h.dom a e)
  tups := h.tups
  tabs := Tabs.stay hr.tabs fun b o e n => h.keep b o e fun m => by
    obtain ⟨xs, e'⟩ := hM b m
    rw [e] at e'
    obtain rfl := Option.some.inj e'
    exact n _ rfl
  ntb := h.ntb
theorem Hs.call {K : PySem.W.Frag} {M B : List Addr} {cs ps : List (Option V × O)} (hr : HR w F H) (rB : RepL K FA F H ps B) (ndB : B.Nodup) (qB : ∀ a ∈ B, F a = none ∧ (a ∈ w.M ∨ w.H0 a = none)) (dj : ∀ a ∈ M, a ∉ B)
    (qM : ∀ a ∈ M, a ∈ w.M ∨ w.H0 a = none) (hM : ∀ a ∈ M, ∃ xs, H a = some (.lst xs)) (sc : Hs K FA ⟨H, M, F, []⟩ F' H' cs) : Hs K FA w F' H' (cs ++ ps) := by
  obtain ⟨hc, A, rA, ndA, qA⟩ := sc
  have hB : ∀ a ∈ B, ∃ xs, H a = some (.lst xs) ∧ H' a = some (.lst xs) := fun a m => by
    obtain ⟨xs, e⟩ := rB.dom a m
    exact ⟨xs, e, hc.keep a _ e fun z => dj a z m⟩
  refine ⟨HR.call (K := K) hr qM hc hM, A ++ B, RepL.app rA (rB.frame hc.sub0 (fun a m => ?_) (fun a xs e => hc.sub _ _ (hc.sub0 _ _ (hr.tups _ _ e)))), List.nodup_append.mpr ⟨ndA, ndB, fun a ma b mb e => ?_⟩, fun a m => ?_⟩
  · obtain ⟨xs, e, e'⟩ := hB a m
    rw [e, e']
  · subst e
    obtain ⟨xs, e, e'⟩ := hB a mb
    rcases (qA a ma).2 with z | z
    · exact dj a z mb
    · have z' : H a = none := z
      rw [e] at z'; cases z'
  · rcases List.mem_append.mp m with m | m
    · refine ⟨(qA a m).1, ?_⟩
      rcases (qA a m).2 with z | z
      · exact qM a z
      · exact .inr (hr.dom a z)
    · refine ⟨?_, (qB a m).2⟩
      obtain ⟨xs, e, e'⟩ := hB a m
      cases q : F' a with
      | none => rfl
      | some o =>
        rcases hc.new a o q with z | z | z | z
        · have z' : F a = some o := z
          rw [(qB a m).1] at z'; cases z'
        · have z' : H a = none := z
          rw [e] at z'; cases z'
        · exact absurd m (dj a z)
        · have z' : H a = some o := z.1
          rw [e] at z'
          exact absurd (Option.some.inj z').symm (z.2 _)
where
  RepL.app {F' H' : Hp} : ∀ {ps qs : List (Option V × O)} {A B : List Addr}, RepL K FA F' H' ps A → RepL K FA F' H' qs B → RepL K FA F' H' (ps ++ qs) (A ++ B)
    | _, _, _, _, .nil, s => s
    | _, _, _, _, .cons h r, s => by
      rw [List.append_assoc]
      exact .cons h (RepL.app r s)
/-- no slot is handed in -/
theorem args0 {K : PySem.W.Frag} {vs : List V} {as : List Ar} (h : ArgsR K FA F σ vs as) : ∀ {env : Env} {os : List O}, Ar.slots as = [] → Ar.fetch env as = some os →
    RepOs K FA F H vs os [] ∧ modeOk (as.map Ar.isRef) os = true ∧ topA vs os = [] ∧ ∀ us, outsOf (as.map Ar.isRef) vs us = [] := by
  induction h with
  | nil =>
    intro env os _ e
    cases e
    exact ⟨.nil, rfl, rfl, fun us => rfl⟩
  | @val v d vs as r ra ih =>
    intro env os e1 e2
    have e2 : (Ar.fetch env as).map (O.z d :: ·) = some os := e2
    cases e3 : Ar.fetch env as with
    | none => rw [e3] at e2; cases e2
    | some us =>
      rw [e3] at e2
      cases e2
      obtain ⟨h1, h2, h3, h4⟩ := ih e1 e3
      refine ⟨RepOs.cons (A := []) (.z r) h1, h2, ?_, fun us => ?_⟩
      · show topA (v :: vs) (O.z d :: us) = []
        cases v <;> exact h3
      · show outsOf (false :: as.map Ar.isRef) (v :: vs) us = []
        cases us <;> exact h4 _
  | ref r ra ih =>
    intro env os e1 e2
    cases e1
/-- one slot is handed in -/
theorem args1 {K : PySem.W.Frag} {vs : List V} {as : List Ar} {i : Nat} {g : Addr} {us : List O} (h : ArgsR K FA F σ vs as) (hg : σ[i]? = some (some (.ref g))) : ∀ {env : Env} {os : List O}, Ar.slots as = [i] → Ar.fetch env as = some os →
    getE env i = some (.l us) → RepO K FA F H (.ref g) (.l us) [g] →
    RepOs K FA F H vs os [g] ∧ modeOk (as.map Ar.isRef) os = true ∧ topA vs os = [g] ∧ ∀ u, outsOf (as.map Ar.isRef) vs [u] = [(some (.ref g), u)] := by
  induction h with
  | nil => intro env os e; cases e
  | @val v d vs as r ra ih =>
    intro env os e1 e2 e4 rg
    have e2 : (Ar.fetch env as).map (O.z d :: ·) = some os := e2
    cases e3 : Ar.fetch env as with
    | none => rw [e3] at e2; cases e2
    | some us =>
      rw [e3] at e2
      cases e2
      obtain ⟨h1, h2, h3, h4⟩ := ih e1 e3 e4 rg
      refine ⟨RepOs.cons (A := []) (.z r) h1, h2, ?_, fun u => h4 u⟩
      show topA (v :: vs) (O.z d :: us) = [g]
      cases v <;> exact h3
  | @ref v j vs as r ra ih =>
    intro env os e1 e2 e4 rg
    have e1' : j :: Ar.slots as = [i] := e1
    obtain ⟨rfl, e5⟩ := List.cons.inj e1'
    rw [hg] at r
    cases r
    have e2 : (match getE env j with | some (.l os) => if os.all O.isZ then (Ar.fetch env as).map (.l os :: ·) else none | _ => none) = some os := e2
    rw [e4] at e2
    have e2 : (if us.all O.isZ = true then (Ar.fetch env as).map (O.l us :: ·) else none) = some os := e2
    split at e2
    · rename_i hz
      cases e3 : Ar.fetch env as with
      | none => rw [e3] at e2; cases e2
      | some us' =>
        rw [e3] at e2
        cases e2
        obtain ⟨h1, h2, h3, h4⟩ := args0 (H := H) ra e5 e3
        refine ⟨RepOs.cons (A := [g]) rg h1, ?_, ?_, fun u => ?_⟩
        · show (us.all O.isZ && modeOk (as.map Ar.isRef) us') = true
          rw [hz, h2]; rfl
        · show g :: topA vs us' = [g]
          rw [h3]
        · show (some (V.ref g), u) :: outsOf (as.map Ar.isRef) vs [] = _
          rw [h4]
    · cases e2
/-- a call's promise, from the evaluator's end -/
theorem call_ok {p : Bool} {f : Nat} {as : List Ar} {vs : List V} {env0 env1 : Env} {F0 H0 : Hp} (hl0 : env0.length = σ.length) (hl1 : env1.length = σ.length)
    (s0 : Hs X.K FA w F0 H0 (lv σ env0 ++ ts)) (s1 : Hs X.K FA w F H (lv σ env1 ++ ts)) (sF : Sub F0 F) (pH : p = true → Sub H0 H) (hpu : pu = true → p = true)
    (ra : ArgsR X.K FA F σ vs as) (post : Post X.K FA CA W w pu σ F0 H0 ts Q (doCall C p f env0 env1 as)) :
    spG X.K FA CA (C.sig f) (C.call f) vs H Q (WE W σ) := by
  unfold doCall at post
  split at post
  · rename_i hsig
    rw [← hsig]
    cases ef : Ar.fetch env1 as with
    | none => rw [ef] at post; exact post.elim
    | some os =>
      rw [ef] at post
      have hlen : vs.length = (as.map Ar.isRef).length := by rw [List.length_map]; exact ra.length
      cases es : Ar.slots as with
      | nil =>
        simp only [es] at post
        obtain ⟨h1, h2, h3, h4⟩ := args0 (H := H) ra es ef
        obtain ⟨hr, B, rB, ndB, qB⟩ := id s1
        refine ⟨F, os, hlen, h2, ⟨⟨hr.sub, Sub.refl _, fun a o e => .inl e, fun a o e _ => e, fun a e => e, hr.tups, fun _ m => (nomatch m), hr.ntb⟩, [], ?_, List.nodup_nil, fun a m => nomatch m⟩, ?_⟩
        · have := RepL.of_os (ps := []) h1 .nil
          simpa using this
        rw [h3]
        cases ec : C.call f os with
        | no => rw [ec] at post; exact post.elim
        | ex c ds =>
          rw [ec] at post
          exact fun H' F' od a e sf hc x => post H' F' od a e (sF.trans sf) (HR.call (K := X.K) (M := []) hr (fun a m => nomatch m) hc (fun a m => nomatch m)) x
        | rt o outs =>
          rw [ec] at post
          cases outs with
          | cons u us => exact post.elim
          | nil =>
            intro v H' F' sf scl
            rw [h4] at scl
            have s2 : Hs X.K FA w F' H' ((some v, o) :: (lv σ env1 ++ ts)) := Hs.call (M := []) (cs := [(some v, o)]) hr rB ndB qB (fun a m => nomatch m) (fun a m => nomatch m) (fun a m => nomatch m) scl
            have hH : Sub H H' := fun a ob e => scl.1.keep a ob e (fun m => nomatch m)
            have fr : Fresh X.K FA F' H H' v o := by
              obtain ⟨_, A, rA, _, qA⟩ := scl
              cases rA with
              | cons rA rn =>
                cases rn
                refine ⟨_, rA, fun a m => ?_⟩
                rcases (qA a (List.mem_append_left _ m)).2 with z | z
                · cases z
                · exact z
            have post : Post X.K FA CA W w pu σ F0 H0 ts Q (if p && o.clean then R.ok o env0 else R.ok o env1) := post
            split at post
            · rename_i hz
              have hz' := Bool.and_eq_true_iff.mp hz
              obtain ⟨F2, sF2, fr2, s3⟩ := Hs.restore s0 s2 ((pH hz'.1).trans hH) (sF.trans sf) (fr.weak (pH hz'.1)) hz'.2
              exact post v H' F2 hl0 s3 sF2 fun _ => ⟨(pH hz'.1).trans hH, fr2⟩
            · exact post v H' F' hl1 s2 (sF.trans sf) fun z => ⟨(pH (hpu z)).trans hH, fr.weak (pH (hpu z))⟩
      | cons i is =>
        cases is with
        | cons j js => simp only [es] at post; exact post.elim
        | nil =>
          simp only [es] at post
          split at post
          · exact post.elim
          · rename_i hp
            -- the slot
            have slot : ∃ us, getE env1 i = some (.l us) ∧ us.all O.isZ = true := slot_of es ef
            obtain ⟨us, eg, hz⟩ := slot
            obtain ⟨v, ev, s2⟩ := s1.take hl1 eg
            obtain ⟨g, gs, rfl, hg, _⟩ := s2.own
            obtain ⟨hr, A, rA, ndA, qA⟩ := id s2
            cases rA with
            | @cons _ _ _ A1 B h1 rB =>
              have hflat : RepO X.K FA F H (.ref g) (.l us) [g] ∧ A1 = [g] := by
                cases h1 with
                | l e r =>
                  obtain ⟨e', r'⟩ := r.allZ hz
                  subst e'
                  exact ⟨.l e r, rfl⟩
              obtain ⟨rg, rfl⟩ := hflat
              obtain ⟨g1, g2, g3, g4⟩ := args1 (H := H) ra ev es ef eg rg
              have nd2 := List.nodup_append.mp ndA
              have qg := qA g (List.mem_append_left _ (List.mem_singleton.mpr rfl))
              have dj : ∀ a ∈ [g], a ∉ B := fun a m mb => nd2.2.2 a m a mb rfl
              have hM : ∀ a ∈ [g], ∃ xs, H a = some (.lst xs) := fun a m => by rw [List.mem_singleton.mp m]; exact ⟨_, hg⟩
              have qM : ∀ a ∈ [g], a ∈ w.M ∨ w.H0 a = none := fun a m => by rw [List.mem_singleton.mp m]; exact qg.2
              refine ⟨F, os, hlen, g2, ⟨⟨hr.sub, Sub.refl _, fun a o e => .inl e, fun a o e _ => e, fun a e => e, hr.tups, fun _ m => (nomatch m), hr.ntb⟩, [g], ?_, by simp, fun a m => ?_⟩, ?_⟩
              · have := RepL.of_os (ps := []) g1 .nil
                simpa using this
              · rw [List.mem_singleton.mp m, g3]
                exact ⟨qg.1, .inl (List.mem_singleton.mpr rfl)⟩
              rw [g3]
              cases ec : C.call f os with
              | no => rw [ec] at post; exact post.elim
              | ex c ds =>
                rw [ec] at post
                exact fun H' F' od a e sf hc x => post H' F' od a e (sF.trans sf) (HR.call (K := X.K) hr qM hc hM) x
              | rt o outs =>
                rw [ec] at post
                match outs, post with
                | [.l us'], post =>
                  intro v H' F' sf scl
                  rw [g4] at scl
                  have s3 : Hs X.K FA w F' H' ([(some v, o), (some (.ref g), .l us')] ++ (lv σ (env1.set i none) ++ ts)) :=
                    Hs.call hr rB nd2.2.1 (fun a m => qA a (List.mem_append_right _ m)) dj qM hM scl
                  have s4 : Hs X.K FA w F' H' ((some (.ref g), .l us') :: (lv σ (env1.set i none) ++ ((some v, o) :: ts))) := s3.perm ((List.Perm.swap _ _ _).trans ((List.perm_middle.symm).cons _))
                  have s5 := s4.back hl1 ev
                  exact post v H' F' (by rw [List.length_set]; exact hl1) s5.ofTemp (sF.trans sf) fun z => absurd (hpu z) hp
                | [], post => exact post.elim
                | [.z _], post => exact post.elim
                | [.t _], post => exact post.elim
                | a :: b :: l, post => cases a <;> exact post.elim
  · exact post.elim
where
  slot_of : ∀ {as : List Ar} {env1 : Env} {os : List O} {i : Nat}, Ar.slots as = [i] → Ar.fetch env1 as = some os → ∃ us, getE env1 i = some (.l us) ∧ us.all O.isZ = true
    | [], _, _, _, e, _ => by cases e
    | .val d :: as, env1, os, i, e, f => by
      have f : (Ar.fetch env1 as).map (O.z d :: ·) = some os := f
      cases e3 : Ar.fetch env1 as with
      | none => rw [e3] at f; cases f
      | some us => exact slot_of (as := as) e e3
    | .ref j :: as, env1, os, i, e, f => by
      have e : j :: Ar.slots as = [i] := e
      obtain ⟨rfl, e⟩ := List.cons.inj e
      have f : (match getE env1 j with | some (.l os) => if os.all O.isZ then (Ar.fetch env1 as).map (.l os :: ·) else none | _ => none) = some os := f
      cases e4 : getE env1 j with
      | none => rw [e4] at f; cases f
      | some o =>
        rw [e4] at f
        cases o with
        | l us =>
          have f : (if us.all O.isZ = true then (Ar.fetch env1 as).map (O.l us :: ·) else none) = some os := f
          split at f
          · rename_i hz; exact ⟨us, rfl, hz⟩
          · cases f
        | z d => cases f
        | t us => cases f
end
end RF
/-! RFk: calls as expressions; isinstance; what loops walk. -/
namespace RF
open L2 PySem PySem.Spec PyProof.Rows
section
variable {Nm : Names} {FA : Fns} {CA : Nat → Option Addr} {C : Cfg} {X : Cx} {W : WX} {w : W0} {sc : Scope}
variable {σ : L2.St} {F F' F1 H H' H1 : Hp} {ts : List (Option V × O)} {Q Q1 : VK} {pu pu1 fl : Bool}
theorem run_sp (c : Cok Nm FA CA C X W) {f : Nat} {a : Addr} (hf : FA f = some a) {pins : List (Addr × Obj)} {s : Shared} {us : List Value} {vs : List V} (I : Inv X pins σ H s) (r : Vals vs us) (h : spG X.K FA CA (C.sig f) (C.call f) vs H Q (WE W σ)) :
    wpAny (model X.prog X.w) X.A (call (.ref a) us) (EP X pins σ Q) X.xe s := by
  obtain ⟨x, k, fd, h1, h2, h3, h4, h5, h6, _⟩ := c.fns f a hf
  exact run_fnS h6 h5 h4 (passAt c.takes σ) I r h
theorem c_call {q : Bool} {f : Nat} {es : Xs} {x : Str} {us : List Expr} {p pos : Pos} (c : Cok Nm FA CA C X W) (r : ScR X sc) (hf : Nm.fn f = some x) (hg : glB sc x = true) (hi : isEs Nm X.N es sc us = true) (hq : (!q || pureXs es) = true)
    (ha : ∀ ms, PA X us (tAr X.K FA CA W w C ms es)) : PE X (.Call (.Name x p) us [] pos) (tE X.K FA CA W w C (.call q f es)) := by
  refine ⟨fun pins s σ H Q I h => ?_⟩
  obtain ⟨F, ts, env, hl, s0, post⟩ := h
  obtain ⟨a, ea⟩ := c.has f x hf
  obtain ⟨x', k, fd, h1, h2, h3, h4, h5, h6, _⟩ := c.fns f a ea
  obtain rfl : x' = x := Option.some.inj (h1.symm.trans hf)
  obtain ⟨g1, g2⟩ := glB_ok r hg
  unfold evalE at post
  rw [Post.pg, PG.bind] at post
  have go : ∀ (as : List Ar) (env1 : Env), evalArgs C es (C.sig f) env = .ok as env1 → PG X.K FA CA W w σ F (okE X.K FA w (pureX (.call q f es)) σ F H ts Q) (doCall C q f env env1 as) →
      okAr X.K FA w (pureXs es) σ F H ts (fun vs H1 => spG X.K FA CA (C.sig f) (C.call f) vs H1 Q (WE W σ)) as env1 := fun as env1 _ z vs H1 F1 hl1 ra s1 sF1 p1 =>
    call_ok hl hl1 s0 s1 sF1 (fun e => p1 (by rw [e] at hq; exact hq)) (fun e => (Bool.and_eq_true_iff.mp (show (q && pureXs es) = true from e)).1) ra (Post.pg.mpr z)
  refine wpAny_Call_Name_kw (ld_glob I g1 h2 ?_ g2)
  cases us with
  | nil =>
    cases es with
    | nil =>
      have z := post.imp go
      unfold evalArgs at z
      split at z
      · have z := z [] H F hl .nil s0 (Sub.refl _) fun _ => Sub.refl _
        exact PySem.W.callWith_K0 I.kIn h3 (run_sp (us := []) c ea I .nil z)
      · exact z.elim
    | cons e es => simp [isEs] at hi
  | cons u us =>
    cases es with
    | nil => simp [isEs] at hi
    | cons e es =>
      have hi' : isE Nm X.N e sc u = true ∧ isEs Nm X.N es sc us = true := by simpa [isEs] using hi
      exact PySem.W.callWith_K (h₀ := X.base) I.ok.mod.kin h3 (thn ((ha (C.sig f)).run pos pins s σ H _ I ⟨F, ts, env, hl, s0, post.imp go⟩) fun us s1 ⟨vs, H1, I1, r, q⟩ => ⟨I1.kIn, run_sp c ea I1 r q⟩) (star_cons hi'.1) (star_any hi'.2)
theorem c_callv {i : Nat} {es : Xs} {x : Str} {us : List Expr} {p pos : Pos} (c : Cok Nm FA CA C X W) (r : ScR X sc) (hv : visB X.N sc i x = true) (hi : isEs Nm X.N es sc us = true) (hq : pureXs es = true)
    (ha : ∀ ms, PA X us (tAr X.K FA CA W w C ms es)) : PE X (.Call (.Name x p) us [] pos) (tE X.K FA CA W w C (.callv i es)) := by
  refine ⟨fun pins s σ H Q I h => ?_⟩
  obtain ⟨F, ts, env, hl, s0, post⟩ := h
  unfold evalE at post
  cases eg : getE env i with
  | none => rw [eg] at post; exact post.elim
  | some o =>
    rw [eg] at post
    match o, eg, post with
    | .z (.fn f), eg, post =>
      obtain ⟨v, e1, rp⟩ := s0.slotRep hl eg
      cases rp with
      | @fn _ a ea =>
        obtain ⟨x', k, fd, h1, h2, h3, h4, h5, h6, _⟩ := c.fns f a ea
        rw [Post.pg, PG.bind] at post
        have go : ∀ (as : List Ar) (env1 : Env), evalArgs C es (C.sig f) env = .ok as env1 → PG X.K FA CA W w σ F (okE X.K FA w (pureX (.callv i es)) σ F H ts Q) (doCall C true f env env1 as) →
            okAr X.K FA w (pureXs es) σ F H ts (fun vs H1 => spG X.K FA CA (C.sig f) (C.call f) vs H1 Q (WE W σ)) as env1 := fun as env1 _ z vs H1 F1 hl1 ra s1 sF1 p1 =>
          call_ok hl hl1 s0 s1 sF1 (fun e => p1 hq) (fun e => rfl) ra (Post.pg.mpr z)
        refine wpAny_Call_Name_kw (thn ((pe_slot (pos := p) r hv).run pins s σ H (fun v H1 => v = .ref a ∧ H1 = H) I ⟨.ref a, e1, rfl, rfl⟩) fun u s1 ⟨v, H1, I1, r1, q1⟩ => ?_)
        obtain ⟨rfl, rfl⟩ := q1
        cases r1
        cases us with
        | nil =>
          cases es with
          | nil =>
            have z := post.imp go
            unfold evalArgs at z
            split at z
            · have z := z [] _ F hl .nil s0 (Sub.refl _) fun _ => Sub.refl _
              exact PySem.W.callWith_K0 I1.kIn h3 (run_sp (us := []) c ea I1 .nil z)
            · exact z.elim
          | cons e es => simp [isEs] at hi
        | cons u us =>
          cases es with
          | nil => simp [isEs] at hi
          | cons e es =>
            have hi' : isE Nm X.N e sc u = true ∧ isEs Nm X.N es sc us = true := by simpa [isEs] using hi
            exact PySem.W.callWith_K (h₀ := X.base) I1.ok.mod.kin h3 (thn ((ha (C.sig f)).run pos pins s1 σ _ _ I1 ⟨F, ts, env, hl, s0, post.imp go⟩) fun us s2 ⟨vs, H2, I2, r, q⟩ => ⟨I2.kIn, run_sp c ea I2 r q⟩) (star_cons hi'.1) (star_any hi'.2)
    | .z (.clo f ds), eg, post =>
      obtain ⟨v, e1, rp⟩ := s0.slotRep hl eg
      cases rp with
      | @clo _ a cc L pm ctv m1 m2 m3 =>
        obtain ⟨n, ps, hr, hb, hF⟩ := c.lam f L m1
        have post : Post X.K FA CA W w (pureX (.callv i es)) σ F H ts Q ((evalArgs C es (C.sig f) env).bind fun as env1 => doCall C true f env env1 as) := post
        rw [Post.pg, PG.bind] at post
        have go : ∀ (as : List Ar) (env1 : Env), evalArgs C es (C.sig f) env = .ok as env1 → PG X.K FA CA W w σ F (okE X.K FA w (pureX (.callv i es)) σ F H ts Q) (doCall C true f env env1 as) →
            okAr X.K FA w (pureXs es) σ F H ts (fun vs H1 => spK X.K FA CA (C.sig f) (C.call f) a cc L pm ctv vs H1 Q (WE W σ)) as env1 := fun as env1 _ z vs H1 F1 hl1 ra s1 sF1 p1 =>
          ⟨s1.1.sub _ _ (sF1 _ _ m2), s1.1.sub _ _ (sF1 _ _ m3), call_ok hl hl1 s0 s1 sF1 (fun e => p1 hq) (fun e => rfl) ra (Post.pg.mpr z)⟩
        have run : ∀ {s1 : Shared} {H1 : Hp} {us : List Value} {vs : List V}, Inv X pins σ H1 s1 → Vals vs us → spK X.K FA CA (C.sig f) (C.call f) a cc L pm ctv vs H1 Q (WE W σ) → wpAny (model X.prog X.w) X.A (call (.ref a) us) (EP X pins σ Q) X.xe s1 := fun I1 r z =>
          run_fnS (hF a cc pm ctv) hr (Binds.all (hb cc pm ctv)) (passAt c.takes σ) I1 r z
        have at_ : ∀ {s1 : Shared} {H1 : Hp}, Inv X pins σ H1 s1 → H1 a = some (LamO a cc L pm ctv) → PySem.W.FnAt a s1.heap := fun I1 e => by
          obtain ⟨⟨od, sl, ho⟩, _, _⟩ := I1.hok a _ e
          exact ⟨_, od, _, sl, ho⟩
        refine wpAny_Call_Name_kw (thn ((pe_slot (pos := p) r hv).run pins s σ H (fun v H1 => v = .ref a ∧ H1 = H) I ⟨.ref a, e1, rfl, rfl⟩) fun u s1 ⟨v, H1, I1, r1, q1⟩ => ?_)
        obtain ⟨rfl, rfl⟩ := q1
        cases r1
        cases us with
        | nil =>
          cases es with
          | nil =>
            have z := post.imp go
            unfold evalArgs at z
            split at z
            · have z := z [] _ F hl .nil s0 (Sub.refl _) fun _ => Sub.refl _
              exact PySem.W.callWith_F0 (at_ I1 z.1) (run (us := []) I1 .nil z)
            · exact z.elim
          | cons e es => simp [isEs] at hi
        | cons u us =>
          cases es with
          | nil => simp [isEs] at hi
          | cons e es =>
            have hi' : isE Nm X.N e sc u = true ∧ isEs Nm X.N es sc us = true := by simpa [isEs] using hi
            exact PySem.W.callWith_F (first := []) (at_ I1 (s0.1.sub _ _ m2)) (thn ((ha (C.sig f)).run pos pins s1 σ _ _ I1 ⟨F, ts, env, hl, s0, post.imp go⟩) fun us s2 ⟨vs, H2, I2, r, q⟩ => ⟨at_ I2 q.1, run I2 r q⟩) (star_cons hi'.1) (star_any hi'.2)
    | .z .non, eg, post => exact post.elim
    | .z (.bl _), eg, post => exact post.elim
    | .z (.int _), eg, post => exact post.elim
    | .z (.str _), eg, post => exact post.elim
    | .z (.lst _), eg, post => exact post.elim
    | .z (.tup _), eg, post => exact post.elim
    | .z (.scr _), eg, post => exact post.elim
    | .z (.obj _ _), eg, post => exact post.elim
    | .z (.exc _ _), eg, post => exact post.elim
    | .l _, eg, post => exact post.elim
    | .t _, eg, post => exact post.elim
theorem perm_abc {α : Type} {A B D : List α} : (A ++ (B ++ D)).Perm (B ++ (A ++ D)) := by
  rw [← List.append_assoc, ← List.append_assoc]
  exact List.perm_append_comm.append_right D
theorem PG.rebaseE {α : Type} {r : R α} {P P' : α → Env → Prop} (h : PG X.K FA CA W w σ F P r) (sF : Sub F F1) (i : ∀ a env, r = .ok a env → P a env → P' a env) : PG X.K FA CA W w σ F1 P' r := by
  cases r with
  | ok a env => exact i a env rfl h
  | ex c ds => exact fun H' F' od a e sf hr x => h H' F' od a e (sF.trans sf) hr x
  | no => exact h
/-! ### keywords -/
def tEs' (K : PySem.W.Frag) (FA : Fns) (CA : Nat → Option Addr) (W : WX) (w : W0) (C : Cfg) (es : Xs) : TA := tEs K FA CA W w C es
theorem kw_all {N : List Str} {env : PySem.Env} {pos : Pos} : ∀ {ks : Xs} {kws : List Keyword}, isKs Nm N ks sc kws = true → (backToKw pos (keywordEach kws env)).all (·.1.isSome) = true ∧ (backToKw pos (keywordEach kws env)).any (·.1.isNone) = false ∧ (backToKw pos (keywordEach kws env)).filterMap (·.1) = kwNames kws ∧ xsLen ks = (kwNames kws).length
  | .nil, [], _ => ⟨rfl, rfl, rfl, rfl⟩
  | .nil, _ :: _, h => by simp [isKs] at h
  | .cons _ _, [], h => by simp [isKs] at h
  | .cons e es, ⟨.none, u, kp⟩ :: us, h => by simp [isKs] at h
  | .cons e es, ⟨.some n, u, kp⟩ :: us, h => by
    have h' : isE Nm N e sc u = true ∧ isKs Nm N es sc us = true := by simpa [isKs] using h
    obtain ⟨h1, h2, h3, h4⟩ := kw_all (env := env) (pos := pos) h'.2
    refine ⟨?_, ?_, ?_, ?_⟩
    · show (true && (backToKw pos (keywordEach us env)).all (·.1.isSome)) = true
      rw [h1]; rfl
    · show (false || (backToKw pos (keywordEach us env)).any (·.1.isNone)) = false
      rw [h2]; rfl
    · show n :: (backToKw pos (keywordEach us env)).filterMap (·.1) = n :: kwNames us
      rw [h3]
    · show xsLen es + 1 = (kwNames us).length + 1
      rw [h4]
theorem PK.imp {e : List Keyword} {t t' : TA} (h : PK X e t) (i : ∀ σ H Q, t' σ H Q → t σ H Q) : PK X e t' := ⟨fun pos pins s σ H Q I q => h.run pos pins s σ H Q I (i _ _ _ q)⟩
theorem c_knil : PK X [] (tEs X.K FA CA W w C .nil) := PK.imp pk_nil fun σ H Q ⟨F, ts, env, hl, s, post⟩ => post [] H F hl rfl s (Sub.refl _) fun _ => ⟨Sub.refl _, [], .nil, fun _ m => nomatch m⟩
theorem c_kcons {e : RF.X} {es : Xs} {u : Expr} {us : List Keyword} {n : Option Str} {kp : Pos} (he : PE X u (tE X.K FA CA W w C e)) (hs : PK X us (tEs X.K FA CA W w C es)) : PK X (⟨n, u, kp⟩ :: us) (tEs X.K FA CA W w C (.cons e es)) := by
  refine PK.imp (pk_cons he hs) fun σ H Q ⟨F, ts, env, hl, s, post⟩ => ⟨F, ts, env, hl, s, ?_⟩
  unfold evalEs at post
  refine bindG post fun o env1 v H1 F1 _ hl1 s1 sF1 p1 post => ⟨F1, (some v, o) :: ts, env1, hl1, s1.toTemp, ?_⟩
  rw [PG.bind] at post
  refine post.rebase sF1 fun os env2 q vs H2 F2 hl2 hv s2 sF2 p2 => ?_
  have s3 : Hs X.K FA w F2 H2 ((some v, o) :: ((vs.map some).zip os ++ (lv σ env2 ++ ts))) := by
    rw [← List.append_assoc] at s2
    have := s2.ofTemp
    rwa [List.append_assoc] at this
  refine q (v :: vs) H2 F2 hl2 (by simp [hv]) s3 (sF1.trans sF2) fun z => ?_
  have z' := Bool.and_eq_true_iff.mp (show (pureX e && pureXs es) = true from z)
  obtain ⟨a1, a2⟩ := p1 z'.1
  obtain ⟨b1, B, b2, b3⟩ := p2 z'.2
  obtain ⟨A, a3, a4⟩ := a2.mono sF2 b1
  refine ⟨a1.trans b1, A ++ B, .cons a3 b2, fun a m => ?_⟩
  rcases List.mem_append.mp m with m | m
  · exact a4 a m
  · cases e : H a with
    | none => rfl
    | some x => rw [← a1 _ _ e, b3 a m]
/-- several values stand for good from now on -/
theorem Hs.freezeAll {K : PySem.W.Frag} : ∀ {os : List O} {vs : List V} {F : Hp} {ps : List (Option V × O)}, vs.length = os.length → Hs K FA w F H ((vs.map some).zip os ++ ps) → ∃ F', Sub F F' ∧ Hs K FA w F' H ps ∧ Reps K FA F' vs (O.toDs os)
  | [], [], F, ps, _, s => ⟨F, Sub.refl _, s, by simp only [O.toDs]; exact .nil⟩
  | o :: os, v :: vs, F, ps, e, s => by
    obtain ⟨F1, sF1, s1⟩ := Hs.freeze s
    have r1 := s1.rep
    obtain ⟨F2, sF2, s2, r2⟩ := Hs.freezeAll (by simpa using e) s1.tail
    exact ⟨F2, sF1.trans sF2, s2, by simp only [O.toDs]; exact .cons (r1.mono sF2) r2⟩
  | [], _ :: _, _, _, e, _ => by simp at e
  | _ :: _, [], _, _, e, _ => by simp at e
theorem args_perm {K : PySem.W.Frag} {us : List O} {vs : List V} (r : Reps K FA F vs (O.toDs us)) : ∀ perm : List Nat, ArgsR K FA F σ (perm.map fun j => vs.getD j .non) (perm.map fun j => .val (us.getD j (.z .non)).toD)
  | [] => .nil
  | j :: js => by
    refine .val ?_ (args_perm r js)
    show Rep K FA F (vs.getD j .non) (us.getD j (.z .non)).toD
    rw [O.toDs_map] at r
    cases e : us[j]? with
    | none =>
      have e1 : vs[j]? = none := by
        have hl := r.length
        rw [List.length_map] at hl
        rw [List.getElem?_eq_none_iff] at e ⊢
        omega
      rw [List.getD_eq_getElem?_getD, List.getD_eq_getElem?_getD, e, e1]
      exact .non
    | some o =>
      obtain ⟨v, e1, rv⟩ := r.get (i := j) (d := o.toD) (by rw [List.getElem?_map, e]; rfl)
      rw [List.getD_eq_getElem?_getD, List.getD_eq_getElem?_getD, e, e1]
      exact rv
theorem getD_vals : ∀ {vs : List V} {us : List Value} (j : Nat), Vals vs us → RelV (vs.getD j .non) (us.getD j .none)
  | [], [], j, .nil => by cases j <;> rfl
  | _ :: _, _ :: _, 0, .cons r _ => r
  | _ :: _, _ :: _, j + 1, .cons _ t => getD_vals j t
theorem vals_perm {vs : List V} {us : List Value} (h : Vals vs us) : ∀ perm : List Nat, Vals (perm.map fun j => vs.getD j .non) (perm.map fun j => us.getD j .none)
  | [] => .nil
  | j :: js => .cons (getD_vals j h) (vals_perm h js)
theorem c_callk {f : Nat} {es ks : Xs} {perm : List Nat} {x : Str} {us : List Expr} {kws : List Keyword} {p pos : Pos} (c : Cok Nm FA CA C X W) (r : ScR X sc) (hf : Nm.fn f = some x) (hg : glB sc x = true) (hi : isEs Nm X.N es sc us = true) (hk : isKs Nm X.N ks sc kws = true)
    (hq : pureXs es = true) (hq2 : pureXs ks = true) (hkw : (f, us.length, kwNames kws, perm) ∈ Nm.kw) (hz : xsLen es = us.length)
    (ha : PA X us (tEs X.K FA CA W w C es)) (hb : PK X kws (tEs X.K FA CA W w C ks)) : PE X (.Call (.Name x p) us kws pos) (tE X.K FA CA W w C (.callk f es ks perm)) := by
  refine ⟨fun pins s σ H Q I h => ?_⟩
  obtain ⟨F, ts, env, hl, s0, post⟩ := h
  obtain ⟨a, ea⟩ := c.has f x hf
  obtain ⟨x', k, fd, h1, h2, h3, h4, h5, h6, h7⟩ := c.fns f a ea
  obtain rfl : x' = x := Option.some.inj (h1.symm.trans hf)
  obtain ⟨g1, g2⟩ := glB_ok r hg
  obtain ⟨k1, k2, k3, k4⟩ := kw_all (Nm := Nm) (sc := sc) (env := X.env) (pos := pos) hk
  unfold evalE at post
  rw [Post.pg, PG.bind] at post
  -- the end
  have fin : ∀ (os us' : List O) (env1 env2 : Env) (vs zs : List V) (H1 F1 : Hp), os.length = us.length → us'.length = (kwNames kws).length → PG X.K FA CA W w σ F (okE X.K FA w (pureX (.callk f es ks perm)) σ F H ts Q) (doCall C true f env env2 (permA os us' perm)) →
      env2.length = σ.length → vs.length = os.length → zs.length = us'.length → Hs X.K FA w F1 H1 ((zs.map some).zip us' ++ ((vs.map some).zip os ++ (lv σ env2 ++ ts))) → Sub F F1 → Sub H H1 →
      spG X.K FA CA (C.sig f) (C.call f) (perm.map fun j => (vs ++ zs).getD j .non) H1 Q (WE W σ) := fun os us' env1 env2 vs zs H1 F1 e1 e2 z hl2 hv hzl s1 sF sH => by
    have s2 : Hs X.K FA w F1 H1 (((vs ++ zs).map some).zip (os ++ us') ++ (lv σ env2 ++ ts)) := by
      rw [List.map_append, List.zip_append (by simp [hv]), List.append_assoc]
      exact s1.perm perm_abc
    obtain ⟨F2, sF2, s3, r3⟩ := Hs.freezeAll (by simp [hv, hzl]) s2
    exact call_ok hl hl2 s0 s3 (sF.trans sF2) (fun _ => sH) (fun _ => rfl) (args_perm r3 perm) (Post.pg.mpr z)
  have run : ∀ {s1 : Shared} {H1 : Hp} {us1 ws1 : List Value} {vs zs : List V}, Inv X pins σ H1 s1 → Vals vs us1 → Vals zs ws1 → us1.length = us.length → ws1.length = (kwNames kws).length → spG X.K FA CA (C.sig f) (C.call f) (perm.map fun j => (vs ++ zs).getD j .non) H1 Q (WE W σ) →
      wpAny (model X.prog X.w) X.A (call (.ref a) us1 ((kwNames kws).zip ws1)) (EP X pins σ Q) X.xe s1 := fun {s1 H1 us1 ws1 vs zs} I1 r1 r2 e1 e2 z => by
    have rr := vals_perm (r1.append r2) perm
    refine wpAny_call (codeAny_mono (h6.run X.A X.stack s1 H1 ⟨us1, (kwNames kws).zip ws1⟩ (permL .none us1 ws1 perm) (perm.map fun j => (vs ++ zs).getD j .non) Q (WE W σ) h5 I1.env0 (h7 _ _ _ hkw s1 us1 ws1 I1.kIn e1 e2) rr z) fun r s' hq => ?_)
    cases r with
    | error e => exact passAt c.takes σ pins H1 s1 e s' I1 hq
    | ok fl =>
      cases fl with
      | ret u => exact I1.after hq
      | next => exact False.elim hq
      | brk => exact False.elim hq
      | cont => exact False.elim hq
  refine wpAny_Call_Name_kw (ld_glob I g1 h2 ?_ g2)
  cases us with
  | nil =>
    cases es with
    | cons e es => simp [isEs] at hi
    | nil =>
      have post : PG X.K FA CA W w σ F _ ((evalEs C ks env).bind fun us env2 => doCall C true f env env2 (permA [] us perm)) := post
      rw [PG.bind] at post
      refine PySem.W.callWith_KW0 (h₀ := X.base) I.ok.mod.kin h3 k1 (thn (hb.run pos pins s σ H (fun zs H1 => spG X.K FA CA (C.sig f) (C.call f) (perm.map fun j => ([] ++ zs).getD j .non) H1 Q (WE W σ) ∧ zs.length = (kwNames kws).length) I ⟨F, ts, env, hl, s0, post.imp fun us' env2 e z zs H1 F1 hl2 hzl s1 sF p1 =>
        have e2 : us'.length = (kwNames kws).length := (evalEs_len e).trans k4
        ⟨fin [] us' env env2 [] zs H1 F1 rfl e2 z hl2 rfl hzl s1 sF (p1 hq2).1, by rw [hzl, e2]⟩⟩) fun ws s2 ⟨zs, H2, I2, rz, q2, ql⟩ => ⟨I2.kIn, ?_⟩) (by rw [k2]; rfl)
      rw [k3]
      exact run (us1 := []) I2 .nil rz rfl (by rw [← rz.length]; exact ql) q2
  | cons u us =>
    cases es with
    | nil => simp [isEs] at hi
    | cons e es =>
      have hi' : isE Nm X.N e sc u = true ∧ isEs Nm X.N es sc us = true := by simpa [isEs] using hi
      refine PySem.W.callWith_KW (h₀ := X.base) I.ok.mod.kin h3 k1 (thn (ha.run pos pins s σ H (fun vs H1 => vs.length = (u :: us).length ∧ tEs X.K FA CA W w C ks σ H1 (fun zs H2 => spG X.K FA CA (C.sig f) (C.call f) (perm.map fun j => (vs ++ zs).getD j .non) H2 Q (WE W σ) ∧ zs.length = (kwNames kws).length)) I ⟨F, ts, env, hl, s0, post.imp fun os env1 e z vs H1 F1 hl1 hv s1 sF1 p1 => ?_⟩) fun us1 s1 ⟨vs, H1, I1, r1, ql, q⟩ => ?_) ?_ (star_cons hi'.1)
      · have e1 : os.length = (u :: us).length := (evalEs_len e).trans hz
        refine ⟨by rw [hv, e1], F1, (vs.map some).zip os ++ ts, env1, hl1, ?_, ?_⟩
        · exact s1.perm perm_abc
        · rw [PG.bind] at z
          refine z.rebaseE sF1 fun us' env2 e z => ?_
          refine fun zs H2 F2 hl2 hzl s2 sF2 p2 => ?_
          have e2 : us'.length = (kwNames kws).length := (evalEs_len e).trans k4
          have s3 : Hs X.K FA w F2 H2 ((zs.map some).zip us' ++ ((vs.map some).zip os ++ (lv σ env2 ++ ts))) := s2.perm (perm_abc.append_left _)
          exact ⟨fin os us' env1 env2 vs zs H2 F2 e1 e2 z hl2 hv hzl s3 (sF1.trans sF2) ((p1 hq).1.trans (p2 hq2).1), by rw [hzl, e2]⟩
      · refine thn (hb.run pos pins s1 σ H1 _ I1 q) fun ws s2 ⟨zs, H2, I2, rz, q2, ql2⟩ => ⟨I2.kIn, ?_⟩
        rw [k3]
        exact run I2 r1 rz (by show us1.length = _; rw [← r1.length]; exact ql) (by rw [← rz.length]; exact ql2) q2
      · rw [k2, Bool.or_false]
        rw [star_cons hi'.1]
        show (false || (backTo pos (starEach us X.env)).any (·.1)) = false
        rw [star_any hi'.2]; rfl
end
end RF
/-! RFl: isinstance; targets; what loops walk. -/
namespace RF
open L2 PySem PySem.Spec PyProof.Rows
section
variable {Nm : Names} {FA : Fns} {CA : Nat → Option Addr} {C : Cfg} {X : Cx} {W : WX} {w : W0} {sc : Scope}
variable {σ : L2.St} {F F' F1 H H' H1 : Hp} {ts : List (Option V × O)} {Q Q1 : VK} {pu pu1 fl : Bool}
/-! ### isinstance -/
theorem pe_ty (c : Cok Nm FA CA C X W) (r : ScR X sc) {y : Str} {n : String} {pos : Pos} (hy : y ∈ bltNames) (hg : glB sc y = true) (hv : bootBuiltins y = some (.type n)) (hn : y ≠ "__name__") : PE X (.Name y pos) (tC (.ty n)) := by
  obtain ⟨g1, g2⟩ := glB_ok r hg
  exact pe_bltn g1 (c.blt _ hy) hv rfl hn g2
theorem tyIs_lt {cl : Expr} (ht : tyIs .lt cl sc = true) : ∃ y1 p1 y2 p2 k p, cl = .Tuple [.Name y1 p1, .Name y2 p2] k p ∧ (y1 == "list" && glB sc y1 && y2 == "tuple" && glB sc y2) = true := by
  cases cl with
  | Tuple es k p =>
    rcases es with _ | ⟨e1, _ | ⟨e2, _ | ⟨e3, es⟩⟩⟩
    · simp [tyIs] at ht
    · cases e1 <;> simp [tyIs] at ht
    · cases e1 <;> first | (simp [tyIs] at ht; done) | skip
      cases e2 <;> first | (simp [tyIs] at ht; done) | skip
      exact ⟨_, _, _, _, _, _, rfl, ht⟩
    · cases e1 <;> simp [tyIs] at ht
  | _ => simp [tyIs] at ht
theorem c_isi {t : Ty} {a : RF.X} {x : Str} {u cl : Expr} {p pos : Pos} (c : Cok Nm FA CA C X W) (r : ScR X sc) (hx : (x == "isinstance") = true) (hg : glB sc x = true) (hi : isE Nm X.N a sc u = true) (ht : tyIs t cl sc = true)
    (ha : PE X u (tV X.K FA CA W w C true a)) : PE X (.Call (.Name x p) [u, cl] [] pos) (tE X.K FA CA W w C (.isi t a)) := by
  obtain rfl : x = "isinstance" := by simpa using hx
  obtain ⟨g1, g2⟩ := glB_ok r hg
  have k : ∀ {x y : Str}, (x == y) = true → x = y := fun h => by simpa using h
  have one : ∀ {n : String} {y : Str} {py : Pos}, cl = .Name y py → t ≠ .lt → tyStr t = n → PE X (.Name y py) (tC (.ty n)) → PE X (.Call (.Name "isinstance" p) [u, cl] [] pos) (tE X.K FA CA W w C (.isi t a)) := fun {n y py} e1 e2 e3 h => by
    subst e1
    refine PE.imp (pe_callB call_isi g1 (c.blt _ (by decide)) boot_isinstance (pa_cons ha (pa_cons h pa_nil) (star_cons hi)) (he := star_cons hi)) fun σ H Q ⟨F, ts, env, hl, s, post⟩ => ⟨F, ts, env, hl, s, ?_⟩
    unfold evalE at post
    refine bindV post fun d env1 v H1 F1 _ hl1 s1 rv rf sF1 p1 post => ?_
    have post := post.rebase sF1 fun z => p1 z
    cases e : isiV t d with
    | none => rw [e] at post; exact post.elim
    | some b =>
      rw [e] at post
      exact ⟨v, .ty n, _, _, b, rfl, .ty n, rv.ty s1.1.sub (isi_some e), by rw [← e3]; exact isi_kit e2 e, post.z hl1 s1 (.bl b)⟩
  cases t with
  | lt =>
    obtain ⟨y1, p1, y2, p2, k1, p3, rfl, htt⟩ := tyIs_lt ht
    obtain ⟨⟨⟨t1, t2⟩, t3⟩, t4⟩ : (((y1 == "list") = true ∧ glB sc y1 = true) ∧ (y2 == "tuple") = true) ∧ glB sc y2 = true := by
      rw [Bool.and_eq_true, Bool.and_eq_true, Bool.and_eq_true] at htt
      exact htt
    obtain rfl := k t1
    obtain rfl := k t3
    have h1 : PE X (.Name "list" p1) (tC (.ty "list")) := pe_ty c r (by decide) t2 (by decide +kernel) (by decide)
    have h2 : PE X (.Name "tuple" p2) (tC (.ty "tuple")) := pe_ty c r (by decide) t4 (by decide +kernel) (by decide)
    refine PE.imp (pe_callB call_isiT g1 (c.blt _ (by decide)) boot_isinstance (pa_cons ha (pa_cons (pe_tup (pa_cons h1 (pa_cons h2 pa_nil))) pa_nil) (star_cons hi)) (he := star_cons hi)) fun σ H Q ⟨F, ts, env, hl, s, post⟩ => ⟨F, ts, env, hl, s, ?_⟩
    unfold evalE at post
    refine bindV post fun d env1 v H1 F1 _ hl1 s1 rv rf sF1 p1 post => ?_
    have post := post.rebase sF1 fun z => p1 z
    refine ⟨by show 2 ≤ sizeLine; decide, fun q hq => ?_⟩
    cases e : isiV .lt d with
    | none => rw [e] at post; exact post.elim
    | some b =>
      rw [e] at post
      have s2 := s1.allocT (xs := [.ty "list", .ty "tuple"]) hq
      have rv2 := rv.mono (sub_upd (ob := .tup [.ty "list", .ty "tuple"]) (s1.nonew hq)) (sub_upd (ob := .tup [.ty "list", .ty "tuple"]) hq)
      refine ⟨v, q, [.ty "list", .ty "tuple"], _, [.type "list", .type "tuple"], b, rfl, upd_same, .cons (.ty _) (.cons (.ty _) .nil), rv2.ty s2.1.sub (isi_some e), isi_kit2 e, ?_⟩
      exact post (.bl b) _ _ hl1 (s2.add (.bl b)) (sub_upd (s1.nonew hq)) fun _ => ⟨sub_upd hq, Fresh.z (.bl b)⟩
  | int =>
    cases cl with
    | Name y py =>
      have ht : (y == "int" && glB sc y) = true := ht
      simp only [Bool.and_eq_true] at ht
      obtain rfl := k ht.1
      exact one rfl (by intro z; cases z) rfl (pe_ty c r (by decide) ht.2 (by decide +kernel) (by decide))
    | _ => simp [tyIs] at ht
  | bool =>
    cases cl with
    | Name y py =>
      have ht : (y == "bool" && glB sc y) = true := ht
      simp only [Bool.and_eq_true] at ht
      obtain rfl := k ht.1
      exact one rfl (by intro z; cases z) rfl (pe_ty c r (by decide) ht.2 (by decide +kernel) (by decide))
    | _ => simp [tyIs] at ht
  | str =>
    cases cl with
    | Name y py =>
      have ht : (y == "str" && glB sc y) = true := ht
      simp only [Bool.and_eq_true] at ht
      obtain rfl := k ht.1
      exact one rfl (by intro z; cases z) rfl (pe_ty c r (by decide) ht.2 (by decide +kernel) (by decide))
    | _ => simp [tyIs] at ht
  | list =>
    cases cl with
    | Name y py =>
      have ht : (y == "list" && glB sc y) = true := ht
      simp only [Bool.and_eq_true] at ht
      obtain rfl := k ht.1
      exact one rfl (by intro z; cases z) rfl (pe_ty c r (by decide) ht.2 (by decide +kernel) (by decide))
    | _ => simp [tyIs] at ht
  | tuple =>
    cases cl with
    | Name y py =>
      have ht : (y == "tuple" && glB sc y) = true := ht
      simp only [Bool.and_eq_true] at ht
      obtain rfl := k ht.1
      exact one rfl (by intro z; cases z) rfl (pe_ty c r (by decide) ht.2 (by decide +kernel) (by decide))
    | _ => simp [tyIs] at ht
theorem c_bits {a : RF.X} {x m : Str} {px p pos : Pos} (hm : (m == "bit_length") = true) (hl : (p.endLine == pos.line) = true) (ha : PE X (.Name x px) (tE X.K FA CA W w C a)) : PE X (.Call (.Attribute (.Name x px) m p) [] [] pos) (tE X.K FA CA W w C (.bits a)) := by
  obtain rfl : m = "bit_length" := by simpa using hm
  refine PE.imp (pe_bits ha (by rfl) hl) fun σ H Q ⟨F, ts, env, hl, s, post⟩ => ⟨F, ts, env, hl, s, ?_⟩
  unfold evalE at post
  refine bindE post fun o env1 v H1 F1 _ hl1 s1 sF1 p1 post => ?_
  have post := post.rebase sF1 fun z => (p1 z).1
  split at post
  · obtain rfl := RepV.int (.rep s1.rep : RepV X.K FA F1 H1 v _)
    exact ⟨_, rfl, post.z hl1 s1.tail (.int _)⟩
  · exact post.elim
/-! ### targets -/
/-- nothing but these slots differs -/
def Beside (is : List Nat) (σ σ' : L2.St) : Prop := σ'.length = σ.length ∧ ∀ i, i ∉ is → σ'[i]? = σ[i]?
def tTg (K : PySem.W.Frag) (FA : Fns) (w : W0) (t : Tg) : TG := fun v σ H Q => ∃ F ts env o, env.length = σ.length ∧ Hs K FA w F H ((some v, o) :: (lv σ env ++ ts)) ∧
  ∃ env', tgE t o env = some env' ∧ ∀ σ', Beside (tgSlots t) σ σ' → env'.length = σ'.length → Hs K FA w F H (lv σ' env' ++ ts) → Q σ' H
theorem PG.impT {e : Expr} {t t' : TG} (h : L2.PG X e t) (i : ∀ v σ H Q, t' v σ H Q → t v σ H Q) : L2.PG X e t' := ⟨fun pins s σ H v u Q I r q => h.run pins s σ H v u Q I r (i _ _ _ _ q)⟩
theorem locB_ok (r : ScR X sc) {i : Nat} {x : Str} (h : locB X.N sc i x = true) : X.N[i]? = some x ∧ Loc X.env.scope x ∧ (X.fn x = true ∨ X.env.scope.names.lookup x = some .local) := by
  unfold locB at h
  simp only [Bool.and_eq_true, Bool.or_eq_true, decide_eq_true_eq] at h
  obtain ⟨h1, h2⟩ := h
  rcases h2 with h2 | h2
  · exact ⟨h1, .inl (r.loc x h2), .inr (r.loc x h2)⟩
  · exact ⟨h1, .inr (r.cell x h2).1, .inl (r.cell x h2).2⟩
theorem pg_slot (c : X.N.Nodup) (r : ScR X sc) {i : Nat} {x : Str} {pos : Pos} (h : locB X.N sc i x = true) : L2.PG X (.Name x pos) (gName i) := by
  obtain ⟨h1, h2, h3⟩ := locB_ok r h
  exact pg_name c h1 h2 h3
theorem beside_set {i : Nat} {w' : Option V} (σ : L2.St) : Beside [i] σ (σ.set i w') := ⟨List.length_set, fun j h => by
  rw [List.getElem?_set_ne (fun e => h (by rw [e]; exact List.mem_singleton.mpr rfl))]⟩
theorem Beside.trans {is js : List Nat} {σ σ1 σ2 : L2.St} (a : Beside is σ σ1) (b : Beside js σ1 σ2) : Beside (is ++ js) σ σ2 :=
  ⟨b.1.trans a.1, fun i h => (b.2 i fun z => h (List.mem_append_right _ z)).trans (a.2 i fun z => h (List.mem_append_left _ z))⟩
theorem isE_lt {N : List Str} {i : Nat} {x : Str} (h : N[i]? = some x) : i < N.length := (List.getElem?_eq_some_iff.mp h).1
/-- a state's slots are as many as the names -/
def tTg' (K : PySem.W.Frag) (FA : Fns) (w : W0) (n : Nat) (t : Tg) : TG := fun v σ H Q => σ.length = n ∧ tTg K FA w t v σ H Q
theorem c_tgN (c : X.N.Nodup) (r : ScR X sc) {i : Nat} {x : Str} {pos : Pos} (h : locB X.N sc i x = true) : L2.PG X (.Name x pos) (tTg' X.K FA w X.N.length (.nm i)) := by
  refine PG.impT (pg_slot c r h) fun v σ H Q ⟨hn, F, ts, env, o, hl, s, env', e, q⟩ => ?_
  cases (show some (env.set i (some o)) = some env' from e)
  have hi : i < σ.length := by rw [hn]; exact isE_lt (locB_ok r h).1
  exact q _ (beside_set σ) (by simp [hl]) (Hs.store hl hi s)
/-- several targets, several values -/
def tTgs (K : PySem.W.Frag) (FA : Fns) (w : W0) (n : Nat) (is : List Nat) : TGs := fun vs σ H Q => σ.length = n ∧ ∃ F ts env os, env.length = σ.length ∧ vs.length = os.length ∧ Hs K FA w F H ((vs.map some).zip os ++ (lv σ env ++ ts)) ∧
  ∃ env', setAll env is os = some env' ∧ ∀ σ', Beside is σ σ' → env'.length = σ'.length → Hs K FA w F H (lv σ' env' ++ ts) → Q σ' H
theorem PGs.impT {e : List Expr} {t t' : TGs} (h : L2.PGs X e t) (i : ∀ v σ H Q, t' v σ H Q → t v σ H Q) : L2.PGs X e t' := ⟨fun pins s σ H v u Q I r q => h.run pins s σ H v u Q I r (i _ _ _ _ q)⟩
theorem c_tgs (c : X.N.Nodup) (r : ScR X sc) : ∀ {is : List Nat} {es : List Expr}, tgIs.go X.N sc is es = true → L2.PGs X es (tTgs X.K FA w X.N.length is) ∧ (assignEach es X.env).length = is.length ∧ (assignEach es X.env).findIdx? (·.1) = none
  | [], [], _ => ⟨PGs.impT pgs_nil fun vs σ H Q ⟨hn, F, ts, env, os, hl, hv, s, env', e, q⟩ => (by
      cases os with
      | nil =>
        have : vs = [] := by simpa using hv
        subst this
        cases (show some env = some env' from e)
        exact ⟨rfl, q σ ⟨rfl, fun _ _ => rfl⟩ hl s⟩
      | cons o os => cases e), rfl, rfl⟩
  | [], _ :: _, h => by simp [tgIs.go] at h
  | _ :: _, [], h => by simp [tgIs.go] at h
  | i :: is, e :: es, h => by
    cases e with
    | Name x pos =>
      have h' : locB X.N sc i x = true ∧ tgIs.go X.N sc is es = true := by simpa [tgIs.go] using h
      obtain ⟨h1, h2, h3⟩ := c_tgs c r h'.2
      refine ⟨PGs.impT (pgs_cons (pg_slot c r h'.1) h1) fun vs σ H Q ⟨hn, F, ts, env, os, hl, hv, s, env', e, q⟩ => ?_, ?_, ?_⟩
      · cases os with
        | nil => cases e
        | cons o os =>
          cases vs with
          | nil => simp at hv
          | cons v vs =>
            have hi : i < σ.length := by rw [hn]; exact isE_lt (locB_ok r h'.1).1
            refine ⟨v, vs, rfl, by simpa using hn, F, ts, env.set i (some o), os, by simp [hl], by simpa using hv, ?_, env', e, fun σ' b1 b2 b3 => q σ' ?_ b2 b3⟩
            · have s1 : Hs X.K FA w F H ((some v, o) :: (lv σ env ++ ((vs.map some).zip os ++ ts))) := by
                refine s.perm (List.Perm.cons _ ?_)
                exact perm_abc
              have s2 := Hs.store hl hi s1
              exact s2.perm perm_abc
            · have := (beside_set (i := i) (w' := some v) σ).trans b1
              exact this
      · show (assignEach es X.env).length + 1 = is.length + 1
        rw [h2]
      · show List.findIdx? (·.1) ((false, assign (.Name x pos) X.env) :: assignEach es X.env) = none
        rw [List.findIdx?_cons, h3]
        rfl
    | _ => simp [tgIs.go] at h
theorem items_ok {K : PySem.W.Frag} {v : V} {o : O} {os : List O} {ps : List (Option V × O)} (s : Hs K FA w F H ((some v, o) :: ps)) (e : items? o = some os) : ∃ a vs, v = .ref a ∧ SqT K H a vs ∧ vs.length = os.length ∧ Hs K FA w F H ((vs.map some).zip os ++ ps) := by
  unfold items? at e
  split at e
  · cases e
    have rp := s.rep
    cases rp with
    | tup h r =>
      refine ⟨_, _, rfl, .of (s.1.sub _ _ h), by rw [List.length_map]; exact r.length, ?_⟩
      obtain ⟨hr, A, rA, nd, q⟩ := s.tail
      exact ⟨hr, A, RepL.of_os (A := []) (RepOs.of_reps r) rA, nd, q⟩
  · cases e
    obtain ⟨hr, A, rA, nd, q⟩ := s
    cases rA with
    | cons h1 rB =>
      cases h1 with
      | t h r => exact ⟨_, _, rfl, .of h, r.length, hr, _, RepL.of_os r rB, nd, q⟩
  · cases e
theorem c_tg (c : Cok Nm FA CA C X W) (r : ScR X sc) {t : Tg} {e : Expr} (h : tgIs X.N sc t e = true) : L2.PG X e (tTg' X.K FA w X.N.length t) := by
  cases t with
  | nm i =>
    cases e with
    | Name x pos => exact c_tgN c.nd r (by simpa [tgIs] using h)
    | _ => simp [tgIs] at h
  | tp is =>
    cases e with
    | Tuple es k pos =>
      obtain ⟨h1, h2, h3⟩ := c_tgs (FA := FA) (w := w) c.nd r (show tgIs.go X.N sc is es = true by simpa [tgIs] using h)
      refine PG.impT (pg_tup c.calm h1 h2 h3) fun v σ H Q ⟨hn, F, ts, env, o, hl, s, env', e, q⟩ => ?_
      have e : (items? o).bind (fun os => setAll env is os) = some env' := e
      cases e1 : items? o with
      | none => rw [e1] at e; cases e
      | some os =>
        rw [e1] at e
        obtain ⟨a, vs, rfl, h4, h5, s1⟩ := items_ok s e1
        have hlen : os.length = is.length := setAll_len e
        exact ⟨a, vs, rfl, h4, by rw [h5, hlen], hn, F, ts, env, os, hl, h5, s1, env', e, q⟩
    | _ => simp [tgIs] at h
where
  setAll_len : ∀ {env env' : Env} {is : List Nat} {os : List O}, setAll env is os = some env' → os.length = is.length
    | _, _, [], [], _ => rfl
    | _, _, [], _ :: _, h => by cases h
    | _, _, _ :: _, [], h => by cases h
    | _, _, i :: is, o :: os, h => by
      have := setAll_len (is := is) (os := os) h
      simp [this]
end
end RF
/-! RFm: what loops walk; pops. -/
namespace RF
open L2 PySem PySem.Spec PyProof.Rows
section
variable {Nm : Names} {FA : Fns} {CA : Nat → Option Addr} {C : Cfg} {X : Cx} {W : WX} {w : W0} {sc : Scope}
variable {σ : L2.St} {F F' F1 H H' H1 : Hp} {ts : List (Option V × O)} {Q Q1 : VK} {pu pu1 fl : Bool}
/-! ### what is walked -/
structure WalkOk (K : PySem.W.Frag) (FA : Fns) (w : W0) (J : L2.It) (ds : List D) (F1 : Hp) : Prop where
  go : ∀ k H F, Sub F1 F → Sub F H → k < ds.length → J.go k H
  stop : ∀ k H F, Sub F1 F → Sub F H → ds.length ≤ k → J.stop k H
  yld : ∀ k H x H' F ps d, Sub F1 F → Hs K FA w F H ps → ds[k]? = some d → J.yld k H x H' → ∃ F', Sub F F' ∧ Sub H H' ∧ Hs K FA w F' H' ((some x, .z d) :: ps)
def okIt (K : PySem.W.Frag) (FA : Fns) (w : W0) (pu : Bool) (σ : L2.St) (F H : Hp) (ts : List (Option V × O)) (R : L2.It → Hp → Prop) : List D → Env → Prop := fun ds env' =>
  ∀ J H' F', env'.length = σ.length → Hs K FA w F' H' (lv σ env' ++ ts) → WalkOk K FA w J ds F' → Sub F F' → (pu = true → Sub H H') → R J H'
def tIt (K : PySem.W.Frag) (FA : Fns) (CA : Nat → Option Addr) (W : WX) (w : W0) (C : Cfg) (it : RF.It) : TI := fun σ H R => ∃ F ts env, env.length = σ.length ∧ Hs K FA w F H (lv σ env ++ ts) ∧ RF.PG K FA CA W w σ F (okIt K FA w (pureIt it) σ F H ts R) (evalIt C it env)
theorem PI.imp {tg e : Expr} {t t' : TI} (h : PI X tg e t) (i : ∀ σ H Q, t' σ H Q → t σ H Q) : PI X tg e t' := ⟨fun pins s σ H Q I q => h.run pins s σ H Q I (i _ _ _ q)⟩
theorem walk_list {K : PySem.W.Frag} {a : Addr} {vs : List V} {ds : List D} (e : F a = some (.lst vs)) (r : Reps K FA F vs ds) : WalkOk K FA w (Itl K a) ds F where
  go := fun k H F' s t h => by
    obtain ⟨v, e1, _⟩ := r.get (i := k) (List.getElem?_eq_getElem h)
    exact ⟨vs, v, .of (t _ _ (s _ _ e)), e1⟩
  stop := fun k H F' s t h => ⟨vs, .of (t _ _ (s _ _ e)), by rw [r.length]; exact h⟩
  yld := fun k H x H' F' ps d s hs hd y => by
    obtain ⟨rfl, y⟩ := y
    obtain ⟨v, e1, rv⟩ := r.get hd
    have := y vs (.of (hs.1.sub _ _ (s _ _ e)))
    rw [e1] at this
    cases this
    exact ⟨F', Sub.refl _, Sub.refl _, hs.add (rv.mono s)⟩
theorem walk_tup {K : PySem.W.Frag} {a : Addr} {vs : List V} {ds : List D} (e : F a = some (.tup vs)) (r : Reps K FA F vs ds) : WalkOk K FA w (Itt K a) ds F where
  go := fun k H F' s t h => by
    obtain ⟨v, e1, _⟩ := r.get (i := k) (List.getElem?_eq_getElem h)
    exact ⟨vs, v, .of (t _ _ (s _ _ e)), e1⟩
  stop := fun k H F' s t h => ⟨vs, .of (t _ _ (s _ _ e)), by rw [r.length]; exact h⟩
  yld := fun k H x H' F' ps d s hs hd y => by
    obtain ⟨rfl, y⟩ := y
    obtain ⟨v, e1, rv⟩ := r.get hd
    have := y vs (.of (hs.1.sub _ _ (s _ _ e)))
    rw [e1] at this
    cases this
    exact ⟨F', Sub.refl _, Sub.refl _, hs.add (rv.mono s)⟩
theorem rangeL_len {st : Int} : ∀ (n : Nat) (lo : Int), (rangeL lo st n).length = n
  | 0, _ => rfl
  | n + 1, lo => by simp [rangeL, rangeL_len n]
theorem rangeL_get {st : Int} : ∀ (n k : Nat) (lo : Int), k < n → (rangeL lo st n)[k]? = some (.int (lo + k * st))
  | 0, _, _, h => by omega
  | n + 1, 0, lo, _ => by simp [rangeL]
  | n + 1, k + 1, lo, h => by
    have := rangeL_get (st := st) n k (lo + st) (by omega)
    simp only [rangeL, List.getElem?_cons_succ, this]
    congr 2
    have : ((k + 1 : Nat) : Int) = (k : Int) + 1 := by omega
    rw [this, Int.add_mul, Int.one_mul]; omega
theorem walk_range {K : PySem.W.Frag} {lo : Int} {n : Nat} : WalkOk K FA w (Itr lo n) (rangeL lo 1 n) F where
  go := fun k H F' s t h => by rw [rangeL_len] at h; exact h
  stop := fun k H F' s t h => by rw [rangeL_len] at h; exact h
  yld := fun k H x H' F' ps d s hs hd y => by
    obtain ⟨rfl, rfl⟩ := y
    have hk : k < n := by
      have := (List.getElem?_eq_some_iff.mp hd).1
      rwa [rangeL_len] at this
    rw [rangeL_get n k lo hk] at hd
    cases hd
    refine ⟨F', Sub.refl _, Sub.refl _, hs.add ?_⟩
    rw [Int.mul_one]
    exact .int _
theorem enumL_len : ∀ (ds : List D) (k : Nat), (enumL k ds).length = ds.length
  | [], _ => rfl
  | d :: ds, k => by simp [enumL, enumL_len ds]
theorem enumL_get : ∀ (ds : List D) (j k : Nat) (d : D), ds[j]? = some d → (enumL k ds)[j]? = some (.tup [.int ((k + j : Nat) : Int), d])
  | [], _, _, _, h => by simp at h
  | d :: ds, 0, k, e, h => by simp at h; subst h; simp [enumL]
  | d :: ds, j + 1, k, e, h => by
    have := enumL_get ds j (k + 1) e (by simpa using h)
    simp only [enumL, List.getElem?_cons_succ, this]
    congr 5
    omega
theorem walk_enum {K : PySem.W.Frag} {a : Addr} {vs : List V} {ds : List D} (e : F a = some (.lst vs)) (r : Reps K FA F vs ds) : WalkOk K FA w (Ite K a) (enumL 0 ds) F where
  go := fun k H F' s t h => by
    rw [enumL_len] at h
    obtain ⟨v, e1, _⟩ := r.get (i := k) (List.getElem?_eq_getElem h)
    exact ⟨vs, v, .of (t _ _ (s _ _ e)), e1⟩
  stop := fun k H F' s t h => by
    rw [enumL_len] at h
    exact ⟨vs, .of (t _ _ (s _ _ e)), by rw [r.length]; exact h⟩
  yld := fun k H x H' F' ps d s hs hd y => by
    have hk : k < ds.length := by
      have := (List.getElem?_eq_some_iff.mp hd).1
      rwa [enumL_len] at this
    obtain ⟨v, e1, rv⟩ := r.get (i := k) (List.getElem?_eq_getElem hk)
    rw [enumL_get ds k 0 _ (List.getElem?_eq_getElem hk)] at hd
    cases hd
    obtain ⟨T, z, rfl, hT, rfl, y⟩ := y
    have := y vs (.of (hs.1.sub _ _ (s _ _ e)))
    rw [e1] at this
    cases this
    have s2 := hs.allocT (xs := [.int (k : Nat), v]) hT
    refine ⟨_, sub_upd (hs.nonew hT), sub_upd hT, s2.add (.tup upd_same (.cons ?_ (.cons ((rv.mono s).mono (sub_upd (hs.nonew hT))) .nil)))⟩
    rw [Nat.zero_add]
    exact .int _
theorem c_seq {tg e : Expr} {a : RF.X} (ha : PE X e (tE X.K FA CA W w C a)) : PI X tg e (tIt X.K FA CA W w C (.seq a)) := by
  refine ⟨fun pins s σ H R I ⟨F, ts, env, hl, s0, post⟩ => ?_⟩
  unfold evalIt at post
  cases e1 : evalE C a env with
  | no => rw [e1] at post; exact post.elim
  | ex c ds =>
    rw [e1] at post
    refine (pi_list (tg := tg) ha).run pins s σ H R I ⟨F, ts, env, hl, s0, ?_⟩
    rw [e1]; exact post
  | ok o env1 =>
    rw [e1] at post
    have post : RF.PG X.K FA CA W w σ F (okIt X.K FA w (pureIt (.seq a)) σ F H ts R) (match o.toD with | .lst ds => .ok ds env1 | .tup ds => .ok ds env1 | _ => .no) := post
    split at post
    · rename_i ds ed
      refine (pi_list (tg := tg) ha).run pins s σ H R I ⟨F, ts, env, hl, s0, ?_⟩
      rw [e1]
      intro v H1 F1 hl1 s1 sF1 p1
      obtain ⟨F2, sF2, s2⟩ := s1.freeze
      have rp : Rep X.K FA F2 v o.toD := s2.rep
      rw [ed] at rp
      cases rp with
      | lst h r => exact ⟨_, rfl, ⟨_, .of (s2.1.sub _ _ h)⟩, post _ H1 F2 hl1 s2.tail (walk_list h r) (sF1.trans sF2) fun z => (p1 z).1⟩
    · rename_i ds ed
      refine (pi_tup (tg := tg) ha).run pins s σ H R I ⟨F, ts, env, hl, s0, ?_⟩
      rw [e1]
      intro v H1 F1 hl1 s1 sF1 p1
      obtain ⟨F2, sF2, s2⟩ := s1.freeze
      have rp : Rep X.K FA F2 v o.toD := s2.rep
      rw [ed] at rp
      cases rp with
      | tup h r => exact ⟨_, rfl, ⟨_, .of (s2.1.sub _ _ h)⟩, post _ H1 F2 hl1 s2.tail (walk_tup h r) (sF1.trans sF2) fun z => (p1 z).1⟩
    · exact post.elim
theorem rng_ok {i : Int} (h : rngOk i = true) : -(2 ^ 62) ≤ i ∧ i < 2 ^ 62 := by
  unfold rngOk at h
  simp only [Bool.and_eq_true, decide_eq_true_eq] at h
  omega
theorem c_rng1 {tg u : Expr} {a : RF.X} {x : Str} {p pos : Pos} (c : Cok Nm FA CA C X W) (r : ScR X sc) (hx : (x == "range") = true) (hg : glB sc x = true) (hi : isE Nm X.N a sc u = true) (ha : PE X u (tE X.K FA CA W w C a)) :
    PI X tg (.Call (.Name x p) [u] [] pos) (tIt X.K FA CA W w C (.rng1 a)) := by
  obtain rfl : x = "range" := by simpa using hx
  refine PI.imp (pi_range1 (glB_ok r hg).1 (c.blt _ (by decide)) (pa_cons ha pa_nil (star_cons hi)) (star_cons hi)) fun σ H R ⟨F, ts, env, hl, s0, post⟩ => ⟨F, ts, env, hl, s0, ?_⟩
  unfold evalIt at post
  refine bindG post fun o env1 v H1 F1 _ hl1 s1 sF1 p1 post => ?_
  cases o with
  | z d =>
    cases d with
    | int n =>
      have post : RF.PG X.K FA CA W w σ F _ (if rngOk n then RF.R.ok (rangeL 0 1 n.toNat) env1 else .no) := post
      split at post
      · rename_i hn
        obtain rfl := RepV.int (.rep s1.rep : RepV X.K FA F1 H1 v _)
        obtain ⟨h1, h2⟩ := rng_ok hn
        exact ⟨n, rfl, h1, h2, post _ H1 F1 hl1 s1.tail walk_range sF1 fun z => (p1 z).1⟩
      · exact post.elim
    | _ => exact post.elim
  | _ => exact post.elim
theorem c_rng2 {tg u v : Expr} {a b : RF.X} {x : Str} {p pos : Pos} (c : Cok Nm FA CA C X W) (r : ScR X sc) (hx : (x == "range") = true) (hg : glB sc x = true) (hi : isE Nm X.N a sc u = true) (hi2 : isE Nm X.N b sc v = true) (ha : PE X u (tE X.K FA CA W w C a)) (hb : PE X v (tE X.K FA CA W w C b)) :
    PI X tg (.Call (.Name x p) [u, v] [] pos) (tIt X.K FA CA W w C (.rng2 a b)) := by
  obtain rfl : x = "range" := by simpa using hx
  refine PI.imp (pi_range2 (glB_ok r hg).1 (c.blt _ (by decide)) (pa_cons ha (pa_cons hb pa_nil (star_cons hi2)) (star_cons hi)) (by rw [star_cons hi, star_cons hi2]; rfl) (star_cons hi2)) fun σ H R ⟨F, ts, env, hl, s0, post⟩ => ⟨F, ts, env, hl, s0, ?_⟩
  unfold evalIt at post
  have pp := fun z => Bool.and_eq_true_iff.mp (show (pureX a && pureX b) = true from z)
  refine bindG post fun o env1 v H1 F1 _ hl1 s1 sF1 p1 post => ⟨F1, (some v, o) :: ts, env1, hl1, s1.toTemp, ?_⟩
  rw [PG.bind] at post
  rw [Post.pg]
  refine post.rebaseE sF1 fun o2 env2 _ post v2 H2 F2 hl2 s2 sF2 p2 => ?_
  have s3 := s2.swapTemp
  cases o with
  | z d =>
    cases d with
    | int m =>
      cases o2 with
      | z d =>
        cases d with
        | int n =>
          have post : RF.PG X.K FA CA W w σ F _ (if rngOk m && rngOk n then RF.R.ok (rangeL m 1 (n - m).toNat) env2 else .no) := post
          split at post
          · rename_i hn
            have hn' := Bool.and_eq_true_iff.mp hn
            obtain rfl := RepV.int (.rep s3.rep : RepV X.K FA F2 H2 v _)
            obtain rfl := RepV.int (.rep s2.rep : RepV X.K FA F2 H2 v2 _)
            obtain ⟨h1, h2⟩ := rng_ok hn'.1
            obtain ⟨h3, h4⟩ := rng_ok hn'.2
            exact ⟨m, n, rfl, ⟨h1, h2, h3, h4⟩, post _ H2 F2 hl2 s3.tail.tail walk_range (sF1.trans sF2) fun z => (p1 (pp z).1).1.trans (p2 (pp z).2).1⟩
          · exact post.elim
        | _ => exact post.elim
      | _ => exact post.elim
    | _ => cases o2 <;> exact post.elim
  | _ => cases o2 <;> exact post.elim
theorem c_enum {u : Expr} {a : RF.X} {x : Str} {p pos tpos : Pos} {elts : List Expr} {kk : Nat} (c : Cok Nm FA CA C X W) (r : ScR X sc) (hx : (x == "enumerate") = true) (hg : glB sc x = true) (hi : isE Nm X.N a sc u = true) (ha : PE X u (tE X.K FA CA W w C a)) :
    PI X (.Tuple elts kk tpos) (.Call (.Name x p) [u] [] pos) (tIt X.K FA CA W w C (.enum a)) := by
  obtain rfl : x = "enumerate" := by simpa using hx
  refine PI.imp (pi_enum (glB_ok r hg).1 (c.blt _ (by decide)) (pa_cons ha pa_nil (star_cons hi)) (star_cons hi)) fun σ H R ⟨F, ts, env, hl, s0, post⟩ => ⟨F, ts, env, hl, s0, ?_⟩
  unfold evalIt at post
  refine bindG post fun o env1 v H1 F1 _ hl1 s1 sF1 p1 post => ?_
  split at post
  · rename_i ds ed
    obtain ⟨F2, sF2, s2⟩ := s1.freeze
    have rp : Rep X.K FA F2 v o.toD := s2.rep
    rw [ed] at rp
    cases rp with
    | lst h r => exact ⟨_, _, rfl, .of (s2.1.sub _ _ h), post _ H1 F2 hl1 s2.tail (walk_enum h r) (sF1.trans sF2) fun z => (p1 z).1⟩
  · exact post.elim
theorem notSet {Nm : Names} {N : List Str} {m : RF.X} {sc : Scope} {es : List Expr} {k : Nat} {p : Pos} : isE Nm N m sc (.Set es k p) = false := by cases m <;> rfl
theorem isIt_fold {N : List Str} {it : RF.It} {tg e : Expr} {env : PySem.Env} (h : isIt Nm N it sc tg e = true) : ∀ x, foldedSetIterable e env x = pure x := fun x => by
  cases e <;> first | rfl | skip
  rename_i es k p
  exfalso
  cases it <;> simp [isIt] at h
  rw [notSet] at h; cases h
/-! ### list(range(..)) -/
theorem rgV_rep {K : PySem.W.Frag} {lo hi : Int} : Reps K FA F (rgV lo hi) (rangeL lo 1 (hi - lo).toNat) := by
  have key : ∀ (n : Nat) (lo : Int), Reps K FA F ((List.range n).map fun i => V.int (lo + (i : Nat))) (rangeL lo 1 n) := by
    intro n
    induction n with
    | zero => intro lo; exact .nil
    | succ n ih =>
      intro lo
      rw [List.range_succ_eq_map, List.map_cons, List.map_map]
      refine .cons (by rw [show ((0 : Nat) : Int) = 0 from rfl, Int.add_zero]; exact .int _) ?_
      have := ih (lo + 1)
      have e : (fun i => V.int (lo + (i : Nat))) ∘ Nat.succ = fun i : Nat => V.int (lo + 1 + (i : Nat)) := by
        funext i
        show V.int (lo + ((i + 1 : Nat) : Int)) = _
        congr 1
        omega
      rw [e]; exact this
  exact key _ _
theorem c_lrange {it : RF.It} {x : Str} {u : Expr} {p pos : Pos} (c : Cok Nm FA CA C X W) (r : ScR X sc) (hx : (x == "list") = true) (hg : glB sc x = true) (hi : isIt Nm X.N it sc (.Name "x" ⟨0, 0, 0, 0⟩) u = true)
    (h1 : ∀ a, it = .rng1 a → ∀ y, isE Nm X.N a sc y = true → PE X y (tE X.K FA CA W w C a)) (h2 : ∀ a b, it = .rng2 a b → ∀ y, (isE Nm X.N a sc y = true → PE X y (tE X.K FA CA W w C a)) ∧ (isE Nm X.N b sc y = true → PE X y (tE X.K FA CA W w C b)))
    (hk : (match it with | .rng1 _ => true | .rng2 _ _ => true | _ => false) = true) : PE X (.Call (.Name x p) [u] [] pos) (tE X.K FA CA W w C (.lrange it)) := by
  obtain rfl : x = "list" := by simpa using hx
  have g := (glB_ok r hg).1
  have st : ∀ {u : Expr}, (∀ e p, u ≠ .Starred e p) → starEach [u] X.env = (false, eval u X.env) :: starEach [] X.env := fun {u} h => by cases u <;> first | rfl | exact absurd rfl (h _ _)
  cases it with
  | rng1 a =>
    cases u <;> first | (simp [isIt] at hi; done) | skip
    rename_i f us kws p2
    cases f <;> first | (simp [isIt] at hi; done) | skip
    rename_i y p3
    rcases us with _ | ⟨u1, _ | ⟨u2, us⟩⟩ <;> first | (simp [isIt] at hi; done) | skip
    cases kws with
    | cons k ks => simp [isIt] at hi
    | nil =>
      have hi' : (((y == "range") = true ∧ glB sc y = true) ∧ isE Nm X.N a sc u1 = true) := by
        have : (y == "range" && glB sc y && isE Nm X.N a sc u1) = true := hi
        rw [Bool.and_eq_true, Bool.and_eq_true] at this
        exact this
      obtain ⟨⟨i1, i2⟩, i3⟩ := hi'
      obtain rfl : y = "range" := by simpa using i1
      refine PE.imp (pe_listRg c.calm g (c.blt _ (by decide)) (prg_1 (glB_ok r i2).1 (c.blt _ (by decide)) (h1 a rfl u1 i3) (star_cons i3)) (st fun _ _ z => by cases z)) fun σ H Q ⟨F, ts, env, hl, s, post⟩ => ⟨F, ts, env, hl, s, ?_⟩
      unfold evalE at post
      rw [Post.pg, PG.bind] at post
      unfold evalIt at post
      refine bindG post fun o env1 v H1 F1 _ hl1 s1 sF1 p1 post => ?_
      cases o with
      | z d =>
        cases d with
        | int n =>
          have post : RF.PG X.K FA CA W w σ F (fun ds env1 => RF.PG X.K FA CA W w σ F (okE X.K FA w (pureX (.lrange (.rng1 a))) σ F H ts Q) (if lenOk ds then RF.R.ok (.l (ds.map .z)) env1 else .no)) (if rngOk n then RF.R.ok (rangeL 0 1 n.toNat) env1 else .no) := post
          split at post
          · rename_i hn
            have post : RF.PG X.K FA CA W w σ F (okE X.K FA w (pureX (.lrange (.rng1 a))) σ F H ts Q) (if lenOk (rangeL 0 1 n.toNat) then RF.R.ok (.l ((rangeL 0 1 n.toNat).map .z)) env1 else .no) := post
            split at post
            · rename_i hz
              obtain rfl := RepV.int (.rep s1.rep : RepV X.K FA F1 H1 v _)
              obtain ⟨b1, b2⟩ := rng_ok hn
              have hz' : (rangeL 0 1 n.toNat).length < 2 ^ 20 := of_decide_eq_true hz
              rw [rangeL_len] at hz'
              refine ⟨n, rfl, ⟨by omega, by omega, b1, b2, by omega⟩, fun q hq => ?_⟩
              have post := (Post.pg.mpr post).rebase sF1 fun z => (p1 z).1
              have e0 : (n - 0).toNat = n.toNat := by rw [Int.sub_zero]
              refine Hs.freshList (post.done hl1) s1.tail ?_ hq
              have := rgV_rep (K := X.K) (FA := FA) (F := F1) (lo := 0) (hi := n)
              rwa [e0] at this
            · exact post.elim
          · exact post.elim
        | _ => exact post.elim
      | _ => exact post.elim
  | rng2 a b =>
    cases u <;> first | (simp [isIt] at hi; done) | skip
    rename_i f us kws p2
    cases f <;> first | (simp [isIt] at hi; done) | skip
    rename_i y p3
    rcases us with _ | ⟨u1, _ | ⟨u2, _ | ⟨u3, us⟩⟩⟩ <;> first | (simp [isIt] at hi; done) | skip
    cases kws with
    | cons k ks => simp [isIt] at hi
    | nil =>
      have hi' : ((((y == "range") = true ∧ glB sc y = true) ∧ isE Nm X.N a sc u1 = true) ∧ isE Nm X.N b sc u2 = true) := by
        have : (y == "range" && glB sc y && isE Nm X.N a sc u1 && isE Nm X.N b sc u2) = true := hi
        rw [Bool.and_eq_true, Bool.and_eq_true, Bool.and_eq_true] at this
        exact this
      obtain ⟨⟨⟨i1, i2⟩, i3⟩, i4⟩ := hi'
      obtain rfl : y = "range" := by simpa using i1
      refine PE.imp (pe_listRg c.calm g (c.blt _ (by decide)) (prg_2 (glB_ok r i2).1 (c.blt _ (by decide)) ((h2 a b rfl u1).1 i3) ((h2 a b rfl u2).2 i4) (star_cons i3) (star_cons i4) (by rw [star_cons i4]; rfl)) (st fun _ _ z => by cases z)) fun σ H Q ⟨F, ts, env, hl, s, post⟩ => ⟨F, ts, env, hl, s, ?_⟩
      unfold evalE at post
      rw [Post.pg, PG.bind] at post
      unfold evalIt at post
      have pp := fun z => Bool.and_eq_true_iff.mp (show (pureX a && pureX b) = true from z)
      refine bindG post fun o env1 v H1 F1 _ hl1 s1 sF1 p1 post => ⟨F1, (some v, o) :: ts, env1, hl1, s1.toTemp, ?_⟩
      rw [PG.bind] at post
      rw [Post.pg]
      refine post.rebaseE sF1 fun o2 env2 _ post v2 H2 F2 hl2 s2 sF2 p2 => ?_
      have s3 := s2.swapTemp
      cases o with
      | z d =>
        cases d with
        | int m =>
          cases o2 with
          | z d =>
            cases d with
            | int n =>
              have post : RF.PG X.K FA CA W w σ F (fun ds env1 => RF.PG X.K FA CA W w σ F (okE X.K FA w (pureX (.lrange (.rng2 a b))) σ F H ts Q) (if lenOk ds then RF.R.ok (.l (ds.map .z)) env1 else .no)) (if rngOk m && rngOk n then RF.R.ok (rangeL m 1 (n - m).toNat) env2 else .no) := post
              split at post
              · rename_i hn
                have hn' := Bool.and_eq_true_iff.mp hn
                have post : RF.PG X.K FA CA W w σ F (okE X.K FA w (pureX (.lrange (.rng2 a b))) σ F H ts Q) (if lenOk (rangeL m 1 (n - m).toNat) then RF.R.ok (.l ((rangeL m 1 (n - m).toNat).map .z)) env2 else .no) := post
                split at post
                · rename_i hz
                  obtain rfl := RepV.int (.rep s3.rep : RepV X.K FA F2 H2 v _)
                  obtain rfl := RepV.int (.rep s2.rep : RepV X.K FA F2 H2 v2 _)
                  obtain ⟨b1, b2⟩ := rng_ok hn'.1
                  obtain ⟨b3, b4⟩ := rng_ok hn'.2
                  have hz' : (rangeL m 1 (n - m).toNat).length < 2 ^ 20 := of_decide_eq_true hz
                  rw [rangeL_len] at hz'
                  refine ⟨m, n, rfl, rfl, ⟨b1, b2, b3, b4, by omega⟩, fun q hq => ?_⟩
                  have post := (Post.pg.mpr post).rebase (sF1.trans sF2) fun z => (p1 (pp z).1).1.trans (p2 (pp z).2).1
                  exact Hs.freshList (post.done hl2) s3.tail.tail rgV_rep hq
                · exact post.elim
              · exact post.elim
            | _ => exact post.elim
          | _ => exact post.elim
        | _ => cases o2 <;> exact post.elim
      | _ => cases o2 <;> exact post.elim
  | _ => cases hk
/-! ### pop -/
theorem attr_line {m : Str} {p q : Pos} (h : (p.endLine == q.line) = true) : p.endLine = q.line := by simpa using h
end
end RF
/-! RFn: list comprehensions; pops. -/
namespace RF
open L2 PySem PySem.Spec PyProof.Rows
theorem lv_setw : ∀ {σ : L2.St} {env : Env} {i : Nat} {u : Option V}, env.length = σ.length → getE env i = none → lv (σ.set i u) env = lv σ env
  | [], [], _, _, _, _ => rfl
  | [], _ :: _, _, _, hl, _ => by simp at hl
  | _ :: _, [], _, _, hl, _ => by simp at hl
  | w :: σ, x :: env, 0, u, hl, e => by
    cases x with
    | none => rfl
    | some x => simp [getE] at e
  | w :: σ, x :: env, i + 1, u, hl, e => by
    have h := lv_setw (σ := σ) (env := env) (i := i) (u := u) (by simpa using hl) (by simpa [getE] using e)
    rw [List.set_cons_succ]
    cases x with
    | none => rw [lv_none, lv_none, h]
    | some x => rw [lv_some, lv_some, h]
theorem wipeE_len (env : Env) : ∀ is : List Nat, (wipeE env is).length = env.length
  | [] => rfl
  | i :: is => by simp [wipeE, wipeE_len env is]
theorem getE_set_ne {env : Env} {i j : Nat} {o : Option O} (h : i ≠ j) : getE (env.set i o) j = getE env j := by
  unfold getE
  rw [List.getElem?_set_ne h]
theorem getE_set_none {env : Env} {i : Nat} : getE (env.set i none) i = none := by
  unfold getE
  by_cases h : i < env.length
  · rw [List.getElem?_set_self h]; rfl
  · rw [List.getElem?_eq_none (by simpa using h)]; rfl
theorem getE_wipe_ne {env : Env} : ∀ {is : List Nat} {j : Nat}, j ∉ is → getE (wipeE env is) j = getE env j
  | [], _, _ => rfl
  | i :: is, j, h => by
    have h' : j ≠ i ∧ j ∉ is := ⟨fun e => h (e ▸ List.mem_cons_self), fun m => h (List.mem_cons_of_mem _ m)⟩
    show getE ((wipeE env is).set i none) j = _
    rw [getE_set_ne (Ne.symm h'.1), getE_wipe_ne h'.2]
theorem getE_wipe {env : Env} : ∀ {is : List Nat} {j : Nat}, j ∈ is → getE (wipeE env is) j = none
  | i :: is, j, h => by
    show getE ((wipeE env is).set i none) j = _
    by_cases e : i = j
    · subst e; exact getE_set_none
    · rw [getE_set_ne e]
      rcases List.mem_cons.mp h with z | z
      · exact absurd z.symm e
      · exact getE_wipe z
theorem restore_len {old new : Env} : ∀ is : List Nat, (restore old new is).length = new.length
  | [] => rfl
  | i :: is => by simp [restore, restore_len is]
theorem getE_restore_ne {old new : Env} : ∀ {is : List Nat} {j : Nat}, j ∉ is → getE (restore old new is) j = getE new j
  | [], _, _ => rfl
  | i :: is, j, h => by
    have h' : j ≠ i ∧ j ∉ is := ⟨fun e => h (e ▸ List.mem_cons_self), fun m => h (List.mem_cons_of_mem _ m)⟩
    show getE ((restore old new is).set i _) j = _
    rw [getE_set_ne (Ne.symm h'.1), getE_restore_ne h'.2]
/-- what the block's own names hid -/
def hid (σ : L2.St) (env : Env) : List Nat → List (Option V × O)
  | [] => []
  | i :: is => (match getE env i with | some o => [((σ[i]?).join, o)] | none => []) ++ hid σ env is
section
variable {K : PySem.W.Frag} {FA : Fns} {w : W0} {F F' H H' : Hp} {ts ps : List (Option V × O)} {σ : L2.St} {env : Env}
theorem Hs.hide : ∀ {is : List Nat}, is.Nodup → env.length = σ.length → Hs K FA w F H (lv σ env ++ ts) → Hs K FA w F H (lv (L2.wipe σ is) (wipeE env is) ++ (hid σ env is ++ ts))
  | [], _, _, s => s
  | i :: is, nd, hl, s => by
    obtain ⟨n1, n2⟩ := List.nodup_cons.mp nd
    have s1 := Hs.hide n2 hl s
    have hl1 : (wipeE env is).length = (wipe σ is).length := by rw [wipeE_len, wipe_length, hl]
    show Hs K FA w F H (lv ((wipe σ is).set i none) ((wipeE env is).set i none) ++ (((match getE env i with | some o => [((σ[i]?).join, o)] | none => []) ++ hid σ env is) ++ ts))
    rw [lv_setw (by simp [hl1]) getE_set_none]
    cases e : getE env i with
    | none =>
      rw [lv_none_of hl1 (by rw [getE_wipe_ne n1, e])]
      exact s1
    | some o =>
      obtain ⟨v, e1, s2⟩ := s1.take hl1 (by rw [getE_wipe_ne n1, e])
      have e2 := (wipe_some e1).1
      have e3 : (σ[i]?).join = some v := by rw [e2]; rfl
      show Hs K FA w F H (lv (wipe σ is) ((wipeE env is).set i none) ++ (([((σ[i]?).join, o)] ++ hid σ env is) ++ ts))
      rw [e3]
      exact s2.toTemp
theorem Hs.unhide {env2 : Env} : ∀ {is : List Nat} {ts : List (Option V × O)}, is.Nodup → env.length = σ.length → env2.length = σ.length → (∀ i ∈ is, getE env2 i = none) → (∀ i ∈ is, ∀ o, getE env i = some o → ∃ v, σ[i]? = some (some v)) →
    Hs K FA w F H (lv (L2.wipe σ is) env2 ++ (hid σ env is ++ ts)) → Hs K FA w F H (lv σ (RF.restore env env2 is) ++ ts)
  | [], _, _, _, _, _, _, s => s
  | i :: is, ts, nd, hl, hl2, hn, hv, s => by
    obtain ⟨n1, n2⟩ := List.nodup_cons.mp nd
    have s : Hs K FA w F H (lv ((L2.wipe σ is).set i none) env2 ++ (((match getE env i with | some o => [((σ[i]?).join, o)] | none => []) ++ hid σ env is) ++ ts)) := s
    rw [lv_setw (by rw [wipe_length, hl2]) (hn i List.mem_cons_self)] at s
    have s1 : Hs K FA w F H (lv (L2.wipe σ is) env2 ++ (hid σ env is ++ ((match getE env i with | some o => [((σ[i]?).join, o)] | none => []) ++ ts))) := by
      refine s.perm (List.Perm.append_left _ ?_)
      rw [List.append_assoc]
      exact perm_abc
    have s2 := Hs.unhide n2 hl hl2 (fun j m => hn j (List.mem_cons_of_mem _ m)) (fun j m => hv j (List.mem_cons_of_mem _ m)) s1
    have hl3 : (RF.restore env env2 is).length = σ.length := by rw [restore_len, hl2]
    have gn : getE (RF.restore env env2 is) i = none := by rw [getE_restore_ne n1]; exact hn i List.mem_cons_self
    show Hs K FA w F H (lv σ ((RF.restore env env2 is).set i ((env[i]?).join)) ++ ts)
    cases e : getE env i with
    | none =>
      have e' : (env[i]?).join = none := e
      rw [e', lv_none_of hl3 gn]
      rw [e] at s2
      exact s2
    | some o =>
      have e' : (env[i]?).join = some o := e
      rw [e']
      rw [e] at s2
      obtain ⟨v, e1⟩ := hv i List.mem_cons_self o e
      have e3 : (σ[i]?).join = some v := by rw [e1]; rfl
      have s3 : Hs K FA w F H ((some v, o) :: (lv σ ((RF.restore env env2 is).set i none) ++ ts)) := by
        rw [lv_none_of hl3 gn]
        have s2 : Hs K FA w F H (lv σ (RF.restore env env2 is) ++ ((σ[i]?).join, o) :: ts) := s2
        rw [e3] at s2
        exact s2.ofTemp
      exact s3.back hl3 e1
theorem Hs.wipe : ∀ {is : List Nat}, env.length = σ.length → Hs K FA w F H (lv σ env ++ ts) → Hs K FA w F H (lv (L2.wipe σ is) (wipeE env is) ++ ts)
  | [], _, s => s
  | i :: is, hl, s => by
    have s1 := Hs.wipe (is := is) hl s
    have hl1 : (wipeE env is).length = (L2.wipe σ is).length := by rw [wipeE_len, wipe_length, hl]
    show Hs K FA w F H (lv ((L2.wipe σ is).set i none) ((wipeE env is).set i none) ++ ts)
    rw [lv_setw (by simp [hl1]) getE_set_none]
    exact s1.forget hl1
theorem Hs.slots (hl : env.length = σ.length) (s : Hs K FA w F H (lv σ env ++ ts)) : ∀ i o, getE env i = some o → ∃ v, σ[i]? = some (some v) := fun i o e => by
  obtain ⟨v, e1, _⟩ := s.take hl e
  exact ⟨v, e1⟩
end
theorem wipe_getElem {σ : L2.St} : ∀ {is : List Nat} {j : Nat}, (wipe σ is)[j]? = if j ∈ is then (σ[j]?).map fun _ => none else σ[j]?
  | [], j => by simp [wipe]
  | i :: is, j => by
    show ((wipe σ is).set i none)[j]? = _
    by_cases e : i = j
    · subst e
      rw [if_pos List.mem_cons_self]
      by_cases h : i < σ.length
      · rw [List.getElem?_set_self (by rw [wipe_length]; exact h), List.getElem?_eq_getElem h]; rfl
      · rw [List.getElem?_eq_none (by rw [List.length_set, wipe_length]; omega), List.getElem?_eq_none (by omega)]; rfl
    · rw [List.getElem?_set_ne e, wipe_getElem]
      by_cases m : j ∈ is
      · rw [if_pos m, if_pos (List.mem_cons_of_mem _ m)]
      · rw [if_neg m, if_neg (fun z => (List.mem_cons.mp z).elim (fun z => e z.symm) m)]
theorem wipe_beside {σ σ' : L2.St} {is js : List Nat} (b : Beside js (wipe σ is) σ') (h : ∀ j ∈ js, j ∈ is) : wipe σ' is = wipe σ is := by
  apply List.ext_getElem?
  intro j
  rw [wipe_getElem, wipe_getElem]
  by_cases m : j ∈ is
  · rw [if_pos m, if_pos m]
    have hl : σ'.length = σ.length := by rw [b.1, wipe_length]
    by_cases q : j < σ.length
    · rw [List.getElem?_eq_getElem q, List.getElem?_eq_getElem (by omega)]; rfl
    · rw [List.getElem?_eq_none (by omega), List.getElem?_eq_none (by omega)]
  · rw [if_neg m, if_neg m, b.2 j (fun z => m (h j z)), wipe_getElem, if_neg m]
section
variable {Nm : Names} {FA : Fns} {CA : Nat → Option Addr} {C : Cfg} {X : Cx} {W : WX} {w : W0} {sc : Scope}
variable {σ : L2.St} {F F' F1 H H' H1 : Hp} {ts : List (Option V × O)} {Q Q1 : VK} {pu pu1 fl : Bool}
abbrev WF : WX := fun _ _ _ _ => False
/-- a clause's tests -/
def tCond (K : PySem.W.Frag) (FA : Fns) (CA : Nat → Option Addr) (w : W0) (C : Cfg) (m : Xo) : TT := fun σ H Q => ∃ F ts env, env.length = σ.length ∧ Hs K FA w F H (lv σ env ++ ts) ∧
  Post K FA CA WF w (pureXo m) σ F H ts (fun x H' => ∃ k, x = .bl k ∧ Q k H') (evalCond C m env)
theorem PTs.imp {ifs : List Expr} {t t' : TT} (h : PTs X ifs t) (i : ∀ σ H Q, t' σ H Q → t σ H Q) : PTs X ifs t' := ⟨fun pins s σ H Q I q => h.run pins s σ H Q I (i _ _ _ q)⟩
theorem c_condN : PTs X [] (tCond X.K FA CA w C .none) := by
  refine PTs.imp pts_nil fun σ H Q ⟨F, ts, env, hl, s, post⟩ => ?_
  obtain ⟨k, e, q⟩ := post (.bl true) H F hl (s.add (.bl true)) (Sub.refl _) fun _ => ⟨Sub.refl _, Fresh.z (.bl true)⟩
  cases e
  exact q
theorem c_condS {m : RF.X} {e : Expr} (h : PT X e (tTest (tE X.K FA CA WF w C m))) : PTs X [e] (tCond X.K FA CA w C (.some m)) :=
  PTs.imp (pts_one h) fun σ H Q ⟨F, ts, env, hl, s, post⟩ => ⟨F, ts, env, hl, s, post⟩
theorem nox_ok {r : R O} {α : Type} {k : O → Env → R α} {a : α} {env : Env} : (r.nox.bind k) = (match r with | .ok o e => k o e | _ => .no) := by cases r <;> rfl
theorem i_comp {elt : RF.X} {t : Tg} {it : RF.It} {cd : Xo} {own : List Nat} (hnd : own.Nodup) (hin : ∀ i ∈ tgSlots t, i ∈ own) : ∀ σ H Q, σ.length = X.N.length → tE X.K FA CA W w C (.comp elt t it cd own) σ H Q → tLc (tIt X.K FA CA W w C it) (tTg' X.K FA w X.N.length t) (tCond X.K FA CA w C cd) (tE X.K FA CA WF w C elt) own σ H Q := by
  intro σ H Q hn ⟨F, ts, env, hl, s0, post⟩
  refine ⟨F, ts, env, hl, s0, ?_⟩
  unfold evalE at post
  rw [Post.pg, PG.bind] at post
  have pp := fun z => Bool.and_eq_true_iff.mp (show ((pureX elt && pureIt it) && pureXo cd) = true from z)
  refine post.imp fun ds env1 _ post J H1 F1 hl1 s1 wk sF1 p1 => ?_
  intro D hD
  -- the result as the evaluator has it
  have post : RF.PG X.K FA CA W w σ F (okE X.K FA w (pureX (.comp elt t it cd own)) σ F H ts Q) ((evalComp (fun e => evalE C elt e) t (fun e => evalCond C cd e) own ds (wipeE env1 own) []).bind fun os env2 =>
      .ok (.l os) (if (pureX elt && pureIt it && pureXo cd) && O.cleans os then env else restore env1 env2 own)) := post
  generalize er : evalComp (fun e => evalE C elt e) t (fun e => evalCond C cd e) own ds (wipeE env1 own) [] = rr at post
  let Inv' : Nat → Nat → Hp → Prop := fun i m H2 => m = ds.length - i ∧ i ≤ ds.length ∧ ∃ F2 env2 acc vs, Sub F1 F2 ∧ env2.length = σ.length ∧ (∀ j ∈ own, getE env2 j = none) ∧
    Hs X.K FA w F2 H2 ((some (.ref D), .l acc) :: (lv (wipe σ own) env2 ++ (hid σ env1 own ++ ts))) ∧ H2 D = some (.lst vs) ∧ evalComp (fun e => evalE C elt e) t (fun e => evalCond C cd e) own (ds.drop i) env2 acc = rr ∧
    ((pureX elt && pureXo cd) = true → Sub H1 H2 ∧ ∃ A, RepOs X.K FA F2 H2 vs acc A ∧ ∀ a ∈ A, H1 a = none)
  have hlw : (wipeE env1 own).length = σ.length := by rw [wipeE_len, hl1]
  refine ⟨Inv', ⟨ds.length, by omega, by omega, F1, wipeE env1 own, [], [], Sub.refl _, hlw, fun j m => getE_wipe m, ?_, upd_same, er, fun _ => ⟨sub_upd hD, [], .nil, fun a m => nomatch m⟩⟩, ?_⟩
  · have s2 := s1.hide hnd hl1
    exact s2.newList (ds := []) (vs := []) .nil hD
  rintro i m H2 ⟨rfl, hi2, F2, env2, acc, vs, sF2, hl2, hn2, s2, hv2, er2, p2⟩
  by_cases hlast : i < ds.length
  · -- a turn
    right
    have hsub : Sub F2 H2 := s2.1.sub
    refine ⟨wk.go i H2 F2 sF2 hsub hlast, Inv' (i + 1) (ds.length - (i + 1)), fun H' h => ⟨_, by omega, h⟩, fun x H3 hy => ?_⟩
    have hdi : ds[i]? = some ds[i] := List.getElem?_eq_getElem hlast
    obtain ⟨F3, sF3, sH3, s3⟩ := wk.yld i H2 x H3 F2 _ _ sF2 s2 hdi hy
    rw [List.drop_eq_getElem_cons hlast] at er2
    unfold evalComp at er2
    have hlw2 : (wipe σ own).length = X.N.length := by rw [wipe_length, hn]
    cases e1 : tgE t (.z ds[i]) env2 with
    | none => rw [e1] at er2; subst er2; exact False.elim post
    | some env3 =>
      rw [e1] at er2
      have s3' : Hs X.K FA w F3 H3 ((some x, .z ds[i]) :: (lv (wipe σ own) env2 ++ ((some (.ref D), .l acc) :: (hid σ env1 own ++ ts)))) := by
        refine s3.perm (List.Perm.cons _ ?_)
        exact List.perm_middle.symm
      refine ⟨hlw2, F3, _, env2, _, by rw [hl2, wipe_length], s3', env3, e1, fun σ2 bs hl3 s4 => ?_⟩
      have ew : wipe σ2 own = wipe σ own := wipe_beside bs hin
      have hl2' : σ2.length = σ.length := by rw [bs.1, wipe_length]
      refine ⟨ew, F3, _, env3, hl3, s4, ?_⟩
      have er2 : ((evalCond C cd env3).nox.bind fun b env2 => match b with
            | .z (.bl true) => if lenOk acc then (evalE C elt env2).nox.bind fun o env3 => evalComp (fun e => evalE C elt e) t (fun e => evalCond C cd e) own (ds.drop (i + 1)) (wipeE env3 own) (acc ++ [o]) else .no
            | .z (.bl false) => evalComp (fun e => evalE C elt e) t (fun e => evalCond C cd e) own (ds.drop (i + 1)) (wipeE env2 own) acc
            | _ => .no) = rr := er2
      cases e2 : evalCond C cd env3 with
      | no => rw [e2] at er2; subst er2; exact False.elim post
      | ex c ds => rw [e2] at er2; subst er2; exact False.elim post
      | ok o env4 =>
        rw [e2] at er2
        intro vb H4 F4 hl4 s5 sF4 p4
        cases o with
        | l _ => subst er2; exact False.elim post
        | t _ => subst er2; exact False.elim post
        | z d =>
        cases d with
        | bl b =>
          have ev := RepV.bl (.rep s5.rep : RepV X.K FA F4 H4 vb _)
          subst ev
          cases b with
          | true =>
          have er2 : (if lenOk acc then (evalE C elt env4).nox.bind fun o env3 => evalComp (fun e => evalE C elt e) t (fun e => evalCond C cd e) own (ds.drop (i + 1)) (wipeE env3 own) (acc ++ [o]) else .no) = rr := er2
          refine ⟨true, rfl, iteT ?_⟩
          split at er2
          · rename_i hlen
            refine ⟨F4, _, env4, hl4, s5.tail, ?_⟩
            cases e3 : evalE C elt env4 with
            | no => rw [e3] at er2; subst er2; exact False.elim post
            | ex c ds => rw [e3] at er2; subst er2; exact False.elim post
            | ok oo env5 =>
              rw [e3] at er2
              intro y H5 F5 hl5 s6 sF5 p5
              have s7 : Hs X.K FA w F5 H5 ((some (.ref D), .l acc) :: (some y, oo) :: (lv σ2 env5 ++ (hid σ env1 own ++ ts))) := s6.swapTemp
              obtain ⟨a', vs', ea, hv5, hvl⟩ := s7.own
              obtain rfl : D = a' := V.ref.inj ea
              refine ⟨vs', hv5, ?_, by omega, by omega, F5, wipeE env5 own, acc ++ [oo], vs' ++ [y], ((sF2.trans sF3).trans sF4).trans sF5, by rw [wipeE_len, hl5, hl2'], fun j m => getE_wipe m, ?_, upd_same, er2, fun z => ?_⟩
              · rw [hvl]
                have := of_decide_eq_true (show decide (acc.length < 2 ^ 20) = true from hlen)
                have e24 : (sizeLine : Nat) = 2 ^ 24 := rfl
                omega
              · have s8 := Hs.append hv5 s7
                have s9 := s8.toTemp.wipe (is := own) hl5
                rw [ew] at s9
                exact s9.ofTemp
              · have z' := Bool.and_eq_true_iff.mp z
                obtain ⟨q1, A, q2, q3⟩ := p2 z
                obtain ⟨q4, q5⟩ := p4 z'.2
                obtain ⟨q6, B, q7, q8⟩ := p5 z'.1
                have sb : Sub H2 H5 := (sH3.trans q4).trans q6
                -- what is in the new list stood as it was but for the list itself
                have ev : vs' = vs := by
                  have := sb _ _ hv2
                  rw [hv5] at this
                  cases this; rfl
                subst ev
                have hA : RepOs X.K FA F5 (upd H5 D (.lst (vs' ++ [y]))) vs' acc A := by
                  have a1 : RepOs X.K FA F5 H5 vs' acc A := q2.frame ((sF3.trans sF4).trans sF5) (fun a m => by
                    obtain ⟨xs, e⟩ := q2.dom a m
                    rw [e]; exact sb _ _ e) sb.tups
                  refine a1.frame (Sub.refl _) (fun a m => upd_ne fun e => ?_) (fun a xs e => ?_)
                  · subst e
                    obtain ⟨hr, C', rC, nd, _⟩ := s7
                    cases rC with
                    | cons h1 r1 =>
                      cases h1 with
                      | l h2 r2 =>
                        rw [hv5] at h2; cases h2
                        have := a1.uniq r2
                        subst this
                        exact (List.nodup_cons.mp nd).1 (List.mem_append_left _ m)
                  · by_cases z : a = D
                    · subst z; rw [hv5] at e; cases e
                    · rw [upd_ne z]; exact e
                have hB : RepO X.K FA F5 (upd H5 D (.lst (vs' ++ [y]))) y oo B := by
                  refine q7.frame (Sub.refl _) (fun a m => upd_ne fun e => ?_) (fun a xs e => ?_)
                  · subst e
                    have := q8 a m
                    rw [(sH3.trans q4) _ _ hv2] at this
                    cases this
                  · by_cases z : a = D
                    · subst z; rw [hv5] at e; cases e
                    · rw [upd_ne z]; exact e
                refine ⟨fun a ob e => ?_, A ++ (B ++ []), hA.append (RepOs.cons hB .nil), fun a m => ?_⟩
                · have : a ≠ D := fun z => by rw [z, hD] at e; cases e
                  rw [upd_ne this]; exact sb _ _ (q1 _ _ e)
                · rcases List.mem_append.mp m with m | m
                  · exact q3 a m
                  · rw [List.append_nil] at m
                    have n4 := q8 a m
                    cases e : H1 a with
                    | none => rfl
                    | some ob => rw [(sH3.trans q4) _ _ (q1 _ _ e)] at n4; cases n4
          · subst er2; exact False.elim post
          | false =>
          have er2 : evalComp (fun e => evalE C elt e) t (fun e => evalCond C cd e) own (ds.drop (i + 1)) (wipeE env4 own) acc = rr := er2
          refine ⟨false, rfl, iteF ⟨rfl, by omega, F4, wipeE env4 own, acc, ?_⟩⟩
          have s6 : Hs X.K FA w F4 H4 (lv σ2 env4 ++ ((some (.ref D), .l acc) :: (hid σ env1 own ++ ts))) := s5.tail
          obtain ⟨a', vs', ea, hv4, hvl⟩ := s6.ofTemp.own
          obtain rfl : D = a' := V.ref.inj ea
          have s7 := s6.wipe (is := own) hl4
          rw [ew] at s7
          refine ⟨vs', (sF2.trans sF3).trans sF4, by rw [wipeE_len, hl4, hl2'], fun j m => getE_wipe m, s7.ofTemp, hv4, er2, fun z => ?_⟩
          have z' := Bool.and_eq_true_iff.mp z
          obtain ⟨q1, A, q2, q3⟩ := p2 z
          obtain ⟨q4, q5⟩ := p4 z'.2
          have sb : Sub H2 H4 := sH3.trans q4
          have ev : vs' = vs := by
            have := sb _ _ hv2
            rw [hv4] at this
            cases this; rfl
          subst ev
          exact ⟨q1.trans sb, A, q2.frame (sF3.trans sF4) (fun a m => by
            obtain ⟨xs, e⟩ := q2.dom a m
            rw [e]; exact sb _ _ e) sb.tups, q3⟩
        | _ => subst er2; exact False.elim post
  · -- the end
    left
    refine ⟨wk.stop i H2 F2 sF2 s2.1.sub (by omega), ?_⟩
    have e0 : ds.drop i = [] := List.drop_eq_nil_iff.mpr (by omega)
    rw [e0] at er2
    unfold evalComp at er2
    subst er2
    have s3 : Hs X.K FA w F2 H2 (lv (wipe σ own) env2 ++ (hid σ env1 own ++ ((some (.ref D), .l acc) :: ts))) := by
      refine s2.perm ?_
      refine List.Perm.trans (List.perm_middle.symm) ?_
      exact (List.perm_middle.symm).append_left _
    have s4 := s3.unhide hnd hl1 (hl2.trans rfl) hn2 (fun j m o e => (s1.slots hl1) j o e)
    have s5 := s4.ofTemp
    have hl4 : (restore env1 env2 own).length = σ.length := by rw [restore_len, hl2]
    have post : okE X.K FA w (pureX (.comp elt t it cd own)) σ F H ts Q (.l acc) (if ((pureX elt && pureIt it) && pureXo cd) && O.cleans acc then env else restore env1 env2 own) := post
    have fr : (pureX elt && pureXo cd) = true → Sub H1 H2 ∧ Fresh X.K FA F2 H1 H2 (.ref D) (.l acc) := fun z => by
      obtain ⟨q1, A, q2, q3⟩ := p2 z
      refine ⟨q1, D :: A, .l hv2 q2, fun a m => ?_⟩
      rcases List.mem_cons.mp m with e | m
      · rw [e]; exact hD
      · exact q3 a m
    split at post
    · rename_i hz
      have hz' := Bool.and_eq_true_iff.mp hz
      have z2 := pp hz'.1
      have z3 := Bool.and_eq_true_iff.mp z2.1
      obtain ⟨q1, q2⟩ := fr (by rw [z3.1, z2.2]; rfl)
      have sH := (p1 z3.2).trans q1
      obtain ⟨F5, sF5, fr5, s6⟩ := Hs.restore s0 s5 sH (sF1.trans sF2) (q2.weak (p1 z3.2)) (by simpa [O.clean] using hz'.2)
      exact post _ H2 F5 hl s6 sF5 fun _ => ⟨sH, fr5⟩
    · refine post _ H2 F2 hl4 s5 (sF1.trans sF2) fun z => ?_
      have z2 := pp z
      have z3 := Bool.and_eq_true_iff.mp z2.1
      obtain ⟨q1, q2⟩ := fr (by rw [z3.1, z2.2]; rfl)
      exact ⟨(p1 z3.2).trans q1, q2.weak (p1 z3.2)⟩
theorem c_comp {elt : RF.X} {t : Tg} {it : RF.It} {cd : Xo} {own : List Nat} {u tg iu : Expr} {ifs : List Expr} {sc' : Scope} {pos : Pos} (c : Cok Nm FA CA C X W) (r : ScR X sc)
    (hb : BlkOk X.N X.env.scope sc' (ownOf X.N own)) (hnd : own.Nodup) (hin : ∀ i ∈ tgSlots t, i ∈ own) (hlt : ∀ i ∈ own, i < X.N.length) (hf : ∀ x, foldedSetIterable iu X.env x = pure x)
    (hi : PI X tg iu (tIt X.K FA CA W w C it)) (hg : ∀ s H cenv fp, (∃ C' cl, cenv = compEnvC sc' cl C' X.env) → L2.PG (X.blk s H sc' cenv fp) tg (tTg' X.K FA w X.N.length t))
    (ht : ∀ s H cenv fp, (∃ C' cl, cenv = compEnvC sc' cl C' X.env) → PTs (X.blk s H sc' cenv fp) ifs (tCond X.K FA CA w C cd)) (he : ∀ s H cenv fp, (∃ C' cl, cenv = compEnvC sc' cl C' X.env) → PE (X.blk s H sc' cenv fp) u (tE X.K FA CA WF w C elt))
    (hσ : ∀ pins s σ H, L2.Inv X pins σ H s → σ.length = X.N.length) : PE X (.ListComp u [⟨tg, iu, ifs, 0⟩] sc' pos) (tE X.K FA CA W w C (.comp elt t it cd own)) := by
  have key := @i_comp FA CA C X W w elt t it cd own hnd hin
  have eo : (ownOf X.N own).map (·.2) = own := by
    unfold ownOf
    rw [List.map_map]
    exact List.map_id' _
  refine ⟨fun pins s σ H Q I h => ?_⟩
  refine (pe_lc c.calm c.nd hi hb (fun s H C' cl fp => hg s H _ fp ⟨C', cl, rfl⟩) (fun s H C' cl fp => ht s H _ fp ⟨C', cl, rfl⟩) (fun s H C' cl fp => he s H _ fp ⟨C', cl, rfl⟩) hf).run pins s σ H Q I ?_
  rw [eo]
  exact key σ H Q (hσ _ _ _ _ I) h
end
end RF
/-! RFo: pops; conditions. -/
namespace RF
open L2 PySem PySem.Spec PyProof.Rows
section
variable {Nm : Names} {FA : Fns} {CA : Nat → Option Addr} {C : Cfg} {X : Cx} {W : WX} {w : W0} {sc : Scope}
variable {σ : L2.St} {F F' F1 H H' H1 : Hp} {ts : List (Option V × O)} {Q Q1 : VK} {pu pu1 fl : Bool}
theorem c_pop {i : Nat} {x m : Str} {px p pos : Pos} (r : ScR X sc) (hv : visB X.N sc i x = true) (hm : (m == "pop") = true) (hl : (p.endLine == pos.line) = true) :
    PE X (.Call (.Attribute (.Name x px) m p) [] [] pos) (tE X.K FA CA W w C (.pop i)) := by
  obtain rfl : m = "pop" := by simpa using hm
  refine PE.imp (pe_bm0 (T := "list") PySem.F.plainAttrs_list PySem.F.slot_list_pop PySem.F.type_list_pop mt_pop (pe_slot r hv) (by rfl) hl) fun σ H Q ⟨F, ts, env, hl, s, post⟩ => ?_
  unfold evalE at post
  cases e : getE env i with
  | none => rw [e] at post; exact False.elim post
  | some o =>
    rw [e] at post
    cases o with
    | z d => exact False.elim post
    | t os => exact False.elim post
    | l os =>
      have post : Post X.K FA CA W w (pureX (.pop i)) σ F H ts Q (match os[os.length - 1]? with | some o => .ok o (env.set i (some (.l os.dropLast))) | none => .no) := post
      cases e2 : os[os.length - 1]? with
      | none => rw [e2] at post; exact False.elim post
      | some o =>
        rw [e2] at post
        obtain ⟨v, e1, s1⟩ := s.take hl e
        obtain ⟨a, vs, rfl, hv, hvl⟩ := s1.own
        obtain ⟨y, e3, s2⟩ := s1.erase hv e2
        refine ⟨_, e1, Or.inl ⟨rfl, _, Or.inl (Or.inl hv)⟩, a, vs, y, rfl, rfl, hv, by rw [hvl]; exact e3, ?_⟩
        rw [PyProof.Rows.Copied.eraseIdx_last, ← hvl, PyProof.Rows.Copied.eraseIdx_last] at s2
        have s3 := s2.perm ((List.Perm.swap _ _ _).trans (List.Perm.cons _ List.perm_middle.symm))
        have s4 := (Hs.back hl e1 s3).ofTemp
        exact post y _ F (by rw [List.length_set]; exact hl) s4 (Sub.refl _) fun z => nomatch (show false = true from z)
theorem c_popAt {i : Nat} {k : RF.X} {u : Expr} {x m : Str} {px p pos : Pos} (r : ScR X sc) (hv : visB X.N sc i x = true) (hm : (m == "pop") = true) (hl : (p.endLine == pos.line) = true) (hi : isE Nm X.N k sc u = true) (hk : PE X u (tE X.K FA CA W w C k)) :
    PE X (.Call (.Attribute (.Name x px) m p) [u] [] pos) (tE X.K FA CA W w C (.popAt i k)) := by
  obtain rfl : m = "pop" := by simpa using hm
  refine PE.imp (pe_bm (T := "list") PySem.F.plainAttrs_list PySem.F.slot_list_pop PySem.F.type_list_pop mt_popAt (pe_slot r hv) (pa_cons hk pa_nil (star_cons hi)) (by rfl) (by rw [star_cons hi]; rfl) hl (star_cons hi) (by rfl)) fun σ H Q ⟨F, ts, env, hl, s, post⟩ => ?_
  unfold evalE at post
  cases e : getE env i with
  | none => rw [e] at post; exact False.elim post
  | some o =>
    rw [e] at post
    cases o with
    | z d => exact False.elim post
    | t os => exact False.elim post
    | l os0 =>
      obtain ⟨v, e1, s1⟩ := s.take hl e
      obtain ⟨a, vs0, rfl, hv0, hvl0⟩ := s1.own
      refine ⟨_, e1, Or.inl ⟨rfl, _, Or.inl (Or.inl hv0)⟩, F, ts, env, hl, s, ?_⟩
      refine bindE post fun o env1 x H1 F1 _ hl1 s1 sF1 p1 post => ?_
      have post := post.rebase sF1 (H1 := H1) fun z => nomatch (show false = true from z)
      cases o with
      | l _ => exact False.elim post
      | t _ => exact False.elim post
      | z d =>
      cases d with
      | int j =>
        have ev := RepV.int (.rep s1.rep : RepV X.K FA F1 H1 x _)
        subst ev
        cases e2 : getE env1 i with
        | none => rw [e2] at post; exact False.elim post
        | some o =>
          rw [e2] at post
          cases o with
          | z d => exact False.elim post
          | t os => exact False.elim post
          | l os =>
            have post : Post X.K FA CA W w (pureX (.popAt i k)) σ F1 H1 ts Q (match (if lenOk os then L2.ixN os.length j else none) with | some q => (match os[q]? with | some o => .ok o (env1.set i (some (.l (os.eraseIdx q)))) | none => .no) | none => .no) := post
            have hlen : lenOk os = true ∨ lenOk os = false := by cases lenOk os <;> simp
            rcases hlen with hlen | hlen
            rotate_left
            · rw [hlen] at post; exact False.elim post
            rw [hlen] at post
            have post : Post X.K FA CA W w (pureX (.popAt i k)) σ F1 H1 ts Q (match L2.ixN os.length j with | some q => (match os[q]? with | some o => .ok o (env1.set i (some (.l (os.eraseIdx q)))) | none => .no) | none => .no) := post
            have hlen2 : os.length < 2 ^ 20 := of_decide_eq_true (show decide (os.length < 2 ^ 20) = true from hlen)
            cases e3 : L2.ixN os.length j with
            | none => rw [e3] at post; exact False.elim post
            | some q =>
              rw [e3] at post
              have post : Post X.K FA CA W w (pureX (.popAt i k)) σ F1 H1 ts Q (match os[q]? with | some o => .ok o (env1.set i (some (.l (os.eraseIdx q)))) | none => .no) := post
              cases e4 : os[q]? with
              | none => rw [e4] at post; exact False.elim post
              | some o =>
                rw [e4] at post
                obtain ⟨v, e5, s2⟩ := s1.tail.take hl1 e2
                rw [e1] at e5
                obtain rfl : V.ref a = v := by simpa using e5
                obtain ⟨a', vs, ea, hv, hvl⟩ := s2.own
                cases ea
                obtain ⟨y, e6, s3⟩ := s2.erase hv e4
                obtain ⟨q1, q2, q3, q4⟩ := ixN_seq e3
                refine ⟨a, vs, j, q, y, rfl, rfl, hv, by omega, by omega, by rw [hvl]; exact q1, e6, ?_⟩
                have s4 := s3.perm ((List.Perm.swap _ _ _).trans (List.Perm.cons _ List.perm_middle.symm))
                have s5 := (Hs.back hl1 e1 s4).ofTemp
                exact post y _ F1 (by rw [List.length_set]; exact hl1) s5 (Sub.refl _) fun z => nomatch (show false = true from z)
      | _ => exact False.elim post
/-! ### a lambda is made -/
theorem clo_nil {cells : List (Str × Addr)} : ∀ {names : List (Str × NameKind)} {acc : List (Str × Addr)}, (∀ y ∈ names, y.2 ≠ .free) → cloFrom cells names acc = acc
  | [], _, _ => rfl
  | (n, k) :: r, acc, h => by
    have hk : ¬ (k == NameKind.free) = true := fun z => h (n, k) List.mem_cons_self (by simpa using z)
    unfold cloFrom
    rw [if_neg hk]
    exact clo_nil fun y m => h y (List.mem_cons_of_mem _ m)
theorem track_lam {pins : List (Addr × Obj)} {s : Shared} {L : LamD} {d : Addr} {pm ctv : Value} {t' : Nat} (I : Inv X pins σ H s) :
    Inv X pins σ (upd H s.heap.objs.size (LamO s.heap.objs.size d L pm ctv)) { s with heap := s.heap.push { cls := .type "function", data := .func (L.fd d pm ctv) }, toks := t' } := by
  have e : (s.heap.push ({ cls := .type "function", data := .func (L.fd d pm ctv) } : Obj)).get? s.heap.objs.size = some ({ cls := .type "function", data := .func (L.fd d pm ctv) } : Obj) := Heap.get?_push_size _ rfl
  exact I.laid (fun b u q => Heap.get?_push_of_some _ q) (Nat.le_refl _) ⟨⟨_, _, e⟩, ⟨_, e⟩, fun h1 h2 ⟨od, sl, z⟩ st => ⟨od, sl, st _ z⟩⟩
theorem lam_mk {pins : List (Addr × Obj)} {s : Shared} {T : List (Addr × Str)} {c P : Addr} {L : LamD} {pos : Pos} {E : Value → Shared → Prop} {Qv : Value → Shared → Prop} (I : Inv X pins σ H s) (tb : LamX.TabB X.base X.mg c P) (ec : X.env.code = .ref c)
    (hq : L.qual = X.env.qual ++ "<lambda>") (mem : (P, L.qual) ∈ T) (one : ∀ p ∈ T, p.1 = P → p.2 = L.qual) (tT : LamX.Tabs T H) (hd : defaultsOf L.params X.env = ([], [])) (nf : ∀ y ∈ L.scope.names, y.2 ≠ .free)
    (k : ∀ f d pm ctv H1 s', Inv X pins σ H1 s' → (∀ b, b ≠ f → b ≠ d → b ≠ P → H1 b = H b) → LamX.Tabs T H1 → (∃ ps, H P = some (.tbl ps)) → H f = none → H1 f = some (LamO f d L pm ctv) → H1 d = some (LamX.CodeO d L.qual) → (H d = none ∨ H d = H1 d) → f ≠ d → Qv (.ref f) s') :
    wpAny (model X.prog X.w) X.A (eval (.Lambda L.params L.body L.scope pos) X.env) Qv E s := by
  obtain ⟨ps, tP, tr, tc⟩ := tT _ mem
  have clos : closureFor L.scope X.env = pure [] := by
    rw [closure_ok (env := X.env) (scope := L.scope) fun y m e => absurd e (nf y m), clo_nil nf]
  have objP : s.heap.get? P = some { cls := .none, data := .fields ps } := I.hok P _ tP
  refine PySem.W.kla_eval hd ?_
  rw [← hq]
  cases look : codeAmong pos ps.toList with
  | some cv =>
    obtain ⟨d, rfl, ed⟩ := tc pos cv look
    refine PySem.W.kla_makeFunctionHit (mg := X.mg) (c := c) (P := P) (ps := ps) clos I.ok.glob (I.mod.glob.keeps I.bk) ec (tb.code.keeps I.bk) objP tr look (tb.bm.keeps I.bk) fun ctv h' tk keep size => ?_
    have I1 : Inv X pins σ H { s with heap := h', toks := tk } := I.kept keep
    have new : H h'.objs.size = none := I1.hok.fresh (Nat.le_refl _)
    have I2 := track_lam (L := L) (d := d) (pm := (X.mg "__name__").getD .none) (ctv := ctv) (t' := tk) I1
    have nd : d ≠ h'.objs.size := ne_of_none ed new
    have old : ∀ b o, H b = some o → upd H h'.objs.size (LamO h'.objs.size d L ((X.mg "__name__").getD .none) ctv) b = some o := fun b o e => by rw [upd_ne (ne_of_none e new)]; exact e
    exact k h'.objs.size d _ ctv _ _ I2 (fun b z _ _ => upd_ne z) (tT.ext old) ⟨ps, tP⟩ new upd_same (old _ _ ed) (.inr (by rw [ed, old _ _ ed])) (Ne.symm nd)
  | none =>
    refine PySem.W.kla_makeFunction (mg := X.mg) (c := c) (P := P) (ps := ps) clos I.ok.glob (I.mod.glob.keeps I.bk) ec (tb.code.keeps I.bk) objP tr look tb.gP (tb.bm.keeps I.bk) fun d ctv h' tk keep ge lt rec tab => ?_
    obtain ⟨d2, oc, vs, t, e2, o1, o2, o3⟩ := rec
    cases e2
    have newD : H d = none := I.hok.fresh ge
    have I1 := LamX.inv_table (t' := tk) (more := #[rawInt pos.line, rawInt pos.col, .ref d]) (h' := h') I tP (fun b o z e => keep b o z e) tab ge ⟨oc, vs, t, o1, o2, o3⟩
    have newF := I1.hok.fresh (a := h'.objs.size) (Nat.le_refl _)
    have I2 := track_lam (L := L) (d := d) (pm := (X.mg "__name__").getD .none) (ctv := ctv) (t' := tk) I1
    have nPd : P ≠ d := ne_of_none tP newD
    have nfd : h'.objs.size ≠ d := Nat.ne_of_gt lt
    generalize hH1 : upd (upd H P (.tbl (ps ++ #[rawInt pos.line, rawInt pos.col, .ref d]))) d (LamX.CodeO d L.qual) = H1 at I1 newF I2
    have atD : H1 d = some (LamX.CodeO d L.qual) := by rw [← hH1]; exact upd_same
    have atP : H1 P = some (.tbl (ps ++ #[rawInt pos.line, rawInt pos.col, .ref d])) := by rw [← hH1, upd_ne nPd]; exact upd_same
    have rest : ∀ b, b ≠ d → b ≠ P → H1 b = H b := fun b z1 z2 => by rw [← hH1, upd_ne z1, upd_ne z2]
    have keepN : ∀ b o, H b = some o → (∀ ps, o ≠ .tbl ps) → H1 b = some o := fun b o e n => by
      rw [rest b (ne_of_none e newD) (fun z => by rw [z, tP] at e; cases e; exact n _ rfl)]; exact e
    have old : ∀ b o, H1 b = some o → upd H1 h'.objs.size (LamO h'.objs.size d L ((X.mg "__name__").getD .none) ctv) b = some o := fun b o e => by rw [upd_ne (ne_of_none e newF)]; exact e
    have newF0 : H h'.objs.size = none := I.hok.fresh (Nat.le_trans ge (Nat.le_of_lt lt))
    have T1 : LamX.Tabs T H1 := fun p hp => by
      by_cases z : p.1 = P
      · have eL : (ps ++ #[rawInt pos.line, rawInt pos.col, .ref d]).toList = ps.toList ++ [rawInt pos.line, rawInt pos.col, .ref d] := by simp
        rw [z, one p hp z]
        refine ⟨_, atP, by rw [eL]; exact PySem.TriplesOk_snoc _ _ _ _ tr, fun p' cv hcv => ?_⟩
        rw [eL] at hcv
        rcases LamX.among_app _ tr hcv with y | y
        · obtain ⟨c0, y1, y2⟩ := tc p' cv y
          exact ⟨c0, y1, keepN _ _ y2 LamX.codeO_ne⟩
        · exact ⟨d, y, atD⟩
      · obtain ⟨ps', y1, y2, y3⟩ := tT p hp
        refine ⟨ps', by rw [rest _ (ne_of_none y1 newD) z]; exact y1, y2, fun p' cv hcv => ?_⟩
        obtain ⟨c0, x1, x2⟩ := y3 p' cv hcv
        exact ⟨c0, x1, keepN _ _ x2 LamX.codeO_ne⟩
    exact k h'.objs.size d _ ctv _ _ I2 (fun b z1 z2 z3 => by rw [upd_ne z1, rest b z2 z3]) (T1.ext old) ⟨ps, tP⟩ newF0 upd_same (old _ _ atD) (.inl newD) nfd
theorem c_lam {k : Nat} {params : Arguments} {body : Expr} {scope : Scope} {pos : Pos} (m : MkOk Nm FA X w) (hk : Nm.lamB k params scope body = true) : PE X (.Lambda params body scope pos) (tE X.K FA CA W w C (.lam k [])) := by
  refine ⟨fun pins s σ H Q I h => ?_⟩
  obtain ⟨F, ts, env, hl, s0, post⟩ := h
  unfold evalE at post
  obtain ⟨c, P, ec, tb, m1, m2, m3⟩ := m.tab
  obtain ⟨l1, l2, l3⟩ := m.ml k params scope body hk
  have hr := s0.1
  refine lam_mk (L := ⟨X.env.qual ++ "<lambda>", params, body, scope⟩) I tb ec rfl m1 m2 hr.tabs (l3 _) l2 fun f d pm ctv H1 s' I1 rest T1 ⟨ps, tP⟩ nF eF eD oD nfd => ?_
  have post : Post X.K FA CA W w (pureX (.lam k [])) σ F H ts Q (.ok (.z (.clo k [])) env) := post
  have Ff : F f = none := by
    cases e : F f with
    | none => rfl
    | some o => rw [hr.sub _ _ e] at nF; cases nF
  have Fd : ∀ o, F d = some o → o = LamX.CodeO d (X.env.qual ++ "<lambda>") := fun o e => by
    have e1 := hr.sub _ _ e
    rcases oD with z | z
    · rw [z] at e1; cases e1
    · rw [z, eD] at e1; exact (Option.some.inj e1).symm
  have nP : ∀ b o, H b = some o → (∀ ps, o ≠ .tbl ps) → b ≠ P := fun b o e n z => by rw [z, tP] at e; cases e; exact n _ rfl
  have old : ∀ b o, H b = some o → (∀ ps, o ≠ .tbl ps) → H1 b = some o := fun b o e n => by
    by_cases z : b = d
    · rcases oD with y | y
      · rw [z, y] at e; cases e
      · rw [z] at e ⊢; rw [← y]; exact e
    · rw [rest b (ne_of_none e nF) z (nP b o e n)]; exact e
  let F1 : Hp := upd (upd F d (LamX.CodeO d (X.env.qual ++ "<lambda>"))) f (LamO f d ⟨X.env.qual ++ "<lambda>", params, body, scope⟩ pm ctv)
  have F1f : F1 f = some (LamO f d ⟨X.env.qual ++ "<lambda>", params, body, scope⟩ pm ctv) := upd_same
  have F1d : F1 d = some (LamX.CodeO d (X.env.qual ++ "<lambda>")) := by show upd (upd F d _) f _ d = _; rw [upd_ne (Ne.symm nfd)]; exact upd_same
  have F1o : ∀ b, b ≠ f → b ≠ d → F1 b = F b := fun b z1 z2 => by show upd (upd F d _) f _ b = _; rw [upd_ne z1, upd_ne z2]
  have sF : Sub F F1 := fun b o e => by
    by_cases z1 : b = f
    · rw [z1, Ff] at e; cases e
    · by_cases z2 : b = d
      · rw [z2] at e ⊢; rw [F1d, Fd o e]
      · rw [F1o b z1 z2]; exact e
  have lamN : ∀ xs, LamO f d ⟨X.env.qual ++ "<lambda>", params, body, scope⟩ pm ctv ≠ .lst xs := fun xs z => by unfold LamO at z; cases z
  have codN : ∀ xs, LamX.CodeO d (X.env.qual ++ "<lambda>") ≠ .lst xs := fun xs z => by unfold LamX.CodeO at z; cases z
  have codT : ∀ xs, LamX.CodeO d (X.env.qual ++ "<lambda>") ≠ .tup xs := fun xs z => by unfold LamX.CodeO at z; cases z
  have lamT : ∀ xs, LamO f d ⟨X.env.qual ++ "<lambda>", params, body, scope⟩ pm ctv ≠ .tup xs := fun xs z => by unfold LamO at z; cases z
  have lamB : ∀ xs, LamO f d ⟨X.env.qual ++ "<lambda>", params, body, scope⟩ pm ctv ≠ .tbl xs := fun xs z => by unfold LamO at z; cases z
  obtain ⟨psP, eP, _⟩ := T1 _ m1
  have hr1 : HR w F1 H1 := by
    refine ⟨fun b o e => ?_, hr.sub0.trans sF, fun b o e => ?_, fun b o e mm => ?_, fun b e => ?_, fun b xs e => ?_, T1, fun b xs e => ?_⟩
    · by_cases z1 : b = f
      · rw [z1] at e ⊢; rw [eF, ← F1f]; exact e
      · by_cases z2 : b = d
        · rw [z2] at e ⊢; rw [eD, ← F1d]; exact e
        · rw [F1o b z1 z2] at e
          exact old b o (hr.sub _ _ e) fun xs z => hr.ntb b xs (by rw [e, z])
    · by_cases z1 : b = f
      · exact .inr (.inl (hr.dom b (by rw [z1]; exact nF)))
      · by_cases z2 : b = d
        · rw [z2] at e ⊢
          rw [F1d] at e
          obtain rfl := Option.some.inj e
          rcases oD with y | y
          · exact .inr (.inl (hr.dom d y))
          · cases q : w.H0 d with
            | none => exact .inr (.inl rfl)
            | some o' =>
              by_cases mm : d ∈ w.M
              · exact .inr (.inr (.inl mm))
              · have e1 := hr.keep d o' q mm
                rw [y, eD] at e1
                exact .inr (.inr (.inr ⟨e1.symm, codN⟩))
        · rw [F1o b z1 z2] at e; exact hr.new b o e
    · have e1 := hr.keep b o e mm
      by_cases z2 : b = d
      · rcases oD with y | y
        · rw [z2, y] at e1; cases e1
        · rw [z2] at e1 ⊢; rw [← y]; exact e1
      · rw [rest b (ne_of_none e1 nF) z2 (fun z => mm (z ▸ m3))]; exact e1
    · refine hr.dom b ?_
      rw [← rest b (fun z => by rw [z, eF] at e; cases e) (fun z => by rw [z, eD] at e; cases e) (fun z => by rw [z, eP] at e; cases e)]
      exact e
    · have z1 : b ≠ f := fun z => by rw [z, eF] at e; exact lamT _ (Option.some.inj e)
      have z2 : b ≠ d := fun z => by rw [z, eD] at e; exact codT _ (Option.some.inj e)
      have z3 : b ≠ P := fun z => by rw [z, eP] at e; cases e
      rw [rest b z1 z2 z3] at e
      exact sF _ _ (hr.tups b xs e)
    · by_cases z1 : b = f
      · rw [z1, F1f] at e; exact lamB _ (Option.some.inj e)
      · by_cases z2 : b = d
        · rw [z2, F1d] at e; exact LamX.codeO_ne _ (Option.some.inj e)
        · rw [F1o b z1 z2] at e; exact hr.ntb b xs e
  have tp : Tups H H1 := fun b xs e => old b _ e fun ps z => by cases z
  have s1 : Hs X.K FA w F1 H1 (lv σ env ++ ts) := by
    obtain ⟨_, A, rA, nd, q⟩ := s0
    refine ⟨hr1, A, rA.frame sF (fun a ma => ?_) tp, nd, fun a ma => ⟨?_, (q a ma).2⟩⟩
    · obtain ⟨xs, e⟩ := rA.dom a ma
      rw [e]; exact old a _ e fun ps z => by cases z
    · obtain ⟨xs, e⟩ := rA.dom a ma
      rw [F1o a (ne_of_none e nF) (fun z => by
        rcases oD with y | y
        · rw [z, y] at e; cases e
        · rw [z, y, eD] at e; exact codN _ (Option.some.inj e))]
      exact (q a ma).1
  exact ⟨.ref f, H1, I1, rfl, post (.ref f) H1 F1 hl (s1.add (.clo l1 F1f F1d)) sF fun z => nomatch (show false = true from z)⟩
end
end RF
/-! RFp: every expression. -/
namespace RF
open L2 PySem PySem.Spec PyProof.Rows
section
variable {Nm : Names} {FA : Fns} {CA : Nat → Option Addr} {C : Cfg} {X : Cx} {W : WX} {w : W0} {sc : Scope}
theorem lookup_rel_free {sc : Scope} : ∀ {names : List (Str × NameKind)} {x : Str}, names.lookup x = some .free →
    (names.map fun (n, k) => if (k == NameKind.free && sc.kind == .function && sc.names.lookup n == some .cell) then (n, NameKind.cell) else (n, k)).lookup x = some .cell ∨
    (names.map fun (n, k) => if (k == NameKind.free && sc.kind == .function && sc.names.lookup n == some .cell) then (n, NameKind.cell) else (n, k)).lookup x = some .free
  | [], _, h => by simp at h
  | (n, k₀) :: r, x, h => by
    have ih := @lookup_rel_free sc r x
    show List.lookup x ((if (k₀ == NameKind.free && sc.kind == .function && sc.names.lookup n == some .cell) = true then (n, NameKind.cell) else (n, k₀)) :: (r.map _)) = some .cell ∨
      List.lookup x ((if (k₀ == NameKind.free && sc.kind == .function && sc.names.lookup n == some .cell) = true then (n, NameKind.cell) else (n, k₀)) :: (r.map _)) = some .free
    cases hx : x == n with
    | true =>
      simp only [List.lookup_cons, hx] at h
      cases h
      by_cases hc : (NameKind.free == NameKind.free && sc.kind == .function && sc.names.lookup n == some .cell) = true
      · rw [if_pos hc]; left; simp only [List.lookup_cons, hx]
      · rw [if_neg hc]; right; simp only [List.lookup_cons, hx]
    | false =>
      simp only [List.lookup_cons, hx] at h
      by_cases hc : (k₀ == NameKind.free && sc.kind == .function && sc.names.lookup n == some .cell) = true
      · rw [if_pos hc]; simp only [List.lookup_cons, hx]; exact ih h
      · rw [if_neg hc]; simp only [List.lookup_cons, hx]; exact ih h
theorem ScR.blk {sc' : Scope} {s : Shared} {H : Hp} {C' : Addr} {cl : List (Str × Addr)} {fp : List Addr} : ScR (X.blk s H sc' (compEnvC sc' cl C' X.env) fp) sc' where
  loc x h := lookup_relabel_local h
  cell x h := ⟨lookup_relS_keep (sc := X.env.scope) (by decide) h, by show (sc'.names.lookup x == some .cell) = true; rw [show sc'.names.lookup x = some .cell from h]; rfl⟩
  free x h := lookup_rel_free (sc := X.env.scope) h
  glob x h := lookup_relS_keep (sc := X.env.scope) (by decide) h
theorem ScM.blk {sc' : Scope} {s : Shared} {H : Hp} {C' : Addr} {cl : List (Str × Addr)} {fp : List Addr} (q : ScM Nm FA X w sc) : ScM Nm FA (X.blk s H sc' (compEnvC sc' cl C' X.env) fp) w sc' where
  toScR := ScR.blk
  mks m := ⟨(q.mks m).tab, (q.mks m).ml⟩
theorem blkOk_sc {sc' : Scope} {own : List (Str × Nat)} {N : List Str} (r : ScR X sc) (h : blkC N sc sc' own = true) : BlkOk N X.env.scope sc' own := by
  have b := blkOk_by h
  refine ⟨b.kind, b.uniq, b.ix, fun y hy e => ?_, b.own⟩
  rcases b.free y hy e with z | z
  · exact .inl (r.cell _ z).1
  · exact r.free _ z
theorem isEs_len {N : List Str} : ∀ {es : Xs} {us : List Expr}, isEs Nm N es sc us = true → xsLen es = us.length
  | .nil, [], _ => rfl
  | .nil, _ :: _, h => by simp [isEs] at h
  | .cons _ _, [], h => by simp [isEs] at h
  | .cons e es, u :: us, h => by
    have h' : isE Nm N e sc u = true ∧ isEs Nm N es sc us = true := by simpa [isEs] using h
    show xsLen es + 1 = us.length + 1
    rw [isEs_len h'.2]
abbrev Both (FA : Fns) (CA : Nat → Option Addr) (C : Cfg) (X : Cx) (W : WX) (w : W0) (m : RF.X) (e : Expr) : Prop := PE X e (tE X.K FA CA W w C m) ∧ PT X e (tTest (tE X.K FA CA W w C m))
theorem i_andX {es : Xs} : ∀ σ H Q, tE X.K FA CA W w C (.and es) σ H Q → tAn X.K FA CA W w C es σ H Q := fun σ H Q ⟨F, ts, env, hl, s, post⟩ => ⟨F, ts, env, hl, s, by unfold evalE at post; exact post⟩
theorem i_orX {es : Xs} : ∀ σ H Q, tE X.K FA CA W w C (.or es) σ H Q → tOr X.K FA CA W w C es σ H Q := fun σ H Q ⟨F, ts, env, hl, s, post⟩ => ⟨F, ts, env, hl, s, by unfold evalE at post; exact post⟩
theorem no_and {us : List Expr} {pos : Pos} : PE X (.BoolOp .And us pos) (tAn X.K FA CA W w C .nil) ∧ PW X (.BoolOp .And us pos) (tTest (tAn X.K FA CA W w C .nil)) :=
  ⟨⟨fun _ _ _ _ _ _ ⟨_, _, _, _, _, post⟩ => by unfold evalAnd at post; exact False.elim post⟩, ⟨fun _ _ _ _ _ _ _ ⟨_, _, _, _, _, post⟩ => by unfold evalAnd at post; exact False.elim post⟩⟩
theorem no_or {us : List Expr} {pos : Pos} : PE X (.BoolOp .Or us pos) (tOr X.K FA CA W w C .nil) ∧ PW X (.BoolOp .Or us pos) (tTest (tOr X.K FA CA W w C .nil)) :=
  ⟨⟨fun _ _ _ _ _ _ ⟨_, _, _, _, _, post⟩ => by unfold evalOr at post; exact False.elim post⟩, ⟨fun _ _ _ _ _ _ _ ⟨_, _, _, _, _, post⟩ => by unfold evalOr at post; exact False.elim post⟩⟩
theorem ands {a b : Bool} (h : (a && b) = true) : a = true ∧ b = true := Bool.and_eq_true_iff.mp h
theorem c_g (c : Cok Nm FA CA C X W) (r : ScR X sc) {f : Nat} {x : Str} {pos : Pos} (hf : Nm.fn f = some x) (hg : glB sc x = true) : PE X (.Name x pos) (tE X.K FA CA W w C (.g f)) := by
  obtain ⟨a, e⟩ := c.has f x hf
  obtain ⟨x', k, fd, e2, e3, e4, _⟩ := c.fns f a e
  rw [hf] at e2; cases e2
  obtain ⟨g1, g2⟩ := glB_ok r hg
  exact c_const (v := .ref a) (pe_glob g1 e3 rfl g2) (fun env => by unfold evalE; rfl) fun F => .fn e
theorem c_gk (c : Cok Nm FA CA C X W) (r : ScR X sc) {j : Nat} {i : Int} {x : Str} {pos : Pos} (hf : Nm.kn j = some (x, i)) (hg : glB sc x = true) : PE X (.Name x pos) (tE X.K FA CA W w C (.gk j i)) := by
  obtain ⟨t, e⟩ := c.kns j x i hf
  obtain ⟨g1, g2⟩ := glB_ok r hg
  exact c_const (v := .int i) (pe_glob g1 e ⟨t, rfl⟩ g2) (fun env => by unfold evalE; rfl) fun F => .int i
mutual
theorem sE : ∀ (m : RF.X) {X : Cx} {W : WX} {sc : Scope} {e : Expr}, Cok Nm FA CA C X W → ScM Nm FA X w sc → isE Nm X.N m sc e = true → Both FA CA C X W w m e
  | .v i, X, W, sc, e, c, q, h => by
    have r := q.toScR
    unfold isE at h; split at h
    · exact ⟨c_v r h, pt_val (c_v r h)⟩
    · cases h
  | .non, X, W, sc, e, c, q, h => by
    have r := q.toScR
    unfold isE at h; split at h
    · have k : ∀ j pos, PE X (.Constant .none j pos) (tE X.K FA CA W w C .non) := fun j pos => c_const (d := .non) pe_non (fun env => by unfold evalE; rfl) fun F => .non
      exact ⟨k _ _, pt_val (k _ _)⟩
    · cases h
  | .tt b, X, W, sc, e, c, q, h => by
    have r := q.toScR
    unfold isE at h; split at h
    · obtain rfl := eq_of_beq h
      have k : ∀ j pos, PE X (.Constant (.bool b) j pos) (tE X.K FA CA W w C (.tt b)) := fun j pos => c_const (d := .bl b) pe_bl (fun env => by unfold evalE; rfl) fun F => .bl b
      exact ⟨k _ _, pt_val (k _ _)⟩
    · cases h
  | .n i, X, W, sc, e, c, q, h => by
    have r := q.toScR
    unfold isE at h; split at h
    · obtain rfl := of_decide_eq_true h
      have k : ∀ j pos, PE X (.Constant (.int i) j pos) (tE X.K FA CA W w C (.n i)) := fun j pos => c_const (d := .int i) pe_int (fun env => by unfold evalE; rfl) fun F => .int i
      exact ⟨k _ _, pt_val (k _ _)⟩
    · cases h
  | .s x, X, W, sc, e, c, q, h => by
    have r := q.toScR
    unfold isE at h; split at h
    · obtain rfl := of_decide_eq_true h
      have k : ∀ j pos, PE X (.Constant (.str x) j pos) (tE X.K FA CA W w C (.s x)) := fun j pos => c_const (d := .str x) pe_str (fun env => by unfold evalE; rfl) fun F => .str x
      exact ⟨k _ _, pt_val (k _ _)⟩
    · cases h
  | .g f, X, W, sc, e, c, q, h => by
    have r := q.toScR
    unfold isE at h; split at h
    · refine ⟨?k1, pt_val ?k1⟩
      exact c_g c r (of_decide_eq_true (ands h).1) (ands h).2
    · cases h
  | .gk j i, X, W, sc, e, c, q, h => by
    have r := q.toScR
    unfold isE at h; split at h
    · refine ⟨?k2, pt_val ?k2⟩
      exact c_gk c r (of_decide_eq_true (ands h).1) (ands h).2
    · cases h
  | .lam f is, X, W, sc, e, c, q, h => by
    have r := q.toScR
    unfold isE at h; split at h
    · have h1 := ands h
      have h2 := ands h1.1
      have z : is = [] := by simpa using h2.2
      subst z
      refine ⟨?k0, pt_val ?k0⟩
      exact c_lam (q.mks h2.1) h1.2
    · cases h
  | .tup es, X, W, sc, e, c, q, h => by
    have r := q.toScR
    unfold isE at h; split at h
    · refine ⟨?k3, pt_val ?k3⟩
      exact c_tup (sEs es c q (ands h).1).1 (isEs_len (ands h).1) (of_decide_eq_true (ands h).2)
    · cases h
  | .lst es, X, W, sc, e, c, q, h => by
    have r := q.toScR
    unfold isE at h; split at h
    · refine ⟨?k4, pt_val ?k4⟩
      exact c_lst (sEs es c q (ands h).1).1 (isEs_len (ands h).1) (of_decide_eq_true (ands h).2)
    · cases h
  | .bin o a b, X, W, sc, e, c, q, h => by
    have r := q.toScR
    unfold isE at h; split at h
    · have h1 := ands h
      have h2 := ands h1.1
      refine ⟨?k5, pt_val ?k5⟩
      exact c_bin h2.1 (sV r h2.2 (sE a c q h2.2).1) (sV r h1.2 (sE b c q h1.2).1)
    · cases h
  | .neg a, X, W, sc, e, c, q, h => by
    have r := q.toScR
    unfold isE at h; split at h
    · refine ⟨?k6, pt_val ?k6⟩
      exact c_neg (sE a c q h).1
    · cases h
  | .cmp o a b, X, W, sc, e, c, q, h => by
    have r := q.toScR
    unfold isE at h; split at h
    · have h1 := ands h
      have h2 := ands h1.1
      have h3 := ands h2.1
      exact c_cmp c h3.1 h3.2 (sV r h2.2 (sE a c q h2.2).1) (sV r h1.2 (sE b c q h1.2).1)
    · cases h
  | .cmp2 o p a b d, X, W, sc, e, c, q, h => by
    have r := q.toScR
    unfold isE at h; split at h
    · have h1 := ands h
      have h2 := ands h1.1
      have h3 := ands h2.1
      have h4 := ands h3.1
      have h5 := ands h4.1
      exact c_cmp2 c h5.1 h5.2 h4.2 (sV r h3.2 (sE a c q h3.2).1) (sV r h2.2 (sE b c q h2.2).1) (sV r h1.2 (sE d c q h1.2).1)
    · cases h
  | .and es, X, W, sc, e, c, q, h => by
    have r := q.toScR
    unfold isE at h; split at h
    · obtain ⟨k1, k2⟩ := sAnd es c q h
      exact ⟨PE.imp k1 i_andX, PT.imp k2.pt fun _ _ _ h => i_andX _ _ _ h⟩
    · cases h
  | .or es, X, W, sc, e, c, q, h => by
    have r := q.toScR
    unfold isE at h; split at h
    · obtain ⟨k1, k2⟩ := sOr es c q h
      exact ⟨PE.imp k1 i_orX, PT.imp k2.pt fun _ _ _ h => i_orX _ _ _ h⟩
    · cases h
  | .not a, X, W, sc, e, c, q, h => by
    have r := q.toScR
    unfold isE at h; split at h
    · exact c_not (sE a c q h).1 (sE a c q h).2
    · cases h
  | .ite d a b, X, W, sc, e, c, q, h => by
    have r := q.toScR
    unfold isE at h; split at h
    · have h1 := ands h
      have h2 := ands h1.1
      have k0 := sE d c q h2.1
      have k1 := sE a c q h2.2
      have k2 := sE b c q h1.2
      exact ⟨c_ite k0.2 k1.1 k2.1, ct_ite k0.2 k1.2 k2.2⟩
    · cases h
  | .ix a i, X, W, sc, e, c, q, h => by
    have r := q.toScR
    unfold isE at h; split at h
    · have h1 := ands h
      refine ⟨?k7, pt_val ?k7⟩
      exact c_ix h1.2 (sV r h1.1 (sE a c q h1.1).1) (sE i c q h1.2).1
    · cases h
  | .sl a lo hi, X, W, sc, e, c, q, h => by
    have r := q.toScR
    unfold isE at h; split at h
    · have h1 := ands h
      have h2 := ands h1.1
      refine ⟨?k8, pt_val ?k8⟩
      exact c_sl (sV r h2.1 (sE a c q h2.1).1) (sPo lo c q h2.2) (sPo hi c q h1.2)
    · cases h
  | .rev a, X, W, sc, e, c, q, h => by
    have r := q.toScR
    unfold isE at h; split at h
    · refine ⟨?k9, pt_val ?k9⟩
      exact c_rev (sV r h (sE a c q h).1)
    · cases h
  | .call p f es, X, W, sc, e, c, q, h => by
    have r := q.toScR
    unfold isE at h; split at h
    · have h1 := ands h
      have h2 := ands h1.1
      have h3 := ands h2.1
      refine ⟨?k10, pt_val ?k10⟩
      exact c_call c r (of_decide_eq_true h3.1) h3.2 h2.2 h1.2 (sEs es c q h2.2).2.2
    · cases h
  | .callk f es ks perm, X, W, sc, e, c, q, h => by
    have r := q.toScR
    unfold isE at h; split at h
    · have h1 := ands h
      have h2 := ands h1.1
      have h3 := ands h2.1
      have h4 := ands h3.1
      have h5 := ands h4.1
      have h6 := ands h5.1
      have h7 := ands h6.1
      refine ⟨?k11, pt_val ?k11⟩
      exact c_callk c r (of_decide_eq_true h7.1) h7.2 h6.2 h5.2 h4.2 h3.2 (by simpa using h1.2) (isEs_len h6.2) (sEs es c q h6.2).1 (sKs ks c q h5.2)
    · cases h
  | .callv i es, X, W, sc, e, c, q, h => by
    have r := q.toScR
    unfold isE at h; split at h
    · have h1 := ands h
      have h2 := ands h1.1
      refine ⟨?k12, pt_val ?k12⟩
      exact c_callv c r h2.1 h2.2 h1.2 (sEs es c q h2.2).2.2
    · cases h
  | .blt b es, X, W, sc, e, c, q, h => by
    have r := q.toScR
    unfold isE at h; split at h
    · have h1 := ands h
      have h2 := ands h1.1
      have k := sBlt b es c q h2.1 h2.2 h1.2
      exact ⟨k _ _, pt_val (k _ _)⟩
    · cases h
  | .lrange it, X, W, sc, e, c, q, h => by
    have r := q.toScR
    unfold isE at h; split at h
    · have h1 := ands h
      have h2 := ands h1.1
      have h3 := ands h2.1
      have y := sRng it c q
      refine ⟨?k13, pt_val ?k13⟩
      exact c_lrange c r h3.1 h3.2 h1.2 y.1 y.2 (by cases it <;> first | rfl | exact (Bool.false_ne_true h2.2).elim)
    · cases h
  | .isi t a, X, W, sc, e, c, q, h => by
    have r := q.toScR
    unfold isE at h; split at h
    · have h1 := ands h
      have h2 := ands h1.1
      have h3 := ands h2.1
      refine ⟨?k14, pt_val ?k14⟩
      exact c_isi c r h3.1 h3.2 h2.2 h1.2 (sV r h2.2 (sE a c q h2.2).1)
    · cases h
  | .bits a, X, W, sc, e, c, q, h => by
    have r := q.toScR
    unfold isE at h; split at h
    · have h1 := ands h
      have h2 := ands h1.1
      refine ⟨?k15, pt_val ?k15⟩
      exact c_bits h2.1 h2.2 (sE a c q h1.2).1
    · cases h
  | .comp elt t it cd own, X, W, sc, e, c, q, h => by
    have r := q.toScR
    unfold isE at h; split at h
    · have h1 := ands h
      have h2 := ands h1.1
      have h3 := ands h2.1
      have h4 := ands h3.1
      have h5 := ands h4.1
      have h6 := ands h5.1
      have h7 := ands h6.1
      refine ⟨?k16, pt_val ?k16⟩
      exact c_comp c r (blkOk_sc r h7.1) (of_decide_eq_true h6.2) (fun i m => by simpa using List.all_eq_true.mp h5.2 i m)
        (fun i m => of_decide_eq_true (List.all_eq_true.mp h7.2 i m)) (isIt_fold h4.2) (sIt it c q h4.2) (fun s H cenv fp ⟨C', cl, e⟩ => by subst e; exact c_tg (c.blk ..) ScR.blk h3.2)
        (fun s H cenv fp ⟨C', cl, e⟩ => by subst e; exact sIfs cd (c.blk ..) q.blk h2.2) (fun s H cenv fp ⟨C', cl, e⟩ => by subst e; exact (sE elt (c.blk ..) q.blk h1.2).1) (fun pins s σ H I => I.len)
    · cases h
  | .pop i, X, W, sc, e, c, q, h => by
    have r := q.toScR
    unfold isE at h; split at h
    · have h1 := ands h
      have h2 := ands h1.1
      refine ⟨?k17, pt_val ?k17⟩
      exact c_pop r h1.2 h2.1 h2.2
    · cases h
  | .popAt i a, X, W, sc, e, c, q, h => by
    have r := q.toScR
    unfold isE at h; split at h
    · have h1 := ands h
      have h2 := ands h1.1
      have h3 := ands h2.1
      refine ⟨?k18, pt_val ?k18⟩
      exact c_popAt r h2.2 h3.1 h3.2 h1.2 (sE a c q h1.2).1
    · cases h
theorem sEs : ∀ (es : Xs) {X : Cx} {W : WX} {sc : Scope} {us : List Expr}, Cok Nm FA CA C X W → ScM Nm FA X w sc → isEs Nm X.N es sc us = true →
    PA X us (tEs X.K FA CA W w C es) ∧ PA X us (tVs X.K FA CA W w C es) ∧ ∀ ms, PA X us (tAr X.K FA CA W w C ms es)
  | .nil, X, W, sc, us, c, q, h => by
    have r := q.toScR
    cases us with
    | nil => exact ⟨c_nil, c_vnil, fun ms => c_anil⟩
    | cons u us => simp [isEs] at h
  | .cons m es, X, W, sc, us, c, q, h => by
    have r := q.toScR
    cases us with
    | nil => simp [isEs] at h
    | cons u us =>
      have h' : isE Nm X.N m sc u = true ∧ isEs Nm X.N es sc us = true := by simpa [isEs] using h
      have k1 := (sE m c q h'.1).1
      obtain ⟨k2, k3, k4⟩ := sEs es c q h'.2
      exact ⟨c_cons h'.1 k1 k2, c_vcons h'.1 (sV r h'.1 k1) k3, fun ms => c_acons r h'.1 k1 k4⟩
theorem sKs : ∀ (es : Xs) {X : Cx} {W : WX} {sc : Scope} {us : List Keyword}, Cok Nm FA CA C X W → ScM Nm FA X w sc → isKs Nm X.N es sc us = true → PK X us (tEs X.K FA CA W w C es)
  | .nil, X, W, sc, us, c, q, h => by
    have r := q.toScR
    cases us with
    | nil => exact c_knil
    | cons u us => simp [isKs] at h
  | .cons m es, X, W, sc, us, c, q, h => by
    have r := q.toScR
    cases us with
    | nil => simp [isKs] at h
    | cons u us =>
      obtain ⟨n, u, kp⟩ := u
      cases n with
      | none => simp [isKs] at h
      | some n =>
        have h' : isE Nm X.N m sc u = true ∧ isKs Nm X.N es sc us = true := by simpa [isKs] using h
        exact c_kcons (sE m c q h'.1).1 (sKs es c q h'.2)
theorem sAnd : ∀ (es : Xs) {X : Cx} {W : WX} {sc : Scope} {us : List Expr} {pos : Pos}, Cok Nm FA CA C X W → ScM Nm FA X w sc → isEs Nm X.N es sc us = true →
    PE X (.BoolOp .And us pos) (tAn X.K FA CA W w C es) ∧ PW X (.BoolOp .And us pos) (tTest (tAn X.K FA CA W w C es))
  | .nil, X, W, sc, us, pos, c, q, h => no_and
  | .cons m .nil, X, W, sc, us, pos, c, q, h => by
    have r := q.toScR
    cases us with
    | nil => simp [isEs] at h
    | cons u us =>
      have h' : isE Nm X.N m sc u = true ∧ isEs Nm X.N .nil sc us = true := by simpa [isEs] using h
      cases us with
      | nil => exact c_and1 (sE m c q h'.1).1 (sE m c q h'.1).2
      | cons _ _ => simp [isEs] at h'
  | .cons m (.cons f es), X, W, sc, us, pos, c, q, h => by
    have r := q.toScR
    cases us with
    | nil => simp [isEs] at h
    | cons u us =>
      have h' : isE Nm X.N m sc u = true ∧ isEs Nm X.N (.cons f es) sc us = true := by rw [isEs, Bool.and_eq_true] at h; exact h
      cases us with
      | nil => simp [isEs] at h'
      | cons u2 us => exact c_and2 (sE m c q h'.1).1 (sE m c q h'.1).2 (sAnd (.cons f es) c q h'.2)
theorem sOr : ∀ (es : Xs) {X : Cx} {W : WX} {sc : Scope} {us : List Expr} {pos : Pos}, Cok Nm FA CA C X W → ScM Nm FA X w sc → isEs Nm X.N es sc us = true →
    PE X (.BoolOp .Or us pos) (tOr X.K FA CA W w C es) ∧ PW X (.BoolOp .Or us pos) (tTest (tOr X.K FA CA W w C es))
  | .nil, X, W, sc, us, pos, c, q, h => no_or
  | .cons m .nil, X, W, sc, us, pos, c, q, h => by
    have r := q.toScR
    cases us with
    | nil => simp [isEs] at h
    | cons u us =>
      have h' : isE Nm X.N m sc u = true ∧ isEs Nm X.N .nil sc us = true := by simpa [isEs] using h
      cases us with
      | nil => exact c_or1 (sE m c q h'.1).1 (sE m c q h'.1).2
      | cons _ _ => simp [isEs] at h'
  | .cons m (.cons f es), X, W, sc, us, pos, c, q, h => by
    have r := q.toScR
    cases us with
    | nil => simp [isEs] at h
    | cons u us =>
      have h' : isE Nm X.N m sc u = true ∧ isEs Nm X.N (.cons f es) sc us = true := by rw [isEs, Bool.and_eq_true] at h; exact h
      cases us with
      | nil => simp [isEs] at h'
      | cons u2 us => exact c_or2 (sE m c q h'.1).1 (sE m c q h'.1).2 (sOr (.cons f es) c q h'.2)
theorem sBlt (b : Blt) : ∀ (es : Xs) {X : Cx} {W : WX} {sc : Scope} {us : List Expr} {x : Str}, Cok Nm FA CA C X W → ScM Nm FA X w sc → bltIs b us.length x = true → glB sc x = true → isEs Nm X.N es sc us = true →
    ∀ p pos, PE X (.Call (.Name x p) us [] pos) (tE X.K FA CA W w C (.blt b es))
  | .nil, X, W, sc, us, x, c, q, hb, hg, h => by
    have r := q.toScR
    cases us with
    | nil => cases b <;> simp [bltIs] at hb
    | cons u us => simp [isEs] at h
  | .cons m es, X, W, sc, us, x, c, q, hb, hg, h => by
    have r := q.toScR
    cases us with
    | nil => simp [isEs] at h
    | cons u us =>
      have h' : isE Nm X.N m sc u = true ∧ isEs Nm X.N es sc us = true := by rw [isEs, Bool.and_eq_true] at h; exact h
      exact fun p pos => c_blt c r h hb hg (c_vcons h'.1 (sV r h'.1 (sE m c q h'.1).1) (sEs es c q h'.2).2.1)
theorem sPo : ∀ (m : Xo) {X : Cx} {W : WX} {sc : Scope} {e : Option Expr}, Cok Nm FA CA C X W → ScM Nm FA X w sc → isEo Nm X.N m sc e = true → PO X e (tPo X.K FA CA W w C m)
  | .none, X, W, sc, e, c, q, h => by
    have r := q.toScR
    cases e with
    | none => exact c_poN
    | some e => simp [isEo] at h
  | .some m, X, W, sc, e, c, q, h => by
    have r := q.toScR
    cases e with
    | none => simp [isEo] at h
    | some e => exact c_poS (sE m c q (by simpa [isEo] using h)).1
theorem sIfs : ∀ (m : Xo) {X : Cx} {sc : Scope} {us : List Expr}, Cok Nm FA CA C X WF → ScM Nm FA X w sc → isIfs Nm X.N m sc us = true → PTs X us (tCond X.K FA CA w C m)
  | .none, X, sc, us, c, q, h => by
    have r := q.toScR
    cases us with
    | nil => exact c_condN
    | cons u us => simp [isIfs] at h
  | .some m, X, sc, us, c, q, h => by
    have r := q.toScR
    cases us with
    | nil => simp [isIfs] at h
    | cons u us =>
      cases us with
      | nil => exact c_condS (sE m c q (by simpa [isIfs] using h)).2
      | cons _ _ => simp [isIfs] at h
theorem sIt : ∀ (m : RF.It) {X : Cx} {W : WX} {sc : Scope} {tg e : Expr}, Cok Nm FA CA C X W → ScM Nm FA X w sc → isIt Nm X.N m sc tg e = true → PI X tg e (tIt X.K FA CA W w C m)
  | .seq a, X, W, sc, tg, e, c, q, h => by
    have r := q.toScR
    unfold isIt at h
    exact c_seq (sE a c q h).1
  | .rng1 a, X, W, sc, tg, e, c, q, h => by
    have r := q.toScR
    unfold isIt at h; split at h
    · have h1 := ands h
      have h2 := ands h1.1
      exact c_rng1 c r h2.1 h2.2 h1.2 (sE a c q h1.2).1
    · cases h
  | .rng2 a b, X, W, sc, tg, e, c, q, h => by
    have r := q.toScR
    unfold isIt at h; split at h
    · have h1 := ands h
      have h2 := ands h1.1
      have h3 := ands h2.1
      exact c_rng2 c r h3.1 h3.2 h2.2 h1.2 (sE a c q h2.2).1 (sE b c q h1.2).1
    · cases h
  | .rng3 a b d, X, W, sc, tg, e, c, q, h => by
    have r := q.toScR
    unfold isIt at h; cases h
  | .enum a, X, W, sc, tg, e, c, q, h => by
    have r := q.toScR
    unfold isIt at h; split at h
    · have h1 := ands h
      have h2 := ands h1.1
      have h3 := ands h2.1
      have h4 := h1.2
      split at h4
      · exact c_enum c r h3.1 h3.2 h2.2 (sE a c q h2.2).1
      · cases h4
    · cases h
theorem sRng : ∀ (it : RF.It) {X : Cx} {W : WX} {sc : Scope}, Cok Nm FA CA C X W → ScM Nm FA X w sc → (∀ a, it = .rng1 a → ∀ y, isE Nm X.N a sc y = true → PE X y (tE X.K FA CA W w C a)) ∧
    (∀ a b, it = .rng2 a b → ∀ y, (isE Nm X.N a sc y = true → PE X y (tE X.K FA CA W w C a)) ∧ (isE Nm X.N b sc y = true → PE X y (tE X.K FA CA W w C b)))
  | .seq a, X, W, sc, c, q => ⟨fun _ z => (nomatch z), fun _ _ z => (nomatch z)⟩
  | .rng1 a, X, W, sc, c, q => ⟨fun a' z y h => by obtain rfl := It.rng1.inj z; exact (sE a c q h).1, fun _ _ z => (nomatch z)⟩
  | .rng2 a b, X, W, sc, c, q => ⟨fun _ z => (nomatch z), fun a' b' z y => by obtain ⟨rfl, rfl⟩ := It.rng2.inj z; exact ⟨fun h => (sE a c q h).1, fun h => (sE b c q h).1⟩⟩
  | .rng3 a b d, X, W, sc, c, q => ⟨fun _ z => (nomatch z), fun _ _ z => (nomatch z)⟩
  | .enum a, X, W, sc, c, q => ⟨fun _ z => (nomatch z), fun _ _ z => (nomatch z)⟩
end
end
end RF
/-! RFq: statements. -/
namespace RF
open L2 PySem PySem.Spec PyProof.Rows
/-! ### the look at the text -/
/-- `x = [..]` on one line: the value goes straight to the name -/
def swB (sc : Scope) (x : Str) (px : Pos) : Expr → Bool
  | .ListComp _ _ s cp => decide (kd sc x = some .local) && (px.line == cp.line) && !(s.names.any fun (n, k) => n == x && (k == .local || k == .cell))
  | _ => false
def isComp : Expr → Bool
  | .ListComp _ _ _ _ => true
  | .SetComp _ _ _ _ => true
  | .DictComp _ _ _ _ _ => true
  | _ => false
/-- a tuple of constants, or no tuple -/
def noSwap : Expr → Bool
  | .Tuple us _ _ => us.all (foldedForSure 8)
  | _ => true
def parOk (N : List Str) (sc : Scope) (is : List Nat) (ts us : List Expr) : Bool :=
  !us.all (foldedForSure 8) && !us.all (constantsAlone 8) &&
  match is, ts, us with
  | [i, j], [.Name x px, .Name y py], [_, _] => decide (N[i]? = some x) && decide (N[j]? = some y) && decide (kd sc x = some .local) && decide (kd sc y = some .local) && !(x == y) && (py.line == px.line)
  | [i, j, l], [.Name x px, .Name y py, .Name z pz], [_, _, _] => decide (N[i]? = some x) && decide (N[j]? = some y) && decide (N[l]? = some z) && decide (kd sc x = some .local) && decide (kd sc y = some .local) && decide (kd sc z = some .local) &&
      !(x == y) && !(x == z) && !(y == z) && (py.line == px.line) && (pz.line == px.line)
  | _, _, _ => false
def offB (pr is : List Nat) : Bool := is.all fun i => !pr.contains i
theorem offB_ok {pr is : List Nat} (h : offB pr is = true) : ∀ i ∈ is, i ∉ pr := fun i m => by simpa using List.all_eq_true.mp h i m
/-- the slots pr stand as they stood -/
def Kp (pr : List Nat) (σ0 σ : L2.St) : Prop := ∀ i ∈ pr, σ[i]? = σ0[i]?
theorem Kp.set {pr : List Nat} {σ0 σ : L2.St} {i : Nat} {v : Option V} (h : Kp pr σ0 σ) (n : i ∉ pr) : Kp pr σ0 (σ.set i v) := fun j m => by
  rw [List.getElem?_set_ne (fun e => n (by rw [e]; exact m))]; exact h j m
theorem Kp.beside {pr is : List Nat} {σ0 σ σ' : L2.St} (h : Kp pr σ0 σ) (b : Beside is σ σ') (n : ∀ i ∈ is, i ∉ pr) : Kp pr σ0 σ' := fun j m => by
  rw [b.2 j fun z => n j z m]; exact h j m
mutual
def isS (Nm : Names) (N : List Str) (pr : List Nat) (sc : Scope) : S → Stmt → Bool
  | .set i e, st => (match st with | .Assign [.Name x px] u _ => locB N sc i x && isE Nm N e sc u && (!isComp u || swB sc x px u) && !pr.contains i | _ => false)
  | .asg is e, st => (match st with | .Assign [.Tuple ts k p] u _ => tgIs N sc (.tp is) (.Tuple ts k p) && isE Nm N e sc u && noSwap u && offB pr is | _ => false)
  | .par is es, st => (match st with | .Assign [.Tuple ts _ _] (.Tuple us _ _) _ => isEs Nm N es sc us && parOk N sc is ts us && offB pr is | _ => false)
  | .sto i k e, st => (match st with | .Assign [.Subscript (.Name x _) ku _] u _ => visB N sc i x && isE Nm N k sc ku && isE Nm N e sc u | _ => false)
  | .app i e, st => (match st with | .Expr (.Call (.Attribute (.Name x _) m p) [u] [] q) _ => m == "append" && (p.endLine == q.line) && visB N sc i x && isE Nm N e sc u | _ => false)
  | .expr e, st => (match st with | .Expr u _ => isE Nm N e sc u && !isComp u | _ => false)
  | .ret e, st => (match st with | .Return (some u) _ => isE Nm N e sc u | _ => false)
  | .ret0, st => (match st with | .Return none _ => true | _ => false)
  | .ite c a b, st => (match st with | .If u as bs _ => isE Nm N c sc u && isSs Nm N pr sc a as && isSs Nm N pr sc b bs | _ => false)
  | .for t it b, st => (match st with | .For tg iu bs [] _ => isIt Nm N it sc tg iu && tgIs N sc t tg && isSs Nm N pr sc b bs && offB pr (tgSlots t) | _ => false)
  | .whl c b, st => (match st with | .While u bs [] _ => isE Nm N c sc u && isSs Nm N pr sc b bs | _ => false)
  | .pass, st => (match st with | .Pass _ => true | _ => false)
def isSs (Nm : Names) (N : List Str) (pr : List Nat) (sc : Scope) : Ss → List Stmt → Bool
  | .nil, st => (match st with | [] => true | _ => false)
  | .cons s r, st => (match st with | t :: ts => isS Nm N pr sc s t && isSs Nm N pr sc r ts | _ => false)
end
/-! ### readings -/
section
variable (K : PySem.W.Frag) (FA : Fns) (CA : Nat → Option Addr) (W : WX) (w : W0) (pr : List Nat) (σ0 : L2.St)
def PostS (D : Ends) (n : Nat) (F : Hp) (ts : List (Option V × O)) : Out → Prop
  | .nx env' => ∀ σ' H' F', σ'.length = n ∧ Kp pr σ0 σ' → env'.length = n → Hs K FA w F' H' (lv σ' env' ++ ts) → Sub F F' → D.nx σ' H'
  | .rt o env' => ∀ v σ' H' F', σ'.length = n ∧ Kp pr σ0 σ' → env'.length = n → Hs K FA w F' H' ((some v, o) :: (lv σ' env' ++ ts)) → Sub F F' → D.rt v H'
  | .ex c ds => ∀ σ' H' F' od a, CA c = some a → Sub F F' → HR w F' H' → ExcAt K FA F' H' ds od → W (.ref a) od σ' H'
  | .no => False
def tS (C : Cfg) (Wf : Nat) (m : S) : TS := fun D σ H => ∃ F ts env, Kp pr σ0 σ ∧ env.length = σ.length ∧ Hs K FA w F H (lv σ env ++ ts) ∧ PostS K FA CA W w pr σ0 D σ.length F ts (evalS C Wf m env)
def tSs (C : Cfg) (Wf : Nat) (m : Ss) : TS := fun D σ H => ∃ F ts env, Kp pr σ0 σ ∧ env.length = σ.length ∧ Hs K FA w F H (lv σ env ++ ts) ∧ PostS K FA CA W w pr σ0 D σ.length F ts (evalSs C Wf m env)
end
theorem PS.impL {X : Cx} {st : Stmt} {t t' : TS} (p : PS X st t) (i : ∀ D σ H, σ.length = X.N.length → t' D σ H → t D σ H) : PS X st t' := ⟨fun pins s σ H D I h => p.run pins s σ H D I (i D σ H I.len h)⟩
theorem PSs.impL {X : Cx} {st : List Stmt} {t t' : TS} (p : PSs X st t) (i : ∀ D σ H, σ.length = X.N.length → t' D σ H → t D σ H) : PSs X st t' := ⟨fun pins s σ H D I h => p.run pins s σ H D I (i D σ H I.len h)⟩
section
variable {Nm : Names} {FA : Fns} {CA : Nat → Option Addr} {C : Cfg} {X : Cx} {W : WX} {w : W0} {sc : Scope} {Wf : Nat}
variable {σ : L2.St} {F F' F1 H H' H1 : Hp} {ts : List (Option V × O)} {Q : VK} {D : Ends} {n : Nat} {pu : Bool} {pr : List Nat} {σ0 : L2.St}
theorem PostS.rebase {r : Out} (h : PostS X.K FA CA W w pr σ0 D n F ts r) (sF : Sub F F1) : PostS X.K FA CA W w pr σ0 D n F1 ts r := by
  cases r with
  | nx env => exact fun σ' H' F' a b s sf => h σ' H' F' a b s (sF.trans sf)
  | rt o env => exact fun v σ' H' F' a b s sf => h v σ' H' F' a b s (sF.trans sf)
  | ex c ds => exact fun σ' H' F' od a e sf hr x => h σ' H' F' od a e (sF.trans sf) hr x
  | no => exact h
/-- one thing behind another -/
theorem PostS.seq {r : Out} {k : Env → Out} {N : L2.St → Hp → Prop} (h : PostS X.K FA CA W w pr σ0 D n F ts (match r with | .nx env => k env | o => o))
    (i : ∀ env, r = .nx env → ∀ σ' H' F', σ'.length = n ∧ Kp pr σ0 σ' → env.length = n → Hs X.K FA w F' H' (lv σ' env ++ ts) → Sub F F' → PostS X.K FA CA W w pr σ0 D n F' ts (k env) → N σ' H') :
    PostS X.K FA CA W w pr σ0 { D with nx := N, ct := N, bk := D.nx } n F ts r := by
  cases r with
  | nx env => exact fun σ' H' F' a b s sf => i env rfl σ' H' F' a b s sf (h.rebase sf)
  | rt o env => exact h
  | ex c ds => exact h
  | no => exact h
theorem PostS.seq' {r : Out} {k : Env → Out} {N : L2.St → Hp → Prop} (h : PostS X.K FA CA W w pr σ0 D n F ts (match r with | .nx env => k env | o => o))
    (i : ∀ env, r = .nx env → ∀ σ' H' F', σ'.length = n ∧ Kp pr σ0 σ' → env.length = n → Hs X.K FA w F' H' (lv σ' env ++ ts) → Sub F F' → PostS X.K FA CA W w pr σ0 D n F' ts (k env) → N σ' H') :
    PostS X.K FA CA W w pr σ0 { D with nx := N } n F ts r := by
  cases r with
  | nx env => exact fun σ' H' F' a b s sf => i env rfl σ' H' F' a b s sf (h.rebase sf)
  | rt o env => exact h
  | ex c ds => exact h
  | no => exact h
/-- an expression, then the rest -/
theorem bindS {r : R O} {f : O → Env → Out} (hn : n = σ.length) (post : PostS X.K FA CA W w pr σ0 D n F ts (Out.ofR r f))
    (hk : ∀ o env1 v H1 F1, r = .ok o env1 → env1.length = σ.length → Hs X.K FA w F1 H1 ((some v, o) :: (lv σ env1 ++ ts)) → Sub F F1 → PostS X.K FA CA W w pr σ0 D n F1 ts (f o env1) → Q v H1) :
    Post X.K FA CA W w pu σ F H ts Q r := by
  cases r with
  | ok o env => exact fun v H' F' hl s sf p => hk o env v H' F' rfl hl s sf (PostS.rebase post sf)
  | ex c ds => exact fun H' F' od a e sf hr x => post σ H' F' od a e sf hr x
  | no => exact post
theorem swapsNo {u : Expr} {t : Option Expr} {l : Nat} {env : PySem.Env} (h : isComp u = false) : swapsWith u t l env = pure false := by
  cases u <;> first | rfl | (simp [isComp] at h)
theorem swapsSole {u t : Expr} {l : Nat} {env : PySem.Env} (h : ∀ x p, t ≠ .Name x p) : swapsWithSole [t] u l env = pure false := by
  cases t <;> first | exact absurd rfl (h _ _) | (cases u <;> rfl)
variable (c : Cok Nm FA CA C X W) (r : ScR X sc)
include r in
theorem s_store {i : Nat} {x : Str} (hx : locB X.N sc i x = true) (hpr : i ∉ pr) (hn : σ.length = X.N.length) {e : RF.X} (h : tS X.K FA CA W w pr σ0 C Wf (.set i e) D σ H) : tAsg (tE X.K FA CA W w C e) (gName i) D σ H := by
  obtain ⟨F, ts, env, kp, hl, s, post⟩ := h
  unfold evalS at post
  refine ⟨F, ts, env, hl, s, bindS rfl post fun o env1 v H1 F1 _ hl1 s1 sF1 post => ?_⟩
  have hi : i < σ.length := by rw [hn]; exact isE_lt (locB_ok r hx).1
  exact post _ H1 F1 ⟨by rw [List.length_set], kp.set hpr⟩ (by rw [List.length_set]; exact hl1) (s1.store hl1 hi) (Sub.refl _)
include c r in
theorem s_set {i : Nat} {e : RF.X} {x : Str} {px pos : Pos} {u : Expr} (hx : locB X.N sc i x = true) (hpr : i ∉ pr) (hu : isComp u = false) (he : PE X u (tE X.K FA CA W w C e)) : PS X (.Assign [.Name x px] u pos) (tS X.K FA CA W w pr σ0 C Wf (.set i e)) := by
  have h1 := locB_ok r hx
  exact PS.impL (ps_set c.nd h1.1 h1.2.1 he (swapsNo hu) h1.2.2) fun D σ H hn h => s_store r hx hpr hn h
include c r in
theorem s_asg {is : List Nat} {e : RF.X} {tg u : Expr} {pos : Pos} (hg : tgIs X.N sc (.tp is) tg = true) (hpr : ∀ i ∈ is, i ∉ pr) (ht : ∀ x p, tg ≠ .Name x p) (hw : swappedStores [tg] u X.env = pure none) (h1 : (assignEach [tg] X.env).map (·.2) = [assign tg X.env]) (he : PE X u (tE X.K FA CA W w C e)) :
    PS X (.Assign [tg] u pos) (tS X.K FA CA W w pr σ0 C Wf (.asg is e)) := by
  refine PS.impL (ps_asg he (c_tg (w := w) c r hg) (swapsSole ht) hw h1) fun D σ H hn ⟨F, ts, env, kp, hl, s, post⟩ => ?_
  unfold evalS at post
  refine ⟨F, ts, env, hl, s, bindS rfl post fun o env1 v H1 F1 _ hl1 s1 sF1 post => ?_⟩
  cases e1 : tgE (.tp is) o env1 with
  | none => rw [e1] at post; exact False.elim post
  | some env2 =>
    rw [e1] at post
    exact ⟨hn, F1, ts, env1, o, hl1, s1, env2, e1, fun σ2 bs hl2 s2 => post σ2 H1 F1 ⟨bs.1, kp.beside bs hpr⟩ (by rw [hl2, bs.1]) s2 (Sub.refl _)⟩
include r in
theorem s_sto {i : Nat} {k e : RF.X} {x : Str} {px p pos : Pos} {ku u : Expr} (hv : visB X.N sc i x = true) (hi : isE Nm X.N k sc ku = true) (hk : PE X ku (tE X.K FA CA W w C k)) (he : PE X u (tE X.K FA CA W w C e)) :
    PS X (.Assign [.Subscript (.Name x px) ku p] u pos) (tS X.K FA CA W w pr σ0 C Wf (.sto i k e)) := by
  refine PS.impL (ps_asg he (pg_sub (pe_slot r hv) hk set_list (fun v => by cases ku <;> first | rfl | (rw [notSlice] at hi; cases hi))) (swapsSole fun _ _ z => by cases z) (by cases u <;> rfl)) fun D σ H hn ⟨F, ts, env, kp, hl, s, post⟩ => ?_
  unfold evalS at post
  refine ⟨F, ts, env, hl, s, bindS rfl post fun o env1 v H1 F1 _ hl1 s1 sF1 post => ?_⟩
  cases e1 : getE env1 i with
  | none => rw [e1] at post; exact False.elim post
  | some o1 =>
    rw [e1] at post
    cases o1 with
    | z d => exact False.elim post
    | t os => exact False.elim post
    | l os0 =>
      have s1' := s1.toTemp
      obtain ⟨va, e2, s2⟩ := s1'.take hl1 e1
      refine ⟨va, e2, F1, (some v, o) :: ts, env1, hl1, s1', ?_⟩
      have post : PostS X.K FA CA W w pr σ0 D σ.length F1 ts (Out.ofR (evalE C k env1) fun x env2 => match x, getE env2 i with
        | .z (.int j), some (.l os) => match L2.ixN os.length j with
          | some q => .nx (env2.set i (some (.l (os.set q o))))
          | none => .no
        | _, _ => .no) := post
      cases e3 : evalE C k env1 with
      | no => rw [e3] at post; exact False.elim post
      | ex c ds => rw [e3] at post; exact fun H' F' od a e sf hr x => post σ H' F' od a e sf hr x
      | ok xk env2 =>
        rw [e3] at post
        intro vk H2 F2 hl2 s3 sF2 _
        cases xk with
        | l _ => exact False.elim post
        | t _ => exact False.elim post
        | z dk =>
        cases dk with
        | int j =>
          have ev := RepV.int (.rep s3.rep : RepV X.K FA F2 H2 vk _)
          subst ev
          cases e4 : getE env2 i with
          | none => rw [Out.ofR_ok, e4] at post; exact False.elim post
          | some o2 =>
            rw [Out.ofR_ok, e4] at post
            cases o2 with
            | z d => exact False.elim post
            | t os => exact False.elim post
            | l os =>
              have post : PostS X.K FA CA W w pr σ0 D σ.length F1 ts (match L2.ixN os.length j with | some q => .nx (env2.set i (some (.l (os.set q o)))) | none => .no) := post
              cases e5 : L2.ixN os.length j with
              | none => rw [e5] at post; exact False.elim post
              | some q =>
                rw [e5] at post
                obtain ⟨vb, e6, s4⟩ := s3.tail.take hl2 e4
                rw [e2] at e6
                obtain rfl : va = vb := by simpa using e6
                obtain ⟨a, vs, rfl, hv, hvl⟩ := s4.own
                obtain ⟨q1, q2, q3, q4⟩ := ixN_seq e5
                have s5 := s4.perm (List.Perm.cons _ List.perm_middle)
                have s6 := Hs.setAt (i := q) hv q2 s5
                have s7 := Hs.back hl2 e2 s6
                exact ⟨a, vs, j, q, rfl, rfl, hv, by rw [hvl]; exact e5, post σ _ F2 ⟨rfl, kp⟩ (by rw [List.length_set]; exact hl2) s7 sF2⟩
        | _ => exact False.elim post
include r in
theorem s_app {i : Nat} {e : RF.X} {x m : Str} {px p q pos : Pos} {u : Expr} (hm : (m == "append") = true) (hl : (p.endLine == q.line) = true) (hv : visB X.N sc i x = true) (hi : isE Nm X.N e sc u = true) (he : PE X u (tE X.K FA CA W w C e)) :
    PS X (.Expr (.Call (.Attribute (.Name x px) m p) [u] [] q) pos) (tS X.K FA CA W w pr σ0 C Wf (.app i e)) := by
  obtain rfl : m = "append" := by simpa using hm
  refine PS.impL (ps_expr (pe_bm (T := "list") PySem.F.plainAttrs_list PySem.F.slot_list_append PySem.F.type_list_append mt_append (pe_slot r hv) (pa_cons he pa_nil (star_cons hi)) (by rfl) (by rw [star_cons hi]; rfl) hl (star_cons hi) (by rfl)) (by rfl)) fun D σ H hn ⟨F, ts, env, kp, hl, s, post⟩ => ?_
  unfold evalS at post
  cases e0 : getE env i with
  | none => rw [e0] at post; exact False.elim post
  | some o1 =>
    rw [e0] at post
    cases o1 with
    | z d => exact False.elim post
    | t os => exact False.elim post
    | l os0 =>
      obtain ⟨v, e1, s1⟩ := s.take hl e0
      obtain ⟨a, vs0, rfl, hv0, hvl0⟩ := s1.own
      refine ⟨_, e1, Or.inl ⟨rfl, _, Or.inl (Or.inl hv0)⟩, F, ts, env, hl, s, ?_⟩
      refine bindS rfl post fun o env1 y H1 F1 _ hl1 s1 sF1 post => ?_
      cases e2 : getE env1 i with
      | none => rw [e2] at post; exact False.elim post
      | some o2 =>
        rw [e2] at post
        cases o2 with
        | z d => exact False.elim post
        | t os => exact False.elim post
        | l os =>
          have post : PostS X.K FA CA W w pr σ0 D σ.length F1 ts (if lenOk os then .nx (env1.set i (some (.l (os ++ [o])))) else .no) := post
          have hlen : lenOk os = true ∨ lenOk os = false := by cases lenOk os <;> simp
          rcases hlen with hlen | hlen
          · rw [hlen] at post
            have hlen2 : os.length < 2 ^ 20 := of_decide_eq_true (show decide (os.length < 2 ^ 20) = true from hlen)
            obtain ⟨vb, e6, s4⟩ := s1.toTemp.take hl1 e2
            rw [e1] at e6
            obtain rfl : V.ref a = vb := by simpa using e6
            obtain ⟨a', vs, ea, hv, hvl⟩ := s4.own
            cases ea
            have s5 := s4.perm (List.Perm.cons _ List.perm_middle)
            have s6 := Hs.append hv s5
            have s7 := Hs.back hl1 e1 s6
            have e24 : (sizeLine : Nat) = 2 ^ 24 := rfl
            exact ⟨a, vs, y, rfl, rfl, hv, by omega, post σ _ F1 ⟨rfl, kp⟩ (by rw [List.length_set]; exact hl1) s7 (Sub.refl _)⟩
          · rw [hlen] at post; exact False.elim post
theorem s_expr {e : RF.X} {u : Expr} {pos : Pos} (hu : isComp u = false) (he : PE X u (tE X.K FA CA W w C e)) : PS X (.Expr u pos) (tS X.K FA CA W w pr σ0 C Wf (.expr e)) := by
  refine PS.impL (ps_expr he (swapsNo hu)) fun D σ H hn ⟨F, ts, env, kp, hl, s, post⟩ => ?_
  unfold evalS at post
  exact ⟨F, ts, env, hl, s, bindS rfl post fun o env1 v H1 F1 _ hl1 s1 sF1 post => post σ H1 F1 ⟨rfl, kp⟩ hl1 s1.tail (Sub.refl _)⟩
theorem evalS_ret {C : Cfg} {e : RF.X} {env : Env} (h : ∀ i, e ≠ .v i) : evalS C Wf (.ret e) env = Out.ofR (evalE C e env) fun o env1 => .rt o env1 := by
  cases e <;> first | exact absurd rfl (h _) | rfl
include r in
theorem s_ret {e : RF.X} {u : Expr} {pos : Pos} (hi : isE Nm X.N e sc u = true) (he : PE X u (tE X.K FA CA W w C e)) : PS X (.Return (some u) pos) (tS X.K FA CA W w pr σ0 C Wf (.ret e)) := by
  by_cases z : ∃ i, e = .v i
  · obtain ⟨i, rfl⟩ := z
    unfold isE at hi
    split at hi
    · rename_i x px
      refine PS.impL (ps_ret (pe_slot r hi)) fun D σ H hn ⟨F, ts, env, kp, hl, s, post⟩ => ?_
      unfold evalS at post
      cases e0 : getE env i with
      | none => rw [e0] at post; exact False.elim post
      | some o =>
        rw [e0] at post
        obtain ⟨v, e1, s1⟩ := s.take hl e0
        exact ⟨v, e1, post v σ H F ⟨rfl, kp⟩ (by rw [List.length_set]; exact hl) s1 (Sub.refl _)⟩
    · cases hi
  · refine PS.impL (ps_ret he) fun D σ H hn ⟨F, ts, env, kp, hl, s, post⟩ => ?_
    rw [evalS_ret fun i e => z ⟨i, e⟩] at post
    exact ⟨F, ts, env, hl, s, bindS rfl post fun o env1 v H1 F1 _ hl1 s1 sF1 post => post v σ H1 F1 ⟨rfl, kp⟩ hl1 s1 (Sub.refl _)⟩
theorem s_ret0 {pos : Pos} : PS X (.Return none pos) (tS X.K FA CA W w pr σ0 C Wf .ret0) :=
  PS.impL ps_retN fun D σ H hn ⟨F, ts, env, kp, hl, s, post⟩ => by
    unfold evalS at post
    exact post .non σ H F ⟨rfl, kp⟩ hl (s.add .non) (Sub.refl _)
theorem s_pass {pos : Pos} : PS X (.Pass pos) (tS X.K FA CA W w pr σ0 C Wf .pass) :=
  PS.impL ps_pass fun D σ H hn ⟨F, ts, env, kp, hl, s, post⟩ => by
    unfold evalS at post
    exact post σ H F ⟨rfl, kp⟩ hl s (Sub.refl _)
theorem s_ite {e : RF.X} {a b : Ss} {u : Expr} {as bs : List Stmt} {pos : Pos} (hc : PT X u (tTest (tE X.K FA CA W w C e))) (ha : PSs X as (tSs X.K FA CA W w pr σ0 C Wf a)) (hb : PSs X bs (tSs X.K FA CA W w pr σ0 C Wf b)) :
    PS X (.If u as bs pos) (tS X.K FA CA W w pr σ0 C Wf (.ite e a b)) := by
  refine PS.impL (ps_if hc ha hb) fun D σ H hn ⟨F, ts, env, kp, hl, s, post⟩ => ?_
  unfold evalS at post
  refine ⟨F, ts, env, hl, s, bindS rfl post fun o env1 v H1 F1 _ hl1 s1 sF1 post => ?_⟩
  cases o with
  | l _ => exact False.elim post
  | t _ => exact False.elim post
  | z d =>
  cases d with
  | bl k =>
    have ev := RepV.bl (.rep s1.rep : RepV X.K FA F1 H1 v _)
    subst ev
    cases k with
    | true => exact ⟨true, rfl, iteT ⟨F1, ts, env1, kp, hl1, s1.tail, post⟩⟩
    | false => exact ⟨false, rfl, iteF ⟨F1, ts, env1, kp, hl1, s1.tail, post⟩⟩
  | _ => exact False.elim post
theorem s_whl {e : RF.X} {b : Ss} {u : Expr} {bs : List Stmt} {pos : Pos} (hp : PassesOwn (model X.prog X.w) X.A X.env X.xe) (hc : PT X u (tTest (tE X.K FA CA W w C e))) (hb : PSs X bs (tSs X.K FA CA W w pr σ0 C Wf b)) :
    PS X (.While u bs [] pos) (tS X.K FA CA W w pr σ0 C Wf (.whl e b)) := by
  refine PS.impL (ps_while hp hc hb) fun D σ H hn ⟨F, ts, env, kp, hl, s, post⟩ => ?_
  unfold evalS at post
  refine ⟨fun m σ2 H2 => (σ2.length = σ.length ∧ Kp pr σ0 σ2) ∧ ∃ F2 env2, env2.length = σ2.length ∧ Hs X.K FA w F2 H2 (lv σ2 env2 ++ ts) ∧ PostS X.K FA CA W w pr σ0 D σ2.length F2 ts (evalWhile (fun z => evalE C e z) (fun z => evalSs C Wf b z) m env2), ⟨Wf, ⟨rfl, kp⟩, F, env, hl, s, post⟩, ?_⟩
  rintro m σ2 H2 ⟨⟨hl0, kp⟩, F2, env2, hl2, s2, post⟩
  cases m with
  | zero => exact False.elim post
  | succ m =>
    have post : PostS X.K FA CA W w pr σ0 D σ2.length F2 ts (Out.ofR (evalE C e env2) fun x env1 => match x with
      | .z (.bl true) => match evalSs C Wf b env1 with
        | .nx env2 => evalWhile (fun z => evalE C e z) (fun z => evalSs C Wf b z) m env2
        | r => r
      | .z (.bl false) => .nx env1
      | _ => .no) := post
    refine ⟨F2, ts, env2, hl2, s2, bindS rfl post fun o env3 v H3 F3 _ hl3 s3 sF3 post => ?_⟩
    cases o with
    | l _ => exact False.elim post
    | t _ => exact False.elim post
    | z d =>
    cases d with
    | bl k =>
      have ev := RepV.bl (.rep s3.rep : RepV X.K FA F3 H3 v _)
      subst ev
      cases k with
      | true =>
        refine ⟨true, rfl, iteT ⟨fun σ' H' => (σ'.length = σ.length ∧ Kp pr σ0 σ') ∧ ∃ F2 env2, env2.length = σ'.length ∧ Hs X.K FA w F2 H' (lv σ' env2 ++ ts) ∧ PostS X.K FA CA W w pr σ0 D σ'.length F2 ts (evalWhile (fun z => evalE C e z) (fun z => evalSs C Wf b z) m env2),
          fun σ' H' q => ⟨m, Nat.lt_succ_self _, q⟩, F3, ts, env3, kp, hl3, s3.tail, ?_⟩⟩
        exact PostS.seq post fun env4 _ σ4 H4 F4 a4 b4 s4 sf4 post => ⟨⟨by rw [a4.1, hl0], a4.2⟩, F4, env4, by rw [b4, a4.1], s4, by rw [a4.1]; exact post⟩
      | false => exact ⟨false, rfl, iteF (post σ2 H3 F3 ⟨rfl, kp⟩ hl3 s3.tail (Sub.refl _))⟩
    | _ => exact False.elim post
include c r in
theorem s_for {t : Tg} {it : RF.It} {b : Ss} {tg iu : Expr} {bs : List Stmt} {pos : Pos} (hp : PassesOwn (model X.prog X.w) X.A X.env X.xe) (hi : PI X tg iu (tIt X.K FA CA W w C it)) (hf : ∀ x, foldedSetIterable iu X.env x = pure x) (hg : tgIs X.N sc t tg = true) (hpr : ∀ i ∈ tgSlots t, i ∉ pr)
    (hb : PSs X bs (tSs X.K FA CA W w pr σ0 C Wf b)) : PS X (.For tg iu bs [] pos) (tS X.K FA CA W w pr σ0 C Wf (.for t it b)) := by
  refine PS.impL (ps_for hp c.calm hi (c_tg (w := w) c r hg) hb hf) fun D σ H hn ⟨F, ts, env, kp, hl, s, post⟩ => ?_
  unfold evalS at post
  refine ⟨F, ts, env, hl, s, ?_⟩
  have turn : ∀ ds env1 J H1 F1, env1.length = σ.length → Hs X.K FA w F1 H1 (lv σ env1 ++ ts) → WalkOk X.K FA w J ds F1 → PostS X.K FA CA W w pr σ0 D σ.length F1 ts (evalFor t (fun z => evalSs C Wf b z) ds env1) →
      ∃ WW : Nat → Nat → L2.St → Hp → Prop, (∃ m, WW 0 m σ H1) ∧ ∀ i m σ H, WW i m σ H →
        (J.stop i H ∧ D.nx σ H) ∨ (J.go i H ∧ ∃ N : L2.St → Hp → Prop, (∀ σ' H', N σ' H' → ∃ m', m' < m ∧ WW (i + 1) m' σ' H') ∧ ∀ x H', J.yld i H x H' → tTg' X.K FA w X.N.length t x σ H' fun σ2 H2 => tSs X.K FA CA W w pr σ0 C Wf b { D with nx := N, ct := N, bk := D.nx } σ2 H2) := by
    intro ds env1 J H1 F1 hl1 s1 wk post
    refine ⟨fun i m σ2 H2 => m = ds.length - i ∧ i ≤ ds.length ∧ (σ2.length = σ.length ∧ Kp pr σ0 σ2) ∧ ∃ F2 env2, Sub F1 F2 ∧ env2.length = σ.length ∧ Hs X.K FA w F2 H2 (lv σ2 env2 ++ ts) ∧ PostS X.K FA CA W w pr σ0 D σ.length F2 ts (evalFor t (fun z => evalSs C Wf b z) (ds.drop i) env2),
      ⟨ds.length, by omega, by omega, ⟨rfl, kp⟩, F1, env1, Sub.refl _, hl1, s1, post⟩, ?_⟩
    rintro i m σ2 H2 ⟨rfl, hi2, ⟨hl0, kp⟩, F2, env2, sF2, hl2, s2, post⟩
    by_cases hlast : i < ds.length
    · right
      refine ⟨wk.go i H2 F2 sF2 s2.1.sub hlast, fun σ' H' => i + 1 ≤ ds.length ∧ (σ'.length = σ.length ∧ Kp pr σ0 σ') ∧ ∃ F2 env2, Sub F1 F2 ∧ env2.length = σ.length ∧ Hs X.K FA w F2 H' (lv σ' env2 ++ ts) ∧ PostS X.K FA CA W w pr σ0 D σ.length F2 ts (evalFor t (fun z => evalSs C Wf b z) (ds.drop (i + 1)) env2),
        fun σ' H' q => ⟨ds.length - (i + 1), by omega, rfl, q⟩, fun x H3 hy => ?_⟩
      have hdi : ds[i]? = some ds[i] := List.getElem?_eq_getElem hlast
      obtain ⟨F3, sF3, sH3, s3⟩ := wk.yld i H2 x H3 F2 _ _ sF2 s2 hdi hy
      rw [List.drop_eq_getElem_cons hlast] at post
      unfold evalFor at post
      cases e1 : tgE t (.z ds[i]) env2 with
      | none => rw [e1] at post; exact False.elim post
      | some env3 =>
        rw [e1] at post
        refine ⟨by rw [hl0, hn], F3, ts, env2, _, by rw [hl2, hl0], s3, env3, e1, fun σ3 bs hl3 s4 => ?_⟩
        have a3 : σ3.length = σ.length := by rw [bs.1, hl0]
        refine ⟨F3, ts, env3, kp.beside bs hpr, hl3, s4, ?_⟩
        rw [a3]
        exact PostS.seq (post.rebase sF3) fun env4 _ σ4 H4 F4 a4 b4 s4 sf4 post => ⟨by omega, a4, F4, env4, (sF2.trans sF3).trans sf4, b4, s4, post⟩
    · left
      have e0 : ds.drop i = [] := List.drop_eq_nil_iff.mpr (by omega)
      rw [e0] at post
      unfold evalFor at post
      exact ⟨wk.stop i H2 F2 sF2 s2.1.sub (by omega), post σ2 H2 F2 ⟨hl0, kp⟩ hl2 s2 (Sub.refl _)⟩
  cases e1 : evalIt C it env with
  | no => rw [e1] at post; exact False.elim post
  | ex c ds => rw [e1] at post; exact fun H' F' od a e sf hr x => post σ H' F' od a e sf hr x
  | ok ds env1 =>
    rw [e1] at post
    exact fun J H1 F1 hl1 s1 wk sF1 _ => turn ds env1 J H1 F1 hl1 s1 wk (PostS.rebase post sF1)
end
end RF
/-! RFr: every statement. -/
namespace RF
open L2 PySem PySem.Spec PyProof.Rows
/-! ### stores from the right -/
section
variable {env : PySem.Env} {a b d : Expr}
theorem swap2 {x y : Str} {px py pt pt2 : Pos} {kt k2 : Nat} (hk : env.blockKind = .function) (hx : env.kindOf x = some .local) (hy : env.kindOf y = some .local) (hxy : (x == y) = false) (hl : (py.line == px.line) = true)
    (hs : ([a, b].any fun | .Starred .. => true | _ => false) = false) (h1 : [a, b].all (foldedForSure 8) = false) (h2 : [a, b].all (constantsAlone 8) = false) :
    swappedStores [.Tuple [.Name x px, .Name y py] kt pt] (.Tuple [a, b] k2 pt2) env = pure (some [x, y]) := by
  have hyx : (y == x) = false := by rw [Bool.eq_false_iff] at hxy ⊢; exact fun z => hxy (by rw [eq_of_beq z]; exact beq_self_eq_true x)
  have e2 : [x, y].eraseDups.length = 2 := by
    simp [List.eraseDups_cons, hyx, hxy]
  have hxx : (px.line == px.line) = true := beq_self_eq_true _
  unfold swappedStores
  simp only [hk, h1, h2, List.length_cons, List.length_nil, List.head?_cons, Option.map_some, Option.getD_some, Expr.pos, List.filterMap_cons, List.filterMap_nil, hx, hy, hl, hxx, beq_self_eq_true, Bool.and_true, if_true, e2]
  rw [if_neg (by decide), if_neg (by rw [Bool.not_eq_true]; exact hs)]
  rfl
theorem swap3 {x y z : Str} {px py pz pt pt2 : Pos} {kt k2 : Nat} (hk : env.blockKind = .function) (hx : env.kindOf x = some .local) (hy : env.kindOf y = some .local) (hz : env.kindOf z = some .local) (hxy : (x == y) = false) (hxz : (x == z) = false) (hyz : (y == z) = false)
    (hl : (py.line == px.line) = true) (hl2 : (pz.line == px.line) = true)
    (hs : ([a, b, d].any fun | .Starred .. => true | _ => false) = false) (h1 : [a, b, d].all (foldedForSure 8) = false) (h2 : [a, b, d].all (constantsAlone 8) = false) :
    swappedStores [.Tuple [.Name x px, .Name y py, .Name z pz] kt pt] (.Tuple [a, b, d] k2 pt2) env = pure (some [x, y, z]) := by
  have rv : ∀ {u v : Str}, (u == v) = false → (v == u) = false := fun {u v} h => by rw [Bool.eq_false_iff] at h ⊢; exact fun z => h (by rw [eq_of_beq z]; exact beq_self_eq_true u)
  have e2 : [x, y, z].eraseDups.length = 3 := by
    simp [List.eraseDups_cons, rv hxy, hxy, rv hxz, rv hyz]
  have hxx : (px.line == px.line) = true := beq_self_eq_true _
  unfold swappedStores
  simp only [hk, h1, h2, List.length_cons, List.length_nil, List.head?_cons, Option.map_some, Option.getD_some, Expr.pos, List.filterMap_cons, List.filterMap_nil, hx, hy, hz, hl, hl2, hxx, beq_self_eq_true, Bool.and_true, if_true, e2]
  rw [if_neg (by decide), if_neg (by rw [Bool.not_eq_true]; exact hs)]
  rfl
theorem swapNone {ts : List Expr} {u : Expr} {k : Nat} {p : Pos} (h : noSwap u = true) : swappedStores [.Tuple ts k p] u env = pure none := by
  cases u with
  | Tuple us k2 p2 =>
    have h : us.all (foldedForSure 8) = true := h
    unfold swappedStores
    simp only [h, if_true]
    split
    · rfl
    · split
      · rfl
      · split
        · rfl
        · rfl
  | _ => rfl
end
theorem notStar' {Nm : Names} {N : List Str} {m : X} {sc : Scope} {e : Expr} (h : isE Nm N m sc e = true) : (match (generalizing := false) e with | .Starred .. => true | _ => false) = false := by
  cases e <;> first | rfl | (rw [notStar] at h; cases h)
theorem noStars {Nm : Names} {N : List Str} {sc : Scope} : ∀ {es : Xs} {us : List Expr}, isEs Nm N es sc us = true → (us.any fun | .Starred .. => true | _ => false) = false
  | .nil, [], _ => rfl
  | .nil, _ :: _, h => by simp [isEs] at h
  | .cons _ _, [], h => by simp [isEs] at h
  | .cons e es, u :: us, h => by
    have h' : isE Nm N e sc u = true ∧ isEs Nm N es sc us = true := by simpa [isEs] using h
    rw [List.any_cons, noStars h'.2, Bool.or_false]
    exact notStar' h'.1
/-! ### the context of a body -/
structure Stm (Nm : Names) (FA : Fns) (CA : Nat → Option Addr) (C : Cfg) (X : Cx) (W : WX) (w : W0) (sc : Scope) : Prop where
  c : Cok Nm FA CA C X W
  q : ScM Nm FA X w sc
  kind : X.env.scope.kind = .function
  hp : PassesOwn (model X.prog X.w) X.A X.env X.xe
section
variable {Nm : Names} {FA : Fns} {CA : Nat → Option Addr} {C : Cfg} {X : Cx} {W : WX} {w : W0} {sc : Scope} {Wf : Nat}
variable {σ : L2.St} {F F' F1 H H' H1 : Hp} {ts : List (Option V × O)} {Q : VK} {D : Ends} {n : Nat} {pu : Bool} {pr : List Nat} {σ0 : L2.St}
theorem s_setLc (S : Stm Nm FA CA C X W w sc) {i : Nat} {elt : RF.X} {t : Tg} {it : RF.It} {cd : Xo} {own : List Nat} {x : Str} {px pos : Pos} {u : Expr} (h : isE Nm X.N (.comp elt t it cd own) sc u = true) (hx : locB X.N sc i x = true) (hpr : i ∉ pr) (hsw : swB sc x px u = true) :
    PS X (.Assign [.Name x px] u pos) (tS X.K FA CA W w pr σ0 C Wf (.set i (.comp elt t it cd own))) := by
  have c := S.c
  have q := S.q
  have r := q.toScR
  unfold isE at h; split at h
  · rename_i u tg iu ifs sc' cp
    have h1 := ands h
    have h2 := ands h1.1
    have h3 := ands h2.1
    have h4 := ands h3.1
    have h5 := ands h4.1
    have h6 := ands h5.1
    have h7 := ands h6.1
    have hin : ∀ i ∈ tgSlots t, i ∈ own := fun i m => by simpa using List.all_eq_true.mp h5.2 i m
    have hl := locB_ok r hx
    have hsw : (decide (kd sc x = some .local) && (px.line == cp.line) && !(sc'.names.any fun (n, k) => n == x && (k == .local || k == .cell))) = true := hsw
    obtain ⟨q1, q2⟩ := ands hsw
    obtain ⟨q3, q4⟩ := ands q1
    have q5 := r.loc x (of_decide_eq_true q3)
    have eo : (ownOf X.N own).map (·.2) = own := by
      unfold ownOf
      rw [List.map_map]
      exact List.map_id' _
    have he : ∀ (s : Shared) (H : Hp) (C' : Addr) (cl : List (Str × Addr)) (fp : List Addr), PE (X.blk s H sc' (compEnvC sc' cl C' X.env) fp) u (tE X.K FA CA WF w C elt) := fun s H C' cl fp => (sE (w := w) elt (c.blk ..) q.blk h1.2).1
    have ht : ∀ (s : Shared) (H : Hp) (C' : Addr) (cl : List (Str × Addr)) (fp : List Addr), PTs (X.blk s H sc' (compEnvC sc' cl C' X.env) fp) ifs (tCond X.K FA CA w C cd) := fun s H C' cl fp => sIfs (w := w) cd (c.blk ..) q.blk h2.2
    have hg : ∀ (s : Shared) (H : Hp) (C' : Addr) (cl : List (Str × Addr)) (fp : List Addr), L2.PG (X.blk s H sc' (compEnvC sc' cl C' X.env) fp) tg (tTg' X.K FA w X.N.length t) := fun s H C' cl fp => c_tg (w := w) (c.blk ..) ScR.blk h3.2
    refine PS.impL (ps_setLc c.calm c.nd hl.1 q5 (sw_true S.kind q5 q4 (by simpa using q2)) (sIt (w := w) it c q h4.2) (blkOk_sc r h7.1) hg ht he (isIt_fold h4.2)) fun D σ H hn h => ?_
    have k := i_comp (of_decide_eq_true h6.2) hin σ H _ hn (s_store r hx hpr hn h)
    rw [eo]
    exact k
  · cases h
theorem comp_of {N : List Str} {e : RF.X} {u : Expr} {x : Str} {px : Pos} (h : isE Nm N e sc u = true) (hs : swB sc x px u = true) : ∃ elt t it cd own, e = .comp elt t it cd own := by
  cases u with
  | ListComp a b s p => cases e <;> first | exact ⟨_, _, _, _, _, rfl⟩ | exact Bool.noConfusion (show false = true from h)
  | _ => exact Bool.noConfusion (show false = true from hs)
theorem hs_store2 {v1 v2 : V} {o1 o2 : O} {env : Env} {i j : Nat} (hl : env.length = σ.length) (hi : i < σ.length) (hj : j < σ.length) {K : PySem.W.Frag} (s : Hs K FA w F H ((some v1, o1) :: (some v2, o2) :: (lv σ env ++ ts))) :
    Hs K FA w F H (lv ((σ.set i (some v1)).set j (some v2)) ((env.set i (some o1)).set j (some o2)) ++ ts) := by
  have s1 := s.perm (List.Perm.cons _ List.perm_middle.symm)
  have s2 := (s1.store hl hi).ofTemp
  exact s2.store (by simp [hl]) (by simpa using hj)
theorem s_par (S : Stm Nm FA CA C X W w sc) {is : List Nat} {es : Xs} {ts us : List Expr} {k1 k2 : Nat} {p1 p2 pos : Pos} (hi : isEs Nm X.N es sc us = true) (hp : parOk X.N sc is ts us = true) (hpr : ∀ i ∈ is, i ∉ pr) :
    PS X (.Assign [.Tuple ts k1 p1] (.Tuple us k2 p2) pos) (tS X.K FA CA W w pr σ0 C Wf (.par is es)) := by
  have c := S.c
  have q := S.q
  have r := q.toScR
  have bk : X.env.blockKind = .function := by unfold Env.blockKind; rw [S.kind]; rfl
  have ha := (sEs (w := w) es c q hi).1
  unfold parOk at hp
  have p1 := ands hp
  have p2 := ands p1.1
  have f1 : us.all (foldedForSure 8) = false := by simpa using p2.1
  have f2 : us.all (constantsAlone 8) = false := by simpa using p2.2
  have ns := noStars hi
  have hlen := isEs_len hi
  have h := p1.2
  split at h
  · rename_i i j x px y py a b
    simp only [Bool.and_eq_true, decide_eq_true_eq, Bool.not_eq_true'] at h
    obtain ⟨⟨⟨⟨⟨h1, h2⟩, h3⟩, h4⟩, h5⟩, h6⟩ := h
    have lx := r.loc x h3
    have ly := r.loc y h4
    have ij : i ≠ j := fun e => by
      subst e
      rw [h1] at h2
      obtain rfl := Option.some.inj h2
      simp at h5
    refine PS.impL (ps_par c.calm c.nd h1 h2 ij lx ly ha (swap2 bk lx ly h5 h6 ns f1 f2)) fun D σ H hn ⟨F, ts, env, kp, hl, s, post⟩ => ?_
    unfold evalS at post
    refine ⟨F, ts, env, hl, s, ?_⟩
    cases e1 : evalEs C es env with
    | no => rw [e1] at post; exact False.elim post
    | ex c ds => rw [e1] at post; exact fun H' F' od a e sf hr x => post σ H' F' od a e sf hr x
    | ok os env1 =>
      rw [e1] at post
      intro vs H' F' hl1 hv s1 sF _
      have hos : os.length = 2 := by rw [evalEs_len e1, hlen]; rfl
      match os, vs, hos, hv, s1, post with
      | [o1, o2], [v1, v2], _, _, s1, post =>
        have post : PostS X.K FA CA W w pr σ0 D σ.length F ts (.nx ((env1.set i (some o1)).set j (some o2))) := post
        exact ⟨v1, v2, rfl, post _ H' F' ⟨by simp, (kp.set (hpr _ (by simp))).set (hpr _ (by simp))⟩ (by simp [hl1]) (hs_store2 hl1 (by rw [hn]; exact isE_lt h1) (by rw [hn]; exact isE_lt h2) s1) sF⟩
  · rename_i i j l x px y py z pz a b d
    simp only [Bool.and_eq_true, decide_eq_true_eq, Bool.not_eq_true'] at h
    obtain ⟨⟨⟨⟨⟨⟨⟨⟨⟨⟨h1, h2⟩, h3⟩, h4⟩, h5⟩, h6⟩, h7⟩, h8⟩, h9⟩, h10⟩, h11⟩ := h
    have lx := r.loc x h4
    have ly := r.loc y h5
    have lz := r.loc z h6
    have ne : ∀ {i j : Nat} {x y : Str}, X.N[i]? = some x → X.N[j]? = some y → (x == y) = false → i ≠ j := fun {i j x y} h1 h2 h5 e => by
      subst e
      rw [h1] at h2
      obtain rfl := Option.some.inj h2
      simp at h5
    refine PS.impL (ps_par3 c.calm c.nd h1 h2 h3 (ne h1 h2 h7) (ne h1 h3 h8) (ne h2 h3 h9) lx ly lz ha (swap3 bk lx ly lz h7 h8 h9 h10 h11 ns f1 f2)) fun D σ H hn ⟨F, ts, env, kp, hl, s, post⟩ => ?_
    unfold evalS at post
    refine ⟨F, ts, env, hl, s, ?_⟩
    cases e1 : evalEs C es env with
    | no => rw [e1] at post; exact False.elim post
    | ex c ds => rw [e1] at post; exact fun H' F' od a e sf hr x => post σ H' F' od a e sf hr x
    | ok os env1 =>
      rw [e1] at post
      intro vs H' F' hl1 hv s1 sF _
      have hos : os.length = 3 := by rw [evalEs_len e1, hlen]; rfl
      match os, vs, hos, hv, s1, post with
      | [o1, o2, o3], [v1, v2, v3], _, _, s1, post =>
        have post : PostS X.K FA CA W w pr σ0 D σ.length F ts (.nx (((env1.set i (some o1)).set j (some o2)).set l (some o3))) := post
        have s1 : Hs X.K FA w F' H' ((some v1, o1) :: (some v2, o2) :: (some v3, o3) :: (lv σ env1 ++ ts)) := s1
        have s2 := s1.perm (List.Perm.cons _ (List.Perm.cons _ List.perm_middle.symm))
        have s3 := (hs_store2 hl1 (by rw [hn]; exact isE_lt h1) (by rw [hn]; exact isE_lt h2) s2).ofTemp
        have hl' : l < σ.length := by rw [hn]; exact isE_lt h3
        exact ⟨v1, v2, v3, rfl, post _ H' F' ⟨by simp, ((kp.set (hpr _ (by simp))).set (hpr _ (by simp))).set (hpr _ (by simp))⟩ (by simp [hl1]) (s3.store (by simp [hl1]) (by simpa using hl')) sF⟩
  · cases h
mutual
theorem sS (S : Stm Nm FA CA C X W w sc) : ∀ (m : RF.S) {st : Stmt}, isS Nm X.N pr sc m st = true → PS X st (tS X.K FA CA W w pr σ0 C Wf m)
  | .set i e, st, h => by
    unfold isS at h; split at h
    · rename_i x px u pos
      have h0 := ands h
      have h1 := ands h0.1
      have h2 := ands h1.1
      have hpr : i ∉ pr := by simpa using h0.2
      by_cases hu : isComp u = true
      · have h3 : swB sc x px u = true := by have := h1.2; rw [hu] at this; simpa using this
        obtain ⟨elt, t, it, cd, own, rfl⟩ := comp_of h2.2 h3
        exact s_setLc S h2.2 h2.1 hpr h3
      · exact s_set S.c S.q.toScR h2.1 hpr (by simpa using hu) (sE e S.c S.q h2.2).1
    · cases h
  | .asg is e, st, h => by
    unfold isS at h; split at h
    · have h0 := ands h
      have h1 := ands h0.1
      have h2 := ands h1.1
      exact s_asg S.c S.q.toScR h2.1 (offB_ok h0.2) (fun _ _ z => by cases z) (swapNone h1.2) (by rfl) (sE e S.c S.q h2.2).1
    · cases h
  | .par is es, st, h => by
    unfold isS at h; split at h
    · have h0 := ands h
      have h1 := ands h0.1
      exact s_par S h1.1 h1.2 (offB_ok h0.2)
    · cases h
  | .sto i k e, st, h => by
    unfold isS at h; split at h
    · have h1 := ands h
      have h2 := ands h1.1
      exact s_sto S.q.toScR h2.1 h2.2 (sE k S.c S.q h2.2).1 (sE e S.c S.q h1.2).1
    · cases h
  | .app i e, st, h => by
    unfold isS at h; split at h
    · have h1 := ands h
      have h2 := ands h1.1
      have h3 := ands h2.1
      exact s_app S.q.toScR h3.1 h3.2 h2.2 h1.2 (sE e S.c S.q h1.2).1
    · cases h
  | .expr e, st, h => by
    unfold isS at h; split at h
    · have h1 := ands h
      exact s_expr (by simpa using h1.2) (sE e S.c S.q h1.1).1
    · cases h
  | .ret e, st, h => by
    unfold isS at h; split at h
    · exact s_ret S.q.toScR h (sE e S.c S.q h).1
    · cases h
  | .ret0, st, h => by
    unfold isS at h; split at h
    · exact s_ret0
    · cases h
  | .ite e a b, st, h => by
    unfold isS at h; split at h
    · have h1 := ands h
      have h2 := ands h1.1
      exact s_ite (sE e S.c S.q h2.1).2 (sSs S a h2.2) (sSs S b h1.2)
    · cases h
  | .for t it b, st, h => by
    unfold isS at h; split at h
    · have h0 := ands h
      have h1 := ands h0.1
      have h2 := ands h1.1
      exact s_for S.c S.q.toScR S.hp (sIt it S.c S.q h2.1) (isIt_fold h2.1) h2.2 (offB_ok h0.2) (sSs S b h1.2)
    · cases h
  | .whl e b, st, h => by
    unfold isS at h; split at h
    · have h1 := ands h
      exact s_whl S.hp (sE e S.c S.q h1.1).2 (sSs S b h1.2)
    · cases h
  | .pass, st, h => by
    unfold isS at h; split at h
    · exact s_pass
    · cases h
theorem sSs (S : Stm Nm FA CA C X W w sc) : ∀ (m : RF.Ss) {st : List Stmt}, isSs Nm X.N pr sc m st = true → PSs X st (tSs X.K FA CA W w pr σ0 C Wf m)
  | .nil, st, h => by
    unfold isSs at h; split at h
    · exact PSs.impL pss_nil fun D σ H hn ⟨F, ts, env, kp, hl, s, post⟩ => (by
        unfold evalSs at post
        exact post σ H F ⟨rfl, kp⟩ hl s (Sub.refl _))
    · cases h
  | .cons m r, st, h => by
    unfold isSs at h; split at h
    · have h1 := ands h
      refine PSs.impL (pss_cons (sS S m h1.1) (sSs S r h1.2)) fun D σ H hn ⟨F, ts, env, kp, hl, s, post⟩ => ?_
      unfold evalSs at post
      refine ⟨F, ts, env, kp, hl, s, PostS.seq' post fun env4 _ σ4 H4 F4 a4 b4 s4 sf4 post => ⟨F4, ts, env4, a4.2, by rw [b4, a4.1], s4, by rw [a4.1]; exact post⟩⟩
    · cases h
end
end
end RF
/-! RFs: defs. -/
namespace RF
open L2 PySem PySem.Spec PyProof.Rows
theorem start_get {N : List Str} {vs : List V} {i : Nat} {v : V} (h : vs[i]? = some v) : (start N vs)[i]? = some (some v) := by
  have hi := (List.getElem?_eq_some_iff.mp h).1
  unfold L2.start
  rw [List.getElem?_append_left (by simpa using hi), List.getElem?_map, h]
  rfl
theorem lv_nones : ∀ (σ : L2.St) (n : Nat), lv σ (List.replicate n none) = []
  | [], _ => by simp [lv]
  | _ :: _, 0 => by simp [lv]
  | u :: σ, n + 1 => by rw [List.replicate_succ, lv_none]; exact lv_nones σ n
theorem lv_start {N : List Str} : ∀ {vs : List V} {os : List O} {τ : L2.St} {n : Nat}, vs.length = os.length → lv (vs.map some ++ τ) (os.map some ++ List.replicate n none) = (vs.map some).zip os
  | [], [], τ, n, _ => lv_nones τ n
  | [], _ :: _, _, _, h => by simp at h
  | _ :: _, [], _, _, h => by simp at h
  | v :: vs, o :: os, τ, n, h => by
    show lv (some v :: (vs.map some ++ τ)) (some o :: (os.map some ++ List.replicate n none)) = (some v, o) :: (vs.map some).zip os
    rw [lv_some, lv_start (N := N) (by simpa using h)]
theorem modeOk_len : ∀ {ms : List Bool} {os : List O}, modeOk ms os = true → os.length = ms.length
  | [], [], _ => rfl
  | [], _ :: _, h => by simp [modeOk] at h
  | _ :: _, [], h => by simp [modeOk] at h
  | false :: ms, .z d :: os, h => by
    have h' : modeOk ms os = true := h
    simp [modeOk_len h']
  | false :: ms, .l _ :: os, h => by simp [modeOk] at h
  | false :: ms, .t _ :: os, h => by simp [modeOk] at h
  | true :: ms, .l us :: os, h => by
    have h' : (us.all O.isZ && modeOk ms os) = true := h
    simp [modeOk_len (ands h').2]
  | true :: ms, .z _ :: os, h => by simp [modeOk] at h
  | true :: ms, .t _ :: os, h => by simp [modeOk] at h
/-- the parameters that are changed -/
def prOf (ms : List Bool) : List Nat := (List.range ms.length).filter fun i => ms.getD i false
theorem prOf_mem {ms : List Bool} {j : Nat} (h : ms[j]? = some true) : j ∈ prOf ms := by
  unfold prOf
  rw [List.mem_filter, List.mem_range]
  have hi := (List.getElem?_eq_some_iff.mp h).1
  exact ⟨hi, by simp [List.getD, h]⟩
section
variable {K : PySem.W.Frag} {FA : Fns} {CA : Nat → Option Addr} {w : W0} {F H : Hp} {σ : L2.St}
theorem Hs.dropL : ∀ {l ts : List (Option V × O)}, Hs K FA w F H (l ++ ts) → Hs K FA w F H ts
  | [], _, s => s
  | _ :: l, ts, s => Hs.dropL (l := l) (Hs.tail s)
theorem outs_set : ∀ {ms : List Bool} {env : Env} {i k : Nat} {o : Option O}, i < k → outs? (env.set i o) ms k = outs? env ms k
  | [], _, _, _, _, _ => rfl
  | false :: ms, env, i, k, o, h => outs_set (ms := ms) (Nat.lt_succ_of_lt h)
  | true :: ms, env, i, k, o, h => by
    have ih := outs_set (ms := ms) (env := env) (o := o) (Nat.lt_succ_of_lt h)
    show (match getE (env.set i o) k with | some (.l os) => (outs? (env.set i o) ms (k + 1)).map (O.l os :: ·) | _ => none) = (match getE env k with | some (.l os) => (outs? env ms (k + 1)).map (O.l os :: ·) | _ => none)
    rw [getE_set_ne (Nat.ne_of_lt h), ih]
theorem outs_ok : ∀ {ms : List Bool} {k : Nat} {vs : List V} {outs : List O} {env : Env} {ts : List (Option V × O)}, env.length = σ.length → outs? env ms k = some outs → (∀ j v, ms[j]? = some true → vs[j]? = some v → σ[k + j]? = some (some v)) →
    vs.length = ms.length → Hs K FA w F H (lv σ env ++ ts) → Hs K FA w F H (outsOf ms vs outs ++ ts)
  | [], k, vs, outs, env, ts, hl, e, hv, hn, s => by
    have : outsOf [] vs outs = [] := by cases vs <;> rfl
    rw [this]
    exact s.dropL
  | _ :: _, _, [], _, _, _, _, _, _, hn, _ => by simp at hn
  | false :: ms, k, v :: vs, outs, env, ts, hl, e, hv, hn, s => by
    have e : outs? env ms (k + 1) = some outs := e
    show Hs K FA w F H (outsOf ms vs outs ++ ts)
    exact outs_ok hl e (fun j v h1 h2 => by have := hv (j + 1) v h1 h2; rw [← this]; congr 1; omega) (by simpa using hn) s
  | true :: ms, k, v :: vs, outs, env, ts, hl, e, hv, hn, s => by
    have e : (match getE env k with | some (.l os) => (outs? env ms (k + 1)).map (O.l os :: ·) | _ => none) = some outs := e
    cases e1 : getE env k with
    | none => rw [e1] at e; cases e
    | some o =>
      rw [e1] at e
      cases o with
      | z d => cases e
      | t os => cases e
      | l os =>
        have e : (outs? env ms (k + 1)).map (O.l os :: ·) = some outs := e
        cases e2 : outs? env ms (k + 1) with
        | none => rw [e2] at e; cases e
        | some outs2 =>
          rw [e2] at e
          obtain rfl := Option.some.inj e
          obtain ⟨v', e3, s1⟩ := s.take hl e1
          have e4 := hv 0 v rfl rfl
          rw [Nat.add_zero, e3] at e4
          obtain rfl : v' = v := by simpa using e4
          have e5 : outs? (env.set k none) ms (k + 1) = some outs2 := by rw [← e2]; exact outs_set (Nat.lt_succ_self k)
          have s2 := outs_ok (by rw [List.length_set]; exact hl) e5 (fun j v h1 h2 => by have := hv (j + 1) v h1 h2; rw [← this]; congr 1; omega) (by simpa using hn) s1.toTemp
          exact s2.perm List.perm_middle
end
/-! ### the defs of the text -/
structure TopOk (K : PySem.W.Frag) (mg : Str → Option Value) (Nm : Names) (FA : Fns) (FD : Nat → FuncData) (T : Nat → Option Fd) : Prop where
  mks : Nm.mks = false
  fns : ∀ f a, FA f = some a → ∃ x, Nm.fn f = some x ∧ mg x = some (.ref a) ∧ PySem.W.keepIn K (.ref a) = true ∧ Binds K (FD f) (Nm.pars f) [] ∧
    (∀ n ks perm, (f, n, ks, perm) ∈ Nm.kw → ∀ (s : Shared) (us ws : List Value), K.In s.heap → us.length = n → ws.length = ks.length → BindsTo s (FD f) ⟨us, ks.zip ws⟩ ((Nm.pars f).zip (permL .none us ws perm))) ∧
    ∃ nm qual params body scope dvs kws F N, FunD K nm qual params body scope dvs kws a (FD f) ∧ T f = some F ∧ FnScope N (Nm.pars f) scope ∧ isSs Nm N (prOf F.modes) scope F.body body = true ∧ F.modes.length = (Nm.pars f).length ∧ F.slots = N.length
  lam : ∀ k L, FA.ml k L → ∃ (ps N : List Str) (e : X), (∀ (c : Addr) (pm ctv : Value) (us : List Value), us.length = ps.length → bindArgs (L.fd c pm ctv) ⟨us, []⟩ = pure (ps.zip us)) ∧
    T k = some ⟨List.replicate ps.length false, N.length, .cons (.ret e) .nil⟩ ∧ (∀ i, e ≠ .v i) ∧ NdefX.nscB N ps [] L.scope = true ∧ isE { Nm with lamB := fun _ _ _ _ => false } N e L.scope L.body = true
  has : ∀ f x, Nm.fn f = some x → ∃ a, FA f = some a
  kns : ∀ j x i, Nm.kn j = some (x, i) → ∃ t, mg x = some (.int i t)
  blt : ∀ x ∈ bltNames, mg x = none
/-- a promise with tables -/
def spGT (TM : List Addr) (TT : List (Addr × Str)) (K : PySem.W.Frag) (FA : Fns) (CA : Nat → Option Addr) (ms : List Bool) (r : List O → CR) : Sp := fun vs H Q E =>
  ∃ (F : Hp) (os : List O), vs.length = ms.length ∧ modeOk ms os = true ∧ Hs K FA ⟨H, TM ++ topA vs os, F, TT⟩ F H ((vs.map some).zip os) ∧
    match r os with
    | .rt o outs => ∀ v H' F', Sub F F' → Hs K FA ⟨H, TM ++ topA vs os, F, TT⟩ F' H' ((some v, o) :: outsOf ms vs outs) → Q v H'
    | .ex c ds => ∀ H' F' od a, CA c = some a → Sub F F' → HR ⟨H, TM ++ topA vs os, F, TT⟩ F' H' → ExcAt K FA F' H' ds od → E (.ref a) od H'
    | .no => False
section
variable {K : PySem.W.Frag} {FA : Fns} {CA : Nat → Option Addr} {W : WX} {w0 : W0} {H : Hp} {Q : VK} {E : XK} {N : List Str} {vs : List V} {os : List O} {F0 : Hp} {C : Cfg} {Wf : Nat} {F : Fd}
/-- from a def's promise to its body's reading -/
theorem body_start (h1 : vs.length = F.modes.length) (hos : os.length = F.modes.length) (hle : F.modes.length ≤ N.length) (hsl : F.slots = N.length) (h3 : Hs K FA w0 F0 H ((vs.map some).zip os)) (hW : ∀ a od σ H', E a od H' → W a od σ H')
    (h4 : match runF C Wf F os with
      | .rt o outs => ∀ v H' F', Sub F0 F' → Hs K FA w0 F' H' ((some v, o) :: outsOf F.modes vs outs) → Q v H'
      | .ex c ds => ∀ H' F' od a, CA c = some a → Sub F0 F' → HR w0 F' H' → ExcAt K FA F' H' ds od → E (.ref a) od H'
      | .no => False) :
    tSs K FA CA W w0 (prOf F.modes) (L2.start N vs) C Wf F.body { nx := fun _ H' => Q .non H', rt := Q } (L2.start N vs) H := by
  refine ⟨F0, [], os.map some ++ List.replicate (F.slots - os.length) none, fun i _ => rfl, ?_, ?_, ?_⟩
  · unfold L2.start
    simp only [List.length_append, List.length_map, List.length_replicate]
    rw [h1, hos, hsl]
  · rw [List.append_nil]
    unfold L2.start
    rw [lv_start (N := N) (by rw [h1, hos])]
    exact h3
  · unfold runF at h4
    rw [if_pos hos] at h4
    have hlen : (L2.start N vs).length = N.length := by
      unfold L2.start
      simp only [List.length_append, List.length_map, List.length_replicate]
      omega
    have kp : ∀ {σ' : L2.St}, Kp (prOf F.modes) (L2.start N vs) σ' → ∀ j v, F.modes[j]? = some true → vs[j]? = some v → σ'[0 + j]? = some (some v) := fun {σ'} k j v h1 h2 => by
      rw [Nat.zero_add, k j (prOf_mem h1)]
      exact start_get h2
    revert h4
    generalize evalSs C Wf F.body (os.map some ++ List.replicate (F.slots - os.length) none) = res
    intro h4
    cases res with
    | nx env =>
      intro σ' H' F' hk hl s sF
      have h4 : (match (match outs? env F.modes 0 with | some outs => CR.rt (.z .non) outs | none => .no) with
        | .rt o outs => ∀ v H' F', Sub F0 F' → Hs K FA w0 F' H' ((some v, o) :: outsOf F.modes vs outs) → Q v H'
        | .ex c ds => ∀ H' F' od a, CA c = some a → Sub F0 F' → HR w0 F' H' → ExcAt K FA F' H' ds od → E (.ref a) od H'
        | .no => False) := h4
      cases eo : outs? env F.modes 0 with
      | none => rw [eo] at h4; exact False.elim h4
      | some outs =>
        rw [eo] at h4
        have s2 := outs_ok (by rw [hl, hk.1]) eo (kp hk.2) h1 s
        rw [List.append_nil] at s2
        exact h4 .non H' F' sF (s2.add .non)
    | rt o env =>
      intro v σ' H' F' hk hl s sF
      have h4 : (match (match outs? env F.modes 0 with | some outs => CR.rt o outs | none => .no) with
        | .rt o outs => ∀ v H' F', Sub F0 F' → Hs K FA w0 F' H' ((some v, o) :: outsOf F.modes vs outs) → Q v H'
        | .ex c ds => ∀ H' F' od a, CA c = some a → Sub F0 F' → HR w0 F' H' → ExcAt K FA F' H' ds od → E (.ref a) od H'
        | .no => False) := h4
      cases eo : outs? env F.modes 0 with
      | none => rw [eo] at h4; exact False.elim h4
      | some outs =>
        rw [eo] at h4
        have s2 := outs_ok (by rw [hl, hk.1]) eo (kp hk.2) h1 s.toTemp
        have s3 := s2.perm List.perm_middle
        rw [List.append_nil] at s3
        exact h4 v H' F' sF s3
    | ex c ds => exact fun σ' H' F' od a ea sF hr x => hW _ _ _ _ (h4 H' F' od a ea sF hr x)
    | no => exact h4
end
theorem Cok.mk' {P : Program} {wd : World} {Nm : Names} {FA : Fns} {CA : Nat → Option Addr} {FD : Nat → FuncData} {T : Nat → Option Fd} {Wf n : Nat} {X : Cx} {W : WX} (t : TopOk X.K X.mg Nm FA FD T) (m : Bool) (lB : Nat → Arguments → Scope → Expr → Bool) (hc : X.calm = true) (hN : X.N.Nodup) (hu : X.A.units + 65 < cLine) (tk : Takes X W) (hr : Room n X.A)
    (h1 : ∀ f a, FA f = some a → FnOk X.prog X.w X.K X.mg X.base (L2.CX X.prog X.w) n a (FD f) (Nm.pars f) (spG X.K FA CA (sigT T f) (G T Wf n f)))
    (h2 : ∀ k L, FA.ml k L → ∃ ps : List Str, (∀ (c : Addr) (pm ctv : Value) (us : List Value), us.length = ps.length → bindArgs (L.fd c pm ctv) ⟨us, []⟩ = pure (ps.zip us)) ∧
      ∀ f c pm ctv, FnOk X.prog X.w X.K X.mg X.base (L2.CX X.prog X.w) n f (L.fd c pm ctv) ps (spK X.K FA CA (sigT T k) (G T Wf n k) f c L pm ctv)) :
    Cok { Nm with mks := m, lamB := lB } FA CA ⟨G T Wf n, sigT T⟩ X W := by
  refine ⟨hc, hN, hu, tk, fun g b eb => ?_, fun k L hk => ?_, t.has, t.kns, t.blt⟩
  · obtain ⟨x, e1, e2, e3, e4, e5, _⟩ := t.fns g b eb
    exact ⟨x, n, FD g, e1, e2, e3, e4, hr, h1 g b eb, e5⟩
  · obtain ⟨ps, b, f⟩ := h2 k L hk
    exact ⟨n, ps, hr, b, f⟩
section
variable {P : Program} {wd : World} {K : PySem.W.Frag} {mg : Str → Option Value} {base : Heap} {Nm : Names} {FA : Fns} {CA : Nat → Option Addr} {FD : Nat → FuncData} {T : Nat → Option Fd} {Wf : Nat}
theorem evalG {n f : Nat} {F : Fd} (hT : T f = some F) (os : List O) : G T Wf (n + 1) f os = runF ⟨G T Wf n, sigT T⟩ Wf F os := by
  unfold G; rw [hT]; rfl
theorem TopOk.all (t : TopOk K mg Nm FA FD T) : ∀ n, (∀ f a, FA f = some a → FnOk P wd K mg base (L2.CX P wd) n a (FD f) (Nm.pars f) (spG K FA CA (sigT T f) (G T Wf n f))) ∧
    (∀ k L, FA.ml k L → ∃ ps : List Str, (∀ (c : Addr) (pm ctv : Value) (us : List Value), us.length = ps.length → bindArgs (L.fd c pm ctv) ⟨us, []⟩ = pure (ps.zip us)) ∧
      ∀ f c pm ctv, FnOk P wd K mg base (L2.CX P wd) n f (L.fd c pm ctv) ps (spK K FA CA (sigT T k) (G T Wf n k) f c L pm ctv))
  | 0 => by
    refine ⟨fun f a e => ?_, fun k L hk => ?_⟩
    · obtain ⟨x, e1, e2, e3, e4, e5, nm, qual, params, body, scope, dvs, kws, F, N, hF, hT, S, hs, hm, hsl⟩ := t.fns f a e
      have hsig : sigT T f = F.modes := by unfold sigT; rw [hT]
      exact ⟨fun vs H Q E ⟨F0, os, h1, _⟩ => by rw [h1, hsig, hm], fun A outer s H args us vs Q E hr he hb hv ⟨F0, os, h1, h2, h3, h4⟩ => False.elim h4⟩
    · obtain ⟨ps, N, e, hb, hT, hv, S, hi⟩ := t.lam k L hk
      have hsig : sigT T k = List.replicate ps.length false := by unfold sigT; rw [hT]
      exact ⟨ps, hb, fun f c pm ctv => ⟨fun vs H Q E ⟨_, _, F0, os, h1, _⟩ => by rw [h1, hsig, List.length_replicate], fun A outer s H args us vs Q E hr he hb hv ⟨_, _, F0, os, h1, h2, h3, h4⟩ => False.elim h4⟩⟩
  | n + 1 => by
    obtain ⟨ihF, ihL⟩ := t.all n
    refine ⟨fun f a e => ?_, fun k L hk => ?_⟩
    · obtain ⟨x, e1, e2, e3, e4, e5, nm, qual, params, body, scope, dvs, kws, F, N, hF, hT, S, hs, hm, hsl⟩ := t.fns f a e
      have hsig : sigT T f = F.modes := by unfold sigT; rw [hT]
      have hle : (Nm.pars f).length ≤ N.length := by
        have := congrArg List.length S.pre
        rw [List.length_take] at this
        omega
      refine FunD.ok hF S (fun vs H Q E ⟨F0, os, h1, _⟩ => by rw [h1, hsig, hm]) fun cdv A outer s H vs Q E hr ⟨F0, os, h1, h2, h3, h4⟩ => ?_
      rw [hsig] at h1 h2
      have hos := modeOk_len h2
      let X := cxOf (L2.CX P wd) P wd K mg base N qual scope a cdv A outer s H E
      let W : WX := fun cls d _ H => E cls d H
      have tk : Takes X W := takes_of (X := X) rfl rfl rfl rfl
      have c : Cok { Nm with mks := Nm.mks, lamB := Nm.lamB } FA CA ⟨G T Wf n, sigT T⟩ X W := Cok.mk' (P := P) (wd := wd) (X := X) t Nm.mks Nm.lamB rfl S.nd (by have := hr.un; show (A.deeper _).units + 65 < cLine; omega) tk hr ihF ihL
      have St : Stm Nm FA CA ⟨G T Wf n, sigT T⟩ X W ⟨H, topA vs os, F0, []⟩ scope := ⟨c, ⟨⟨fun x h => h, fun x h => ⟨h, rfl⟩, fun x h => .inr h, fun x h => h⟩, fun z => by rw [t.mks] at z; cases z⟩, S.kind, passes_of (X := X) rfl⟩
      rw [evalG hT, hsig] at h4
      exact ⟨_, sSs (X := X) St F.body hs, body_start (CA := CA) h1 hos (by rw [hm]; exact hle) hsl h3 (fun a od σ H' z => z) h4⟩
    · obtain ⟨ps, N, e, hb, hT, hv, S', hi⟩ := t.lam k L hk
      have S := NdefX.nscope_by S'
      have hsig : sigT T k = List.replicate ps.length false := by unfold sigT; rw [hT]
      refine ⟨ps, hb, fun f cc pm ctv => ⟨fun vs H Q E ⟨_, _, F0, os, h1, _⟩ => by rw [h1, hsig, List.length_replicate], fun A outer s H args us vs Q E hr e0 hbind r ⟨hf, hcd, F0, os, h1, h2, h3, h4⟩ => ?_⟩⟩
      rw [hsig] at h1 h2
      have hos := modeOk_len h2
      rw [List.length_replicate] at h1 hos
      obtain ⟨⟨od, sl, ho⟩, _, _⟩ := e0.hok f _ hf
      obtain ⟨⟨oc, cvs, tq, c1, c2, c3⟩, _, _⟩ := e0.hok cc _ hcd
      have lim : s.heap.NoLimit := e0.mod.nolimit.keeps fun b o q => (e0.bs b o q).1
      let NF0 : NdefX.NF := ⟨"<lambda>", L.qual, L.params, [], L.scope, [], cc⟩
      let X := NdefX.ncx (L2.CX P wd) P wd K mg base N NF0 f A outer s H E
      let W : WX := fun cls d _ H => E cls d H
      have tk : Takes X W := takes_of (X := X) rfl rfl rfl rfl
      have hr' : Room n X.A := hr.deeper _
      have c : Cok { Nm with mks := Nm.mks, lamB := fun _ _ _ _ => false } FA CA ⟨G T Wf n, sigT T⟩ X W := Cok.mk' (P := P) (wd := wd) (X := X) t Nm.mks (fun _ _ _ _ => false) rfl S.nd (by have := hr'.un; omega) tk hr' ihF ihL
      have q : ScM { Nm with lamB := fun _ _ _ _ => false } FA X ⟨H, topA vs os, F0, []⟩ L.scope := ⟨⟨fun x h => h, fun x h => absurd rfl (S.nocell _ (PySem.mem_of_lookup h)), fun x h => .inr h, fun x h => h⟩, fun z => by rw [t.mks] at z; cases z⟩
      rw [evalG hT, hsig] at h4
      unfold runF at h4
      rw [if_pos (by show os.length = (List.replicate ps.length false).length; rw [List.length_replicate]; exact hos)] at h4
      refine PySem.W.kla_callFunE hr.depth ho rfl S.co S.gen rfl ⟨cc, oc, cvs, tq, rfl, c1, c2, c3⟩ (hbind _ _ _ _ ?_)
      refine wpAny_newFunctionEnv S.nocell (fun ⟨y, _⟩ hy => S.par y (List.of_mem_zip hy).1) (fun h₁ hns hsb => ⟨lim.fresh _ hsb, ?_⟩) S.kind
      show codeAny _ _ (.expr L.body (NdefX.envF NF0 f s.heap.objs.size)) _ _
      have kp : ∀ b o, s.heap.get? b = some o → h₁.get? b = some o := fun b o q => hsb.extBut b o (Nat.ne_of_lt (Heap.lt_size q)) (Heap.get?_push_of_some _ q)
      have CA0 : NdefX.CellsAt NF0.cl [] [] s.heap H := ⟨rfl, fun y c z => (nomatch z), fun x y c z => (nomatch z), fun i y z => (nomatch z)⟩
      have I : L2.Inv X [] (NdefX.startF N vs []) H { s with heap := h₁, toks := s.toks + (ps.zip us).length } := NdefX.inv_startN S hr.hd e0 h1 r CA0 hns kp
      have hpl : ps.length ≤ N.length := by
        have z := congrArg List.length S.pre
        rw [List.length_take, List.length_append] at z
        have : ([] : List Str).length = 0 := rfl
        omega
      have rd : tE K FA CA W ⟨H, topA vs os, F0, []⟩ ⟨G T Wf n, sigT T⟩ e (NdefX.startF N vs []) H Q := by
        refine ⟨F0, [], os.map some ++ List.replicate (N.length - os.length) none, ?_, ?_, ?_⟩
        · unfold NdefX.startF
          simp only [List.length_append, List.length_map, List.length_replicate, List.length_nil]
          omega
        · rw [List.append_nil]
          unfold NdefX.startF
          rw [lv_start (N := N) (by rw [h1, hos])]
          exact h3
        · revert h4
          show (match finish (List.replicate ps.length false) (evalSs ⟨G T Wf n, sigT T⟩ Wf (.cons (.ret e) .nil) (os.map some ++ List.replicate (N.length - os.length) none)) with
            | .rt o outs => ∀ v H' F', Sub F0 F' → Hs K FA ⟨H, topA vs os, F0, []⟩ F' H' ((some v, o) :: outsOf (List.replicate ps.length false) vs outs) → Q v H'
            | .ex c ds => ∀ H' F' od a, CA c = some a → Sub F0 F' → HR ⟨H, topA vs os, F0, []⟩ F' H' → ExcAt K FA F' H' ds od → E (.ref a) od H'
            | .no => False) → _
          unfold evalSs
          rw [evalS_ret hv]
          have no : ∀ (m : Nat) (env : Env) (i : Nat), outs? env (List.replicate m false) i = some [] := fun m => by
            induction m with
            | zero => intro env i; rfl
            | succ m ih => intro env i; rw [List.replicate_succ]; exact ih env (i + 1)
          have no2 : ∀ (m : Nat) (vs : List V) (us : List O), outsOf (List.replicate m false) vs us = [] := fun m => by
            induction m with
            | zero => intro vs us; cases vs <;> rfl
            | succ m ih => intro vs us; cases vs with
              | nil => rfl
              | cons v vs => rw [List.replicate_succ]; exact ih vs us
          cases evalE ⟨G T Wf n, sigT T⟩ e (os.map some ++ List.replicate (N.length - os.length) none) with
          | no => intro h4; exact h4
          | ex c ds => intro h4; exact h4
          | ok o env1 =>
            intro h4
            have h4 : (match (match outs? env1 (List.replicate ps.length false) 0 with | some outs => CR.rt o outs | none => .no) with
              | .rt o outs => ∀ v H' F', Sub F0 F' → Hs K FA ⟨H, topA vs os, F0, []⟩ F' H' ((some v, o) :: outsOf (List.replicate ps.length false) vs outs) → Q v H'
              | .ex c ds => ∀ H' F' od a, CA c = some a → Sub F0 F' → HR ⟨H, topA vs os, F0, []⟩ F' H' → ExcAt K FA F' H' ds od → E (.ref a) od H'
              | .no => False) := h4
            rw [no] at h4
            intro v H' F' hl s1 sF _
            refine h4 v H' F' sF ?_
            rw [no2]
            exact s1.toTemp.dropL
      refine PySem.W.kla_codeExpr (wpAny_mono (((sE (X := X) (W := W) (w := ⟨H, topA vs os, F0, []⟩) e c q hi).1).run [] _ _ H Q I rd) (fun v s' hq => ?_) fun e s' hq => hq)
      obtain ⟨w', H', J', rv, q⟩ := hq
      exact ⟨w', H', J'.os, J'.bare, J'.base, J'.hok, rv, q⟩
end
end RF
/-! RFt: the law as a def; the facts of a top; the end. -/
namespace RF
open L2 PySem PySem.Spec PyProof.Rows
/-! ### the law -/
def spLaw (K : PySem.W.Frag) (P : Addr) (r : List O → CR) : Sp := fun vs H Q E =>
  ∃ (a : Addr) (ns : List Int), vs = [.ref a] ∧ SqL K H a (ns.map V.int) ∧ H P = some (.tbl #[]) ∧ r [.z (.scr ns)] = .rt (.z (.bl true)) [] ∧ ∀ H', Q (.bl true) H'
/-- all but the tables -/
def offT (H : Hp) : Hp := fun b => match H b with
  | some (.tbl _) => none
  | x => x
theorem offT_some {H : Hp} {b : Addr} {o : HO} (h : offT H b = some o) : H b = some o ∧ ∀ ps, o ≠ .tbl ps := by
  unfold offT at h
  cases e : H b with
  | none => rw [e] at h; cases h
  | some x =>
    rw [e] at h
    cases x <;> first | (cases h; exact ⟨rfl, fun ps z => by cases z⟩) | cases h
theorem offT_of {H : Hp} {b : Addr} {o : HO} (h : H b = some o) (n : ∀ ps, o ≠ .tbl ps) : offT H b = some o := by
  unfold offT
  rw [h]
  cases o <;> first | rfl | exact absurd rfl (n _)
def qualL (qual : Str) (scope : Scope) (a c : Addr) : Str := (envOfC qual scope 0 a (.ref c)).qual ++ "<lambda>"
section
variable {Pr : Program} {wd : World} {K : PySem.W.Frag} {mg : Str → Option Value} {base : Heap} {Nm : Names} {FA : Fns} {CA : Nat → Option Addr} {FD : Nat → FuncData} {T : Nat → Option Fd} {Wf : Nat}
theorem TopOk.law (t : TopOk K mg Nm FA FD T) {a c P : Addr} {fd : FuncData} {nm qual : Str} {params : Arguments} {body : List Stmt} {scope : Scope} {dvs : List V} {kws : List (Str × V)} {F : Fd} {N : List Str} {n : Nat}
    (hF : FunD K nm qual params body scope dvs kws a fd) (S : FnScope N ["script"] scope) (hs : isSs { Nm with mks := true } N [] scope F.body body = true) (hm : F.modes = [false]) (hsl : F.slots = N.length)
    (hcode : ∀ o fd', K.lookup a = some o → o.data = .func fd' → fd'.code = .ref c) (tb : LamX.TabB base mg c P)
    (hml : ∀ k params scope' body, Nm.lamB k params scope' body = true → FA.ml k ⟨qualL qual scope a c, params, body, scope'⟩ ∧ (∀ y ∈ scope'.names, y.2 ≠ .free) ∧ ∀ env, defaultsOf params env = ([], [])) :
    FnOk Pr wd K mg base (L2.CX Pr wd) (n + 1) a fd ["script"] (spLaw K P (runF ⟨G T Wf n, sigT T⟩ Wf F)) := by
  obtain ⟨ihF, ihL⟩ := TopOk.all (P := Pr) (wd := wd) (base := base) (CA := fun _ => none) (Wf := Wf) t n
  obtain ⟨oc, od, dV, kV, doc, pm, an, cdv, ct, osl, rfl, lk, hcd, _, _⟩ := hF.ex
  have ec : cdv = .ref c := hcode _ _ lk rfl
  subst ec
  have hle : 1 ≤ N.length := by
    have := congrArg List.length S.pre
    rw [List.length_take] at this
    simp at this
    omega
  refine fn_of lk hcd S (fun vs H Q E ⟨_, _, h, _⟩ => by rw [h]; rfl) fun A outer s H vs Q E hr ⟨a', ns, h0, hS, hP, hres, hq⟩ => ?_
  subst h0
  let X := cxOf (L2.CX Pr wd) Pr wd K mg base N qual scope a (.ref c) A outer s H E
  let W : WX := fun cls d _ H => E cls d H
  let w0 : W0 := ⟨H, [P], offT H, [(P, qualL qual scope a c)]⟩
  have tk : Takes X W := takes_of (X := X) rfl rfl rfl rfl
  have ck : Cok { Nm with mks := true } FA (fun _ => none) ⟨G T Wf n, sigT T⟩ X W := Cok.mk' (P := Pr) (wd := wd) (X := X) t true Nm.lamB rfl S.nd (by have := hr.un; show (A.deeper _).units + 65 < cLine; omega) tk hr ihF ihL
  have mk : MkOk { Nm with mks := true } FA X w0 := ⟨⟨c, P, rfl, tb, List.mem_singleton.mpr rfl, fun p hp _ => by rw [List.mem_singleton.mp hp]; rfl, List.mem_singleton.mpr rfl⟩, fun k ps sc' b h => hml k ps sc' b h⟩
  have St : Stm { Nm with mks := true } FA (fun _ => none) ⟨G T Wf n, sigT T⟩ X W w0 scope := ⟨ck, ⟨⟨fun x h => h, fun x h => ⟨h, rfl⟩, fun x h => .inr h, fun x h => h⟩, fun _ => mk⟩, S.kind, passes_of (X := X) rfl⟩
  have hpr : prOf F.modes = [] := by rw [hm]; rfl
  have hw : HR w0 (offT H) H := by
    refine ⟨fun b o e => (offT_some e).1, Sub.refl _, fun b o e => .inl e, fun b o e _ => e, fun b e => e, fun b xs e => offT_of e (fun ps z => by cases z), fun p hp => ?_, fun b ps e => (offT_some e).2 ps rfl⟩
    rw [List.mem_singleton.mp hp]
    exact LamX.TabS.nil hP
  have hrep : Rep K FA (offT H) (.ref a') (.scr ns) := by
    refine .scr ?_
    rcases hS with (h | ⟨o, h⟩) | h
    · exact .inl (.inl (offT_of h fun ps z => by cases z))
    · exact .inl (.inr ⟨o, offT_of h fun ps z => by cases z⟩)
    · exact .inr h
  have hstart : Hs K FA w0 (offT H) H (([V.ref a'].map some).zip [O.z (.scr ns)]) := ⟨hw, [], RepL.cons (A := []) (.z hrep) .nil, List.nodup_nil, fun b m => (nomatch m)⟩
  refine ⟨_, sSs (X := X) (Wf := Wf) (pr := prOf F.modes) (σ0 := L2.start N [.ref a']) St F.body (by rw [hpr]; exact hs), body_start (CA := fun _ => none) (os := [.z (.scr ns)]) (by rw [hm]; rfl) (by rw [hm]; rfl) (by rw [hm]; exact hle) hsl hstart (fun a od σ H' z => z) ?_⟩
  rw [hres]
  intro v H' F' sF s1
  have ev := RepV.bl (X := X) (.rep s1.rep : RepV X.K FA F' H' v _)
  subst ev
  exact hq H'
end
/-! ### the facts of a top -/
structure DD where
  x : Str
  i : Nat
  ps : List Str
  N : List Str
  F : Fd
def DD.st (body : List Stmt) (e : DD) : Stmt := body.getD e.i (.Pass ⟨0, 0, 0, 0⟩)
def DD.d (body : List Stmt) (e : DD) : He.DefD := ⟨(e.x, none), e.x, e.x, defArgs (e.st body), defBody (e.st body), defScope (e.st body), [], []⟩
def scB (N ps : List Str) (sc : Scope) : Bool :=
  decide (sc.kind = .function) && !sc.isCoroutine && !sc.isGenerator && decide N.Nodup && decide (N.take ps.length = ps) && ps.all (fun x => decide (sc.names.lookup x = some .local) || decide (sc.names.lookup x = some .cell)) && sc.names.all (fun y => !decide (y.2 = .free))
theorem scB_ok {N ps : List Str} {sc : Scope} (h : scB N ps sc = true) : FnScope N ps sc := by
  unfold scB at h
  simp only [Bool.and_eq_true, Bool.not_eq_true', decide_eq_true_eq, List.all_eq_true, Bool.or_eq_true, decide_eq_false_iff_not] at h
  obtain ⟨⟨⟨⟨⟨⟨h1, h2⟩, h3⟩, h4⟩, h5⟩, h6⟩, h7⟩ := h
  exact ⟨h1, h2, h3, h4, h5, h6, h7⟩
def DD.okB (Nm : Names) (body : List Stmt) (e : DD) : Bool :=
  scB e.N e.ps (defScope (e.st body)) && isSs Nm e.N (prOf e.F.modes) (defScope (e.st body)) e.F.body (defBody (e.st body)) && decide (e.F.modes.length = e.ps.length) && decide (e.F.slots = e.N.length)
/-- the names by a list of defs -/
def namesOf (ds : List DD) (kw : List (Nat × Nat × List Str × List Nat)) (ks : List (Str × Int)) (lamB : Nat → Arguments → Scope → Expr → Bool) : Names :=
  ⟨kw, fun f => (ds[f]?).map (·.x), fun j => ks[j]?, fun f => ((ds[f]?).map (·.ps)).getD [], false, lamB⟩
def fnsOf (K : PySem.W.Frag) (ds : List DD) (lamB : Nat → Arguments → Scope → Expr → Bool) : Fns := ⟨fun f => (ds[f]?).map fun e => He.ga K e.x, fun k L => lamB k L.params L.scope L.body = true⟩
/-- how a def binds -/
def BindOk (K : PySem.W.Frag) (kw : List (Nat × Nat × List Str × List Nat)) (f : Nat) (e : DD) (fd : FuncData) : Prop :=
  Binds K fd e.ps [] ∧ ∀ n ks perm, (f, n, ks, perm) ∈ kw → ∀ (s : Shared) (us ws : List Value), K.In s.heap → us.length = n → ws.length = ks.length → BindsTo s fd ⟨us, ks.zip ws⟩ (e.ps.zip (permL .none us ws perm))
def LamOk (Nm : Names) (T : Nat → Option Fd) (lamB : Nat → Arguments → Scope → Expr → Bool) : Prop := ∀ (k : Nat) (L : LamD), lamB k L.params L.scope L.body = true → ∃ (ps N : List Str) (e : X), (∀ (c : Addr) (pm ctv : Value) (us : List Value), us.length = ps.length → bindArgs (L.fd c pm ctv) ⟨us, []⟩ = pure (ps.zip us)) ∧
    T k = some ⟨List.replicate ps.length false, N.length, .cons (.ret e) .nil⟩ ∧ (∀ i, e ≠ .v i) ∧ NdefX.nscB N ps [] L.scope = true ∧ isE { Nm with lamB := fun _ _ _ _ => false } N e L.scope L.body = true
section
variable {K : PySem.W.Frag} {h : Heap} {mg : Str → Option Value} {body : List Stmt} {ds : List DD} {kw : List (Nat × Nat × List Str × List Nat)} {ks : List (Str × Int)} {lamB : Nat → Arguments → Scope → Expr → Bool} {T : Nat → Option Fd} {fa : List He.Fa} {fn : List He.DefD}
theorem top_of (KX : K.In h) (G : h.Ns mainGlobals mg) (c : He.SaysD fa fn K) (hfn : ∀ e ∈ ds, e.d body ∈ fn) (hfa : ∀ e ∈ ds, He.Fa.glo e.x ∈ fa) (hblt : ∀ x ∈ bltNames, He.Fa.free x ∈ fa) (hks : ∀ q ∈ ks, He.Fa.int q.1 q.2 ∈ fa)
    (hok : ds.all (DD.okB (namesOf ds kw ks lamB) body) = true) (hT : ∀ (f : Nat) (e : DD), ds[f]? = some e → T f = some e.F) (hb : ∀ (f : Nat) (e : DD) (fd : FuncData), ds[f]? = some e → FunD K e.x e.x (defArgs (e.st body)) (defBody (e.st body)) (defScope (e.st body)) [] [] (He.ga K e.x) fd → BindOk K kw f e fd)
    (hl : LamOk (namesOf ds kw ks lamB) T lamB) (d0 : FuncData) : ∃ FD, TopOk K mg (namesOf ds kw ks lamB) (fnsOf K ds lamB) FD T := by
  have step : ∀ f : Nat, ∃ fd : FuncData, ∀ e : DD, ds[f]? = some e → FunD K e.x e.x (defArgs (e.st body)) (defBody (e.st body)) (defScope (e.st body)) [] [] (He.ga K e.x) fd := fun f => by
    cases q : ds[f]? with
    | none => exact ⟨d0, fun e z => by cases z⟩
    | some e =>
      obtain ⟨fd, hF⟩ := c.defs (hfn e (List.mem_of_getElem? q))
      exact ⟨fd, fun e' z => by cases z; exact hF⟩
  obtain ⟨FD, hFD⟩ := Classical.skolem.mp step
  refine ⟨FD, rfl, fun f a ea => ?_, hl, fun f x ex => ?_, fun j x i ej => ?_, fun x hx => He.free_ok KX G (c.facts (hblt x hx))⟩
  · have ea : (ds[f]?).map (fun e => He.ga K e.x) = some a := ea
    cases q : ds[f]? with
    | none => rw [q] at ea; cases ea
    | some e =>
      rw [q] at ea
      obtain rfl : He.ga K e.x = a := Option.some.inj ea
      have hF := hFD f e q
      have b := hb f e _ q hF
      have hm := List.all_eq_true.mp hok e (List.mem_of_getElem? q)
      unfold DD.okB at hm
      simp only [Bool.and_eq_true, decide_eq_true_eq] at hm
      obtain ⟨⟨⟨m1, m2⟩, m3⟩, m4⟩ := hm
      have ep : (namesOf ds kw ks lamB).pars f = e.ps := by show ((ds[f]?).map (·.ps)).getD [] = _; rw [q]; rfl
      rw [ep]
      exact ⟨e.x, by show (ds[f]?).map (·.x) = _; rw [q]; rfl, He.glo_ok KX G (c.facts (hfa e (List.mem_of_getElem? q))), hF.kp, b.1, b.2, _, _, _, _, _, _, _, e.F, e.N, hF, hT f e q, scB_ok m1, m2, m3, m4⟩
  · have ex : (ds[f]?).map (·.x) = some x := ex
    cases q : ds[f]? with
    | none => rw [q] at ex; cases ex
    | some e => exact ⟨He.ga K e.x, by show (ds[f]?).map _ = _; rw [q]; rfl⟩
  · have ej : ks[j]? = some (x, i) := ej
    exact He.int_ok KX G (c.facts (hks _ (List.mem_of_getElem? ej)))
end
theorem noCX {P : Program} {w : World} {H : Hp} {s : Shared} {e : Value} {s' : Shared} (h : L2.CX P w [] H s (fun _ _ _ => False) e s') : False := by
  obtain ⟨_, _, _, _, _, _, _, _, _, _, _, _, z⟩ := h
  exact z
section
variable {l : PySem.W.OpenLaw} {w : World} {K : PySem.W.Frag} {h : Heap} {mg : Str → Option Value} {fa : Addr} {body : List Stmt} {ds : List DD} {kw : List (Nat × Nat × List Str × List Nat)} {ks : List (Str × Int)} {lamB : Nat → Arguments → Scope → Expr → Bool} {T : Nat → Option Fd}
  {faL : List He.Fa} {fnL : List He.DefD} {tf : List He.Defn} {ex : PySem.W.Frag → Bool} {stL : Stmt} {nL : List Str} {F : Fd} {Wf n : Nat}
/-- a law over its top -/
theorem law_at (KX : K.In h) (G : h.Ns mainGlobals mg) (c : He.SaysX faL fnL [] tf ex w h K) (htf : ((("law" : Str), none) : He.Defn) ∈ tf) (htf1 : ∀ p ∈ tf, p = ((("law" : Str), none) : He.Defn)) (hL : (⟨("law", none), "law", "law", defArgs stL, defBody stL, defScope stL, [], []⟩ : He.DefD) ∈ fnL) (hglo : He.Fa.glo "law" ∈ faL) (hmg : mg ("law" : Str) = some (.ref fa))
    (hfn : ∀ e ∈ ds, e.d body ∈ fnL) (hfa : ∀ e ∈ ds, He.Fa.glo e.x ∈ faL) (hblt : ∀ x ∈ bltNames, He.Fa.free x ∈ faL) (hks : ∀ q ∈ ks, He.Fa.int q.1 q.2 ∈ faL)
    (hok : ds.all (DD.okB (namesOf ds kw ks lamB) body) = true) (hT : ∀ (f : Nat) (e : DD), ds[f]? = some e → T f = some e.F)
    (hb : ∀ (K : PySem.W.Frag) (f : Nat) (e : DD) (fd : FuncData), ds[f]? = some e → FunD K e.x e.x (defArgs (e.st body)) (defBody (e.st body)) (defScope (e.st body)) [] [] (He.ga K e.x) fd → BindOk K kw f e fd)
    (hl : LamOk (namesOf ds kw ks lamB) T lamB)
    (hfree : ∀ (q : Str) k params scope body, lamB k params scope body = true → (fnsOf K ds lamB).ml k ⟨q, params, body, scope⟩ ∧ (∀ y ∈ scope.names, y.2 ≠ .free) ∧ ∀ env, defaultsOf params env = ([], []))
    (S : FnScope nL ["script"] (defScope stL)) (hs : isSs { namesOf ds kw ks lamB with mks := true } nL [] (defScope stL) F.body (defBody stL) = true) (hm : F.modes = [false]) (hsl : F.slots = nL.length)
    (hbL : ∀ (kV doc pm : Value) (an : Option Addr) (cdv ct : Value) (us : List Value), us.length = (["script"] : List Str).length → bindArgs (PySem.W.fnOf "law" "law" (defArgs stL) (defBody stL) (defScope stL) .none kV doc pm an cdv ct) ⟨us, []⟩ = pure ((["script"] : List Str).zip us))
    (math : ∀ s : List Int, s.length ≤ 63 → (∀ z ∈ s, Builtin.Int.intBits z ≤ 1048576) → runF ⟨RF.G T Wf n, sigT T⟩ Wf F [.z (.scr s)] = .rt (.z (.bl true)) []) :
    LamX.LawAtS l w K (L2.CX l.prog w) (n + 1) 63 "script" mg fa h := by
  obtain ⟨fd, hF⟩ := c.t.d.defs hL
  have eg := He.glo_ok KX G (c.t.d.facts hglo)
  have ea : fa = He.ga K "law" := by rw [hmg] at eg; exact V.ref.inj (congrArg V.ref (Value.ref.inj (Option.some.inj eg)))
  subst ea
  have hF : FunD K "law" "law" (defArgs stL) (defBody stL) (defScope stL) [] [] (He.ga K "law") fd := hF
  obtain ⟨FD, t⟩ := top_of KX G c.t.d hfn hfa hblt hks hok hT (fun f e fd => hb K f e fd) hl fd
  have hcode : ∀ o fd', K.lookup (He.ga K "law") = some o → o.data = .func fd' → fd'.code = .ref (He.cT K ("law", none)).1 := by
    intro o fd' lo eo
    obtain ⟨oc, od, dV, kV, doc, pm, an, cdv, ct, osl, rfl, lk, hcd, _, _⟩ := hF.ex
    rw [lk] at lo
    obtain rfl := Option.some.inj lo
    cases eo
    obtain ⟨cc, rfl⟩ := He.codeIn_ref hcd
    have := He.codeOf_eq (p := (("law" : Str), none)) lk (c := cc) rfl
    show Value.ref cc = .ref (He.codeOf K _)
    rw [this]
  refine ⟨fd, [He.cT K ("law", none)], spLaw K (He.cT K ("law", none)).2 (runF ⟨RF.G T Wf n, sigT T⟩ Wf F), fun p hp => ?_, fun p hp => ?_, fun p hp => ?_, fun s u => FunD.bindsA (ps := ["script"]) hF hbL s [u] rfl, fun H a ns h1 h2 h3 h4 => ⟨a, ns, rfl, h4, h3 _ (List.mem_singleton.mpr rfl), math ns h1 h2, fun _ => rfl⟩, fun base KB GB TB => ?_⟩
  · rw [List.mem_singleton.mp hp]; exact c.empty _ htf
  · rw [List.mem_singleton.mp hp]; exact c.out _ htf
  · rw [List.mem_singleton.mp hp]; exact PySem.W.codeHd_of_K KX (c.hd _ htf)
  · exact t.law hF S hs hm hsl hcode (TB _ (List.mem_singleton.mpr rfl)) fun k ps sc b h => hfree _ k ps sc b h
end
end RF
/-! K01: the terms of the law and their fit (printed by genlaw.py). -/
namespace K01
open L2 PySem RF PySem.Spec PyProof.Rows
abbrev f_is_whole : Nat := 0
abbrev f_common_of : Nat := 1
abbrev f_is_fraction : Nat := 2
abbrev f_lowest : Nat := 3
abbrev f_plus : Nat := 4
abbrev f_minus : Nat := 5
abbrev f_times : Nat := 6
abbrev f_compared : Nat := 7
abbrev f_over : Nat := 8
abbrev f_is_share : Nat := 9
abbrev f__law_hash : Nat := 10
abbrev f__law_random : Nat := 11
abbrev f__law_cell : Nat := 12
abbrev f__law_generator : Nat := 13
abbrev f__law_pick : Nat := 14
abbrev f__law_same : Nat := 15
abbrev f__law_is_whole : Nat := 16
abbrev f__law_call : Nat := 17
abbrev f__law_judged : Nat := 18
abbrev f__law_common : Nat := 19
abbrev f__law_lowest : Nat := 20
abbrev f__law_is_fraction : Nat := 21
abbrev f__law_plus : Nat := 22
abbrev f__law_minus : Nat := 23
abbrev f__law_times : Nat := 24
abbrev f__law_less : Nat := 25
abbrev f__law_drawn_fraction : Nat := 26
abbrev f__law_pair_right : Nat := 27
abbrev f_law : Nat := 28
abbrev f_law_lam0 : Nat := 29
/-- is_whole(value) -/
def d_is_whole : Fd := ⟨[false], 1,
    (.cons (.ret (.and (.cons (.isi .int (.v 0)) (.cons (.not (.isi .bool (.v 0))) .nil))))
    .nil)⟩
/-- common_of(one, other) -/
def d_common_of : Fd := ⟨[false, false], 2,
    (.cons (.par [0, 1] (.cons (.blt .abs (.cons (.v 0) .nil)) (.cons (.blt .abs (.cons (.v 1) .nil)) .nil)))
    (.cons (.whl (.cmp .ne (.v 1) (.n 0))
    (.cons (.par [0, 1] (.cons (.v 1) (.cons (.bin .mod (.v 0) (.v 1)) .nil)))
    .nil))
    (.cons (.ret (.v 0))
    .nil)))⟩
/-- is_fraction(value) -/
def d_is_fraction : Fd := ⟨[false], 1,
    (.cons (.ite (.or (.cons (.not (.isi .tuple (.v 0))) (.cons (.cmp .ne (.blt .len (.cons (.v 0) .nil)) (.n 2)) (.cons (.not (.call true f_is_whole (.cons (.ix (.v 0) (.n 0)) .nil))) (.cons (.not (.call true f_is_whole (.cons (.ix (.v 0) (.n 1)) .nil))) .nil)))))
    (.cons (.ret (.tt false))
    .nil)
    .nil)
    (.cons (.ret (.and (.cons (.cmp .ge (.ix (.v 0) (.n 1)) (.n 1)) (.cons (.cmp .eq (.call true f_common_of (.cons (.ix (.v 0) (.n 0)) (.cons (.ix (.v 0) (.n 1)) .nil))) (.n 1)) .nil))))
    .nil))⟩
/-- lowest(number, bottom, common) -/
def d_lowest : Fd := ⟨[false, false], 3,
    (.cons (.set 2 (.call true f_common_of (.cons (.v 0) (.cons (.v 1) .nil))))
    (.cons (.ite (.cmp .lt (.v 1) (.n 0))
    (.cons (.set 2 (.neg (.v 2)))
    .nil)
    .nil)
    (.cons (.ret (.tup (.cons (.bin .fdiv (.v 0) (.v 2)) (.cons (.bin .fdiv (.v 1) (.v 2)) .nil))))
    .nil)))⟩
/-- plus(one, other) -/
def d_plus : Fd := ⟨[false, false], 2,
    (.cons (.ret (.call true f_lowest (.cons (.bin .add (.bin .mul (.ix (.v 0) (.n 0)) (.ix (.v 1) (.n 1))) (.bin .mul (.ix (.v 1) (.n 0)) (.ix (.v 0) (.n 1)))) (.cons (.bin .mul (.ix (.v 0) (.n 1)) (.ix (.v 1) (.n 1))) .nil))))
    .nil)⟩
/-- minus(one, other) -/
def d_minus : Fd := ⟨[false, false], 2,
    (.cons (.ret (.call true f_lowest (.cons (.bin .sub (.bin .mul (.ix (.v 0) (.n 0)) (.ix (.v 1) (.n 1))) (.bin .mul (.ix (.v 1) (.n 0)) (.ix (.v 0) (.n 1)))) (.cons (.bin .mul (.ix (.v 0) (.n 1)) (.ix (.v 1) (.n 1))) .nil))))
    .nil)⟩
/-- times(one, other) -/
def d_times : Fd := ⟨[false, false], 2,
    (.cons (.ret (.call true f_lowest (.cons (.bin .mul (.ix (.v 0) (.n 0)) (.ix (.v 1) (.n 0))) (.cons (.bin .mul (.ix (.v 0) (.n 1)) (.ix (.v 1) (.n 1))) .nil))))
    .nil)⟩
/-- compared(one, other, left, right) -/
def d_compared : Fd := ⟨[false, false], 4,
    (.cons (.set 2 (.bin .mul (.ix (.v 0) (.n 0)) (.ix (.v 1) (.n 1))))
    (.cons (.set 3 (.bin .mul (.ix (.v 1) (.n 0)) (.ix (.v 0) (.n 1))))
    (.cons (.ite (.cmp .eq (.v 2) (.v 3))
    (.cons (.ret (.n 0))
    .nil)
    .nil)
    (.cons (.ret (.ite (.cmp .lt (.v 2) (.v 3)) (.neg (.n 1)) (.n 1)))
    .nil))))⟩
/-- over(one, other) -/
def d_over : Fd := ⟨[false, false], 2,
    (.cons (.ret (.call true f_lowest (.cons (.bin .mul (.ix (.v 0) (.n 0)) (.ix (.v 1) (.n 1))) (.cons (.bin .mul (.ix (.v 0) (.n 1)) (.ix (.v 1) (.n 0))) .nil))))
    .nil)⟩
/-- is_share(value) -/
def d_is_share : Fd := ⟨[false], 1,
    (.cons (.ret (.and (.cons (.call true f_is_fraction (.cons (.v 0) .nil)) (.cons (.cmp2 .lt .lt (.n 0) (.ix (.v 0) (.n 0)) (.ix (.v 0) (.n 1))) .nil))))
    .nil)⟩
/-- _law_hash(seed, index, mixed) -/
def d__law_hash : Fd := ⟨[false, false], 3,
    (.cons (.set 2 (.bin .mod (.blt .int (.cons (.bin .add (.bin .add (.bin .add (.bin .mul (.v 0) (.n 1140671)) (.bin .mul (.bin .mul (.n 27644437) (.v 1)) (.v 1))) (.bin .mul (.n 131) (.v 1))) (.n 19)) .nil)) (.n 2147483629)))
    (.cons (.set 2 (.bin .mod (.blt .int (.cons (.bin .add (.bin .add (.bin .mul (.v 2) (.v 2)) (.bin .mul (.n 62089) (.v 1))) (.n 32416187)) .nil)) (.n 2147483587)))
    (.cons (.ret (.bin .mod (.blt .int (.cons (.bin .mul (.v 2) (.n 48271)) .nil)) (.n 2147483647)))
    .nil)))⟩
/-- _law_random(generator, bound, drawn, turn) -/
def d__law_random : Fd := ⟨[true, false], 4,
    (.cons (.ite (.cmp .gt (.ix (.v 0) (.n 0)) (.n 0))
    (.cons (.set 2 (.bin .mod (.blt .int (.cons (.ix (.v 0) (.n 0)) .nil)) (.v 1)))
    (.cons (.sto 0 (.n 0) (.bin .fdiv (.ix (.v 0) (.n 0)) (.v 1)))
    (.cons (.ret (.v 2))
    .nil)))
    .nil)
    (.cons (.set 2 (.n 0))
    (.cons (.for (.nm 3) (.rng1 (.bin .add (.n 1) (.bin .fdiv (.bits (.v 1)) (.n 30))))
    (.cons (.sto 0 (.n 2) (.bin .add (.ix (.v 0) (.n 2)) (.n 1)))
    (.cons (.set 2 (.bin .add (.bin .mul (.v 2) (.n 2147483587)) (.call true f__law_hash (.cons (.ix (.v 0) (.n 1)) (.cons (.ix (.v 0) (.n 2)) .nil)))))
    .nil)))
    (.cons (.ret (.bin .mod (.blt .int (.cons (.v 2) .nil)) (.v 1)))
    .nil))))⟩
/-- _law_cell(script, index) -/
def d__law_cell : Fd := ⟨[false, false], 2,
    (.cons (.ite (.cmp .lt (.v 1) (.blt .len (.cons (.v 0) .nil)))
    (.cons (.ret (.ix (.v 0) (.v 1)))
    .nil)
    .nil)
    (.cons (.ret (.bin .mod (.blt .sum (.cons (.sl (.v 0) .none (.some (.n 1))) .nil)) (.n 1000003)))
    .nil))⟩
/-- _law_generator(script, index, seed) -/
def d__law_generator : Fd := ⟨[false, false], 3,
    (.cons (.set 2 (.call true f__law_cell (.cons (.v 0) (.cons (.v 1) .nil))))
    (.cons (.ret (.lst (.cons (.bin .mod (.blt .int (.cons (.blt .max2 (.cons (.bin .sub (.v 2) (.bin .pow (.n 10) (.n 18))) (.cons (.n 0) .nil))) .nil)) (.bin .pow (.bin .pow (.n 10) (.n 60)) (.n 10))) (.cons (.bin .mod (.blt .int (.cons (.v 2) .nil)) (.n 2147483647)) (.cons (.bin .mul (.n 1000) (.v 1)) .nil)))))
    .nil))⟩
/-- _law_pick(generator, told_ones) -/
def d__law_pick : Fd := ⟨[true, false], 2,
    (.cons (.ret (.ix (.v 1) (.call false f__law_random (.cons (.v 0) (.cons (.blt .len (.cons (.v 1) .nil)) .nil)))))
    .nil)⟩
/-- _law_same(told, due, at) -/
def d__law_same : Fd := ⟨[false, false], 3,
    (.cons (.ite (.or (.cons (.cmp .is (.v 1) .non) (.cons (.cmp .is (.v 1) (.tt true)) (.cons (.cmp .is (.v 1) (.tt false)) .nil))))
    (.cons (.ret (.ite (.cmp .is (.v 1) .non) (.cmp .is (.v 0) .non) (.ite (.cmp .is (.v 1) (.tt true)) (.cmp .is (.v 0) (.tt true)) (.cmp .is (.v 0) (.tt false)))))
    .nil)
    .nil)
    (.cons (.ite (.isi .lt (.v 1))
    (.cons (.ite (.or (.cons (.and (.cons (.not (.isi .list (.v 0))) (.cons (.isi .list (.v 1)) .nil))) (.cons (.and (.cons (.not (.isi .tuple (.v 0))) (.cons (.isi .tuple (.v 1)) .nil))) .nil)))
    (.cons (.ret (.tt false))
    .nil)
    .nil)
    (.cons (.ret (.and (.cons (.cmp .eq (.blt .len (.cons (.v 0) .nil)) (.blt .len (.cons (.v 1) .nil))) (.cons (.cmp .eq (.comp (.v 2) (.nm 2) (.rng1 (.blt .len (.cons (.v 1) .nil))) (.some (.not (.call true f__law_same (.cons (.ix (.v 0) (.v 2)) (.cons (.ix (.v 1) (.v 2)) .nil))))) [2]) (.lst .nil)) .nil))))
    .nil))
    .nil)
    (.cons (.ite (.isi .int (.v 1))
    (.cons (.ret (.and (.cons (.isi .int (.v 0)) (.cons (.not (.isi .bool (.v 0))) (.cons (.cmp .eq (.v 0) (.v 1)) .nil)))))
    .nil)
    .nil)
    (.cons (.ret (.and (.cons (.isi .str (.v 0)) (.cons (.cmp .eq (.v 0) (.v 1)) .nil))))
    .nil))))⟩
/-- _law_is_whole(value) -/
def d__law_is_whole : Fd := ⟨[false], 1,
    (.cons (.ret (.and (.cons (.isi .int (.v 0)) (.cons (.not (.isi .bool (.v 0))) .nil))))
    .nil)⟩
/-- _law_call(deed, args) -/
def d__law_call : Fd := ⟨[false, false], 2,
    (.cons (.ite (.cmp .eq (.blt .len (.cons (.v 1) .nil)) (.n 1))
    (.cons (.ret (.callv 0 (.cons (.ix (.v 1) (.n 0)) .nil)))
    .nil)
    .nil)
    (.cons (.ite (.cmp .eq (.blt .len (.cons (.v 1) .nil)) (.n 2))
    (.cons (.ret (.callv 0 (.cons (.ix (.v 1) (.n 0)) (.cons (.ix (.v 1) (.n 1)) .nil))))
    .nil)
    .nil)
    (.cons (.ite (.cmp .eq (.blt .len (.cons (.v 1) .nil)) (.n 3))
    (.cons (.ret (.callv 0 (.cons (.ix (.v 1) (.n 0)) (.cons (.ix (.v 1) (.n 1)) (.cons (.ix (.v 1) (.n 2)) .nil)))))
    .nil)
    .nil)
    (.cons (.ite (.cmp .eq (.blt .len (.cons (.v 1) .nil)) (.n 4))
    (.cons (.ret (.callv 0 (.cons (.ix (.v 1) (.n 0)) (.cons (.ix (.v 1) (.n 1)) (.cons (.ix (.v 1) (.n 2)) (.cons (.ix (.v 1) (.n 3)) .nil))))))
    .nil)
    .nil)
    (.cons (.ite (.cmp .eq (.blt .len (.cons (.v 1) .nil)) (.n 5))
    (.cons (.ret (.callv 0 (.cons (.ix (.v 1) (.n 0)) (.cons (.ix (.v 1) (.n 1)) (.cons (.ix (.v 1) (.n 2)) (.cons (.ix (.v 1) (.n 3)) (.cons (.ix (.v 1) (.n 4)) .nil)))))))
    .nil)
    .nil)
    (.cons (.ret (.callv 0 (.cons (.ix (.v 1) (.n 0)) (.cons (.ix (.v 1) (.n 1)) (.cons (.ix (.v 1) (.n 2)) (.cons (.ix (.v 1) (.n 3)) (.cons (.ix (.v 1) (.n 4)) (.cons (.ix (.v 1) (.n 5)) .nil))))))))
    .nil))))))⟩
/-- _law_judged(deed, args, values, due, value) -/
def d__law_judged : Fd := ⟨[false, false, false, false], 5,
    (.cons (.for (.nm 4) (.seq (.v 2))
    (.cons (.ite (.not (.call true f__law_same (.cons (.call true f__law_call (.cons (.v 0) (.cons (.bin .add (.v 1) (.lst (.cons (.v 4) .nil))) .nil))) (.cons (.callv 3 (.cons (.v 4) .nil)) .nil))))
    (.cons (.ret (.tt false))
    .nil)
    .nil)
    .nil))
    (.cons (.ret (.tt true))
    .nil))⟩
/-- _law_common(one, other) -/
def d__law_common : Fd := ⟨[false, false], 2,
    (.cons (.whl (.cmp .ne (.v 1) (.n 0))
    (.cons (.par [0, 1] (.cons (.v 1) (.cons (.bin .sub (.v 0) (.bin .mul (.v 1) (.bin .fdiv (.v 0) (.v 1)))) .nil)))
    .nil))
    (.cons (.ret (.blt .abs (.cons (.v 0) .nil)))
    .nil))⟩
/-- _law_lowest(number, bottom, common) -/
def d__law_lowest : Fd := ⟨[false, false], 3,
    (.cons (.set 2 (.call true f__law_common (.cons (.v 0) (.cons (.v 1) .nil))))
    (.cons (.ite (.cmp .lt (.v 1) (.n 0))
    (.cons (.set 2 (.bin .sub (.n 0) (.v 2)))
    .nil)
    .nil)
    (.cons (.ret (.tup (.cons (.bin .fdiv (.v 0) (.v 2)) (.cons (.bin .fdiv (.v 1) (.v 2)) .nil))))
    .nil)))⟩
/-- _law_is_fraction(value) -/
def d__law_is_fraction : Fd := ⟨[false], 1,
    (.cons (.ite (.or (.cons (.not (.isi .tuple (.v 0))) (.cons (.cmp .ne (.blt .len (.cons (.v 0) .nil)) (.n 2)) (.cons (.not (.call true f__law_is_whole (.cons (.ix (.v 0) (.n 0)) .nil))) (.cons (.not (.call true f__law_is_whole (.cons (.ix (.v 0) (.n 1)) .nil))) .nil)))))
    (.cons (.ret (.tt false))
    .nil)
    .nil)
    (.cons (.ret (.and (.cons (.cmp .gt (.ix (.v 0) (.n 1)) (.n 0)) (.cons (.cmp .eq (.call true f__law_common (.cons (.ix (.v 0) (.n 0)) (.cons (.ix (.v 0) (.n 1)) .nil))) (.n 1)) .nil))))
    .nil))⟩
/-- _law_plus(one, other) -/
def d__law_plus : Fd := ⟨[false, false], 2,
    (.cons (.ret (.call true f__law_lowest (.cons (.bin .add (.bin .mul (.ix (.v 0) (.n 0)) (.ix (.v 1) (.n 1))) (.bin .mul (.ix (.v 1) (.n 0)) (.ix (.v 0) (.n 1)))) (.cons (.bin .mul (.ix (.v 0) (.n 1)) (.ix (.v 1) (.n 1))) .nil))))
    .nil)⟩
/-- _law_minus(one, other) -/
def d__law_minus : Fd := ⟨[false, false], 2,
    (.cons (.ret (.call true f__law_lowest (.cons (.bin .sub (.bin .mul (.ix (.v 0) (.n 0)) (.ix (.v 1) (.n 1))) (.bin .mul (.ix (.v 1) (.n 0)) (.ix (.v 0) (.n 1)))) (.cons (.bin .mul (.ix (.v 0) (.n 1)) (.ix (.v 1) (.n 1))) .nil))))
    .nil)⟩
/-- _law_times(one, other) -/
def d__law_times : Fd := ⟨[false, false], 2,
    (.cons (.ret (.call true f__law_lowest (.cons (.bin .mul (.ix (.v 0) (.n 0)) (.ix (.v 1) (.n 0))) (.cons (.bin .mul (.ix (.v 0) (.n 1)) (.ix (.v 1) (.n 1))) .nil))))
    .nil)⟩
/-- _law_less(one, other) -/
def d__law_less : Fd := ⟨[false, false], 2,
    (.cons (.ret (.cmp .lt (.bin .mul (.ix (.v 0) (.n 0)) (.ix (.v 1) (.n 1))) (.bin .mul (.ix (.v 1) (.n 0)) (.ix (.v 0) (.n 1)))))
    .nil)⟩
/-- _law_drawn_fraction(generator, most) -/
def d__law_drawn_fraction : Fd := ⟨[true, false], 2,
    (.cons (.ret (.call false f__law_lowest (.cons (.bin .sub (.call false f__law_random (.cons (.v 0) (.cons (.bin .add (.bin .mul (.n 2) (.v 1)) (.n 1)) .nil))) (.v 1)) (.cons (.bin .add (.n 1) (.call false f__law_random (.cons (.v 0) (.cons (.call false f__law_pick (.cons (.v 0) (.cons (.lst (.cons (.n 1) (.cons (.n 1) (.cons (.n 3) (.cons (.n 12) .nil))))) .nil))) .nil)))) .nil))))
    .nil)⟩
/-- _law_pair_right(generator, most, one, other, due, told, sign, number, bottom) -/
def d__law_pair_right : Fd := ⟨[true], 9,
    (.cons (.set 1 (.call false f__law_pick (.cons (.v 0) (.cons (.lst (.cons (.n 3) (.cons (.n 40) (.cons (.bin .pow (.n 10) (.n 9)) (.cons (.bin .pow (.n 10) (.n 40)) .nil))))) .nil))))
    (.cons (.par [2, 3] (.cons (.call false f__law_drawn_fraction (.cons (.v 0) (.cons (.v 1) .nil))) (.cons (.call false f__law_drawn_fraction (.cons (.v 0) (.cons (.v 1) .nil))) .nil)))
    (.cons (.set 4 (.lst (.cons (.call true f__law_plus (.cons (.v 2) (.cons (.v 3) .nil))) (.cons (.call true f__law_minus (.cons (.v 2) (.cons (.v 3) .nil))) (.cons (.call true f__law_times (.cons (.v 2) (.cons (.v 3) .nil))) .nil)))))
    (.cons (.set 5 (.lst (.cons (.call true f_plus (.cons (.v 2) (.cons (.v 3) .nil))) (.cons (.call true f_minus (.cons (.v 2) (.cons (.v 3) .nil))) (.cons (.call true f_times (.cons (.v 2) (.cons (.v 3) .nil))) (.cons (.callk f_plus .nil (.cons (.v 3) (.cons (.v 2) .nil)) [1, 0]) (.cons (.callk f_minus .nil (.cons (.v 3) (.cons (.v 2) .nil)) [1, 0]) (.cons (.callk f_times .nil (.cons (.v 3) (.cons (.v 2) .nil)) [1, 0]) .nil))))))))
    (.cons (.set 6 (.ite (.call true f__law_less (.cons (.v 2) (.cons (.v 3) .nil))) (.bin .sub (.n 0) (.n 1)) (.ite (.cmp .eq (.v 2) (.v 3)) (.n 0) (.n 1))))
    (.cons (.ite (.or (.cons (.not (.call true f__law_same (.cons (.v 5) (.cons (.bin .add (.v 4) (.v 4)) .nil)))) (.cons (.not (.call true f__law_same (.cons (.lst (.cons (.call true f_compared (.cons (.v 2) (.cons (.v 3) .nil))) (.cons (.callk f_compared .nil (.cons (.v 3) (.cons (.v 2) .nil)) [1, 0]) (.cons (.call true f_compared (.cons (.v 3) (.cons (.v 2) .nil))) .nil)))) (.cons (.lst (.cons (.v 6) (.cons (.v 6) (.cons (.bin .sub (.n 0) (.v 6)) .nil)))) .nil)))) .nil)))
    (.cons (.ret (.tt false))
    .nil)
    .nil)
    (.cons (.ite (.and (.cons (.cmp .ne (.ix (.v 3) (.n 0)) (.n 0)) (.cons (.not (.call true f__law_same (.cons (.lst (.cons (.call true f_over (.cons (.v 2) (.cons (.v 3) .nil))) (.cons (.callk f_over .nil (.cons (.v 3) (.cons (.v 2) .nil)) [1, 0]) .nil))) (.cons (.bin .mul (.lst (.cons (.call true f__law_lowest (.cons (.bin .mul (.ix (.v 2) (.n 0)) (.ix (.v 3) (.n 1))) (.cons (.bin .mul (.ix (.v 2) (.n 1)) (.ix (.v 3) (.n 0))) .nil))) .nil)) (.n 2)) .nil)))) .nil)))
    (.cons (.ret (.tt false))
    .nil)
    .nil)
    (.cons (.par [7, 8] (.cons (.bin .sub (.call false f__law_random (.cons (.v 0) (.cons (.bin .add (.bin .mul (.n 2) (.v 1)) (.n 1)) .nil))) (.v 1)) (.cons (.bin .add (.n 1) (.call false f__law_random (.cons (.v 0) (.cons (.v 1) .nil)))) .nil)))
    (.cons (.ret (.call true f__law_same (.cons (.lst (.cons (.call true f_lowest (.cons (.v 7) (.cons (.v 8) .nil))) (.cons (.callk f_lowest .nil (.cons (.bin .sub (.n 0) (.v 8)) (.cons (.v 7) .nil)) [1, 0]) .nil))) (.cons (.lst (.cons (.call true f__law_lowest (.cons (.v 7) (.cons (.v 8) .nil))) (.cons (.call true f__law_lowest (.cons (.v 7) (.cons (.bin .sub (.n 0) (.v 8)) .nil))) .nil))) .nil))))
    .nil)))))))))⟩
/-- law(script, index, generator, turn, one, other, values) -/
def d_law : Fd := ⟨[false], 7,
    (.cons (.for (.nm 1) (.rng1 (.n 2))
    (.cons (.set 2 (.call true f__law_generator (.cons (.v 0) (.cons (.v 1) .nil))))
    (.cons (.for (.nm 3) (.rng1 (.n 6))
    (.cons (.ite (.not (.call false f__law_pair_right (.cons (.v 2) .nil)))
    (.cons (.ret (.tt false))
    .nil)
    .nil)
    .nil))
    (.cons (.par [4, 5] (.cons (.bin .sub (.call false f__law_random (.cons (.v 2) (.cons (.n 30) .nil))) (.n 10)) (.cons (.bin .sub (.call false f__law_random (.cons (.v 2) (.cons (.n 12) .nil))) (.n 2)) .nil)))
    (.cons (.set 6 (.lst (.cons (.tup (.cons (.v 4) (.cons (.v 5) .nil))) (.cons (.tup (.cons (.v 4) (.cons (.n 1) .nil))) (.cons (.tup (.cons (.n 0) (.cons (.v 5) .nil))) (.cons (.tup (.cons (.n 0) (.cons (.n 1) .nil))) (.cons (.tup (.cons (.n 0) (.cons (.n 2) .nil))) (.cons (.tup (.cons (.n 2) (.cons (.n 4) .nil))) (.cons (.tup (.cons (.n 3) (.cons (.bin .sub (.n 0) (.n 1)) .nil))) (.cons (.tup (.cons (.n 3) (.cons (.n 0) .nil))) (.cons (.lst (.cons (.n 1) (.cons (.n 2) .nil))) (.cons (.tup (.cons (.n 1) .nil)) (.cons (.tup (.cons (.n 1) (.cons (.n 2) (.cons (.n 3) .nil)))) (.cons (.tup (.cons (.tt true) (.cons (.n 1) .nil))) (.cons (.tup (.cons (.n 1) (.cons (.tt true) .nil))) (.cons (.tup (.cons (.s ⟨#[49]⟩) (.cons (.n 1) .nil))) .nil))))))))))))))))
    (.cons (.set 6 (.bin .add (.v 6) (.lst (.cons (.tup (.cons .non (.cons (.n 1) .nil))) (.cons .non (.cons (.n 0) (.cons (.s ⟨#[49, 47, 50]⟩) (.cons (.tup (.cons (.n 1) (.cons (.n 2) .nil))) (.cons (.tup (.cons (.n 5) (.cons (.n 9) .nil))) (.cons (.tup (.cons (.n 1) (.cons (.bin .pow (.n 10) (.n 30)) .nil))) .nil))))))))))
    (.cons (.ite (.not (.call true f__law_judged (.cons (.g f_is_fraction) (.cons (.lst .nil) (.cons (.v 6) (.cons (.g f__law_is_fraction) .nil))))))
    (.cons (.ret (.tt false))
    .nil)
    .nil)
    (.cons (.ite (.not (.call false f__law_judged (.cons (.g f_is_share) (.cons (.lst .nil) (.cons (.v 6) (.cons (.lam f_law_lam0 []) .nil))))))
    (.cons (.ret (.tt false))
    .nil)
    .nil)
    .nil))))))))
    (.cons (.ret (.call true f__law_same (.cons (.lst (.cons (.callk f_is_fraction .nil (.cons (.tup (.cons (.n 1) (.cons (.n 2) .nil))) .nil) [0]) (.cons (.callk f_is_share .nil (.cons (.tup (.cons (.n 1) (.cons (.n 2) .nil))) .nil) [0]) (.cons (.call true f_plus (.cons (.tup (.cons (.n 1) (.cons (.n 2) .nil))) (.cons (.tup (.cons (.n 1) (.cons (.n 3) .nil))) .nil))) (.cons (.call true f_over (.cons (.tup (.cons (.n 1) (.cons (.n 2) .nil))) (.cons (.tup (.cons (.bin .sub (.n 0) (.n 1)) (.cons (.n 4) .nil))) .nil))) (.cons (.call true f_lowest (.cons (.n 6) (.cons (.bin .sub (.n 0) (.n 4)) .nil))) .nil)))))) (.cons (.lst (.cons (.tt true) (.cons (.tt true) (.cons (.tup (.cons (.n 5) (.cons (.n 6) .nil))) (.cons (.tup (.cons (.bin .sub (.n 0) (.n 2)) (.cons (.n 1) .nil))) (.cons (.tup (.cons (.bin .sub (.n 0) (.n 3)) (.cons (.n 2) .nil))) .nil)))))) .nil))))
    .nil))⟩
def x_law_lam0 : RF.X := (.and (.cons (.call true f__law_is_fraction (.cons (.v 0) .nil)) (.cons (.cmp2 .lt .lt (.n 0) (.ix (.v 0) (.n 0)) (.ix (.v 0) (.n 1))) .nil)))
def d_law_lam0 : Fd := ⟨List.replicate 1 false, 1, .cons (.ret x_law_lam0) .nil⟩
def bodyL : List Stmt := PySem.Challenge.pw_risingfits_k01_fractions_of_fits.main.body
def e_is_whole : DD := ⟨"is_whole", 1, ["value"], ["value"], d_is_whole⟩
def e_common_of : DD := ⟨"common_of", 2, ["one", "other"], ["one", "other"], d_common_of⟩
def e_is_fraction : DD := ⟨"is_fraction", 3, ["value"], ["value"], d_is_fraction⟩
def e_lowest : DD := ⟨"lowest", 4, ["number", "bottom"], ["number", "bottom", "common"], d_lowest⟩
def e_plus : DD := ⟨"plus", 5, ["one", "other"], ["one", "other"], d_plus⟩
def e_minus : DD := ⟨"minus", 6, ["one", "other"], ["one", "other"], d_minus⟩
def e_times : DD := ⟨"times", 7, ["one", "other"], ["one", "other"], d_times⟩
def e_compared : DD := ⟨"compared", 8, ["one", "other"], ["one", "other", "left", "right"], d_compared⟩
def e_over : DD := ⟨"over", 9, ["one", "other"], ["one", "other"], d_over⟩
def e_is_share : DD := ⟨"is_share", 11, ["value"], ["value"], d_is_share⟩
def e__law_hash : DD := ⟨"_law_hash", 13, ["seed", "index"], ["seed", "index", "mixed"], d__law_hash⟩
def e__law_random : DD := ⟨"_law_random", 14, ["generator", "bound"], ["generator", "bound", "drawn", "turn"], d__law_random⟩
def e__law_cell : DD := ⟨"_law_cell", 15, ["script", "index"], ["script", "index"], d__law_cell⟩
def e__law_generator : DD := ⟨"_law_generator", 16, ["script", "index"], ["script", "index", "seed"], d__law_generator⟩
def e__law_pick : DD := ⟨"_law_pick", 17, ["generator", "told_ones"], ["generator", "told_ones"], d__law_pick⟩
def e__law_same : DD := ⟨"_law_same", 18, ["told", "due"], ["told", "due", "at"], d__law_same⟩
def e__law_is_whole : DD := ⟨"_law_is_whole", 19, ["value"], ["value"], d__law_is_whole⟩
def e__law_call : DD := ⟨"_law_call", 20, ["deed", "args"], ["deed", "args"], d__law_call⟩
def e__law_judged : DD := ⟨"_law_judged", 21, ["deed", "args", "values", "due"], ["deed", "args", "values", "due", "value"], d__law_judged⟩
def e__law_common : DD := ⟨"_law_common", 22, ["one", "other"], ["one", "other"], d__law_common⟩
def e__law_lowest : DD := ⟨"_law_lowest", 23, ["number", "bottom"], ["number", "bottom", "common"], d__law_lowest⟩
def e__law_is_fraction : DD := ⟨"_law_is_fraction", 24, ["value"], ["value"], d__law_is_fraction⟩
def e__law_plus : DD := ⟨"_law_plus", 25, ["one", "other"], ["one", "other"], d__law_plus⟩
def e__law_minus : DD := ⟨"_law_minus", 26, ["one", "other"], ["one", "other"], d__law_minus⟩
def e__law_times : DD := ⟨"_law_times", 27, ["one", "other"], ["one", "other"], d__law_times⟩
def e__law_less : DD := ⟨"_law_less", 28, ["one", "other"], ["one", "other"], d__law_less⟩
def e__law_drawn_fraction : DD := ⟨"_law_drawn_fraction", 29, ["generator", "most"], ["generator", "most"], d__law_drawn_fraction⟩
def e__law_pair_right : DD := ⟨"_law_pair_right", 30, ["generator"], ["generator", "most", "one", "other", "due", "told", "sign", "number", "bottom"], d__law_pair_right⟩
def ds : List DD := [e_is_whole, e_common_of, e_is_fraction, e_lowest, e_plus, e_minus, e_times, e_compared, e_over, e_is_share, e__law_hash, e__law_random, e__law_cell, e__law_generator, e__law_pick, e__law_same, e__law_is_whole, e__law_call, e__law_judged, e__law_common, e__law_lowest, e__law_is_fraction, e__law_plus, e__law_minus, e__law_times, e__law_less, e__law_drawn_fraction, e__law_pair_right]
def T : Nat → Option Fd := fun i => [d_is_whole, d_common_of, d_is_fraction, d_lowest, d_plus, d_minus, d_times, d_compared, d_over, d_is_share, d__law_hash, d__law_random, d__law_cell, d__law_generator, d__law_pick, d__law_same, d__law_is_whole, d__law_call, d__law_judged, d__law_common, d__law_lowest, d__law_is_fraction, d__law_plus, d__law_minus, d__law_times, d__law_less, d__law_drawn_fraction, d__law_pair_right, d_law, d_law_lam0][i]?
def kw : List (Nat × Nat × List Str × List Nat) := [(4, 0, ["other", "one"], [1, 0]), (5, 0, ["other", "one"], [1, 0]), (6, 0, ["other", "one"], [1, 0]), (3, 0, ["bottom", "number"], [1, 0]), (7, 0, ["other", "one"], [1, 0]), (8, 0, ["other", "one"], [1, 0]), (2, 0, ["value"], [0]), (9, 0, ["value"], [0])]
def ks : List (Str × Int) := []
def nm0 : Names := namesOf ds kw ks fun _ _ _ _ => false
def lamB : Nat → Arguments → Scope → Expr → Bool := fun k ps sc e => match k with
  | 29 => (match ps with | ⟨[], [a0], none, [], [], none, []⟩ => a0.arg == "value" | _ => false) && NdefX.nscB ["value"] ["value"] [] sc && isE nm0 ["value"] x_law_lam0 sc e
  | _ => false
def nm : Names := namesOf ds kw ks lamB
theorem ok_all : ds.all (DD.okB nm bodyL) = true := by decide +kernel
theorem ok_T : ∀ (f : Nat) (e : DD), ds[f]? = some e → T f = some e.F := fun f e h => by
  match f, h with
  | 0, h => obtain rfl := Option.some.inj h; rfl
  | 1, h => obtain rfl := Option.some.inj h; rfl
  | 2, h => obtain rfl := Option.some.inj h; rfl
  | 3, h => obtain rfl := Option.some.inj h; rfl
  | 4, h => obtain rfl := Option.some.inj h; rfl
  | 5, h => obtain rfl := Option.some.inj h; rfl
  | 6, h => obtain rfl := Option.some.inj h; rfl
  | 7, h => obtain rfl := Option.some.inj h; rfl
  | 8, h => obtain rfl := Option.some.inj h; rfl
  | 9, h => obtain rfl := Option.some.inj h; rfl
  | 10, h => obtain rfl := Option.some.inj h; rfl
  | 11, h => obtain rfl := Option.some.inj h; rfl
  | 12, h => obtain rfl := Option.some.inj h; rfl
  | 13, h => obtain rfl := Option.some.inj h; rfl
  | 14, h => obtain rfl := Option.some.inj h; rfl
  | 15, h => obtain rfl := Option.some.inj h; rfl
  | 16, h => obtain rfl := Option.some.inj h; rfl
  | 17, h => obtain rfl := Option.some.inj h; rfl
  | 18, h => obtain rfl := Option.some.inj h; rfl
  | 19, h => obtain rfl := Option.some.inj h; rfl
  | 20, h => obtain rfl := Option.some.inj h; rfl
  | 21, h => obtain rfl := Option.some.inj h; rfl
  | 22, h => obtain rfl := Option.some.inj h; rfl
  | 23, h => obtain rfl := Option.some.inj h; rfl
  | 24, h => obtain rfl := Option.some.inj h; rfl
  | 25, h => obtain rfl := Option.some.inj h; rfl
  | 26, h => obtain rfl := Option.some.inj h; rfl
  | 27, h => obtain rfl := Option.some.inj h; rfl
  | n + 28, h => exact absurd h (by simp [ds])
section
variable {K : PySem.W.Frag} {a : Addr} {fd : FuncData}
theorem b_is_whole (F : FunD K e_is_whole.x e_is_whole.x (defArgs (e_is_whole.st bodyL)) (defBody (e_is_whole.st bodyL)) (defScope (e_is_whole.st bodyL)) [] [] a fd) : BindOk K kw 0 e_is_whole fd := by
  refine ⟨F.bindsN fun _ _ _ _ _ _ us hl => match us, hl with | [_], _ => rfl, fun n ks perm hm => ?_⟩
  simp [kw] at hm
theorem b_common_of (F : FunD K e_common_of.x e_common_of.x (defArgs (e_common_of.st bodyL)) (defBody (e_common_of.st bodyL)) (defScope (e_common_of.st bodyL)) [] [] a fd) : BindOk K kw 1 e_common_of fd := by
  refine ⟨F.bindsN fun _ _ _ _ _ _ us hl => match us, hl with | [_, _], _ => rfl, fun n ks perm hm => ?_⟩
  simp [kw] at hm
theorem b_is_fraction (F : FunD K e_is_fraction.x e_is_fraction.x (defArgs (e_is_fraction.st bodyL)) (defBody (e_is_fraction.st bodyL)) (defScope (e_is_fraction.st bodyL)) [] [] a fd) : BindOk K kw 2 e_is_fraction fd := by
  refine ⟨F.bindsN fun _ _ _ _ _ _ us hl => match us, hl with | [_], _ => rfl, fun n ks perm hm => ?_⟩
  simp only [kw, List.mem_cons, Prod.mk.injEq, List.not_mem_nil, or_false] at hm
  have hm : (n = 0 ∧ ks = (["value"] : List Str) ∧ perm = [0]) := by
    revert hm; simp
  obtain ⟨oc, od, dV, kV, doc, pm, an, cdv, ct, osl, rfl, _, _, hD, _⟩ := F.ex
  rcases hD with ⟨_, rfl⟩ | ⟨e, _⟩
  rotate_left
  · exact absurd rfl e
  obtain ⟨rfl, rfl, rfl⟩ := hm
  · intro s us ws hK h1 h2
    match us, ws, h1, h2 with
    | [], [_], _, _ => exact .of_eq rfl
theorem b_lowest (F : FunD K e_lowest.x e_lowest.x (defArgs (e_lowest.st bodyL)) (defBody (e_lowest.st bodyL)) (defScope (e_lowest.st bodyL)) [] [] a fd) : BindOk K kw 3 e_lowest fd := by
  refine ⟨F.bindsN fun _ _ _ _ _ _ us hl => match us, hl with | [_, _], _ => rfl, fun n ks perm hm => ?_⟩
  simp only [kw, List.mem_cons, Prod.mk.injEq, List.not_mem_nil, or_false] at hm
  have hm : (n = 0 ∧ ks = (["bottom", "number"] : List Str) ∧ perm = [1, 0]) := by
    revert hm; simp
  obtain ⟨oc, od, dV, kV, doc, pm, an, cdv, ct, osl, rfl, _, _, hD, _⟩ := F.ex
  rcases hD with ⟨_, rfl⟩ | ⟨e, _⟩
  rotate_left
  · exact absurd rfl e
  obtain ⟨rfl, rfl, rfl⟩ := hm
  · intro s us ws hK h1 h2
    match us, ws, h1, h2 with
    | [], [_, _], _, _ => exact .of_eq rfl
theorem b_plus (F : FunD K e_plus.x e_plus.x (defArgs (e_plus.st bodyL)) (defBody (e_plus.st bodyL)) (defScope (e_plus.st bodyL)) [] [] a fd) : BindOk K kw 4 e_plus fd := by
  refine ⟨F.bindsN fun _ _ _ _ _ _ us hl => match us, hl with | [_, _], _ => rfl, fun n ks perm hm => ?_⟩
  simp only [kw, List.mem_cons, Prod.mk.injEq, List.not_mem_nil, or_false] at hm
  have hm : (n = 0 ∧ ks = (["other", "one"] : List Str) ∧ perm = [1, 0]) := by
    revert hm; simp
  obtain ⟨oc, od, dV, kV, doc, pm, an, cdv, ct, osl, rfl, _, _, hD, _⟩ := F.ex
  rcases hD with ⟨_, rfl⟩ | ⟨e, _⟩
  rotate_left
  · exact absurd rfl e
  obtain ⟨rfl, rfl, rfl⟩ := hm
  · intro s us ws hK h1 h2
    match us, ws, h1, h2 with
    | [], [_, _], _, _ => exact .of_eq rfl
theorem b_minus (F : FunD K e_minus.x e_minus.x (defArgs (e_minus.st bodyL)) (defBody (e_minus.st bodyL)) (defScope (e_minus.st bodyL)) [] [] a fd) : BindOk K kw 5 e_minus fd := by
  refine ⟨F.bindsN fun _ _ _ _ _ _ us hl => match us, hl with | [_, _], _ => rfl, fun n ks perm hm => ?_⟩
  simp only [kw, List.mem_cons, Prod.mk.injEq, List.not_mem_nil, or_false] at hm
  have hm : (n = 0 ∧ ks = (["other", "one"] : List Str) ∧ perm = [1, 0]) := by
    revert hm; simp
  obtain ⟨oc, od, dV, kV, doc, pm, an, cdv, ct, osl, rfl, _, _, hD, _⟩ := F.ex
  rcases hD with ⟨_, rfl⟩ | ⟨e, _⟩
  rotate_left
  · exact absurd rfl e
  obtain ⟨rfl, rfl, rfl⟩ := hm
  · intro s us ws hK h1 h2
    match us, ws, h1, h2 with
    | [], [_, _], _, _ => exact .of_eq rfl
theorem b_times (F : FunD K e_times.x e_times.x (defArgs (e_times.st bodyL)) (defBody (e_times.st bodyL)) (defScope (e_times.st bodyL)) [] [] a fd) : BindOk K kw 6 e_times fd := by
  refine ⟨F.bindsN fun _ _ _ _ _ _ us hl => match us, hl with | [_, _], _ => rfl, fun n ks perm hm => ?_⟩
  simp only [kw, List.mem_cons, Prod.mk.injEq, List.not_mem_nil, or_false] at hm
  have hm : (n = 0 ∧ ks = (["other", "one"] : List Str) ∧ perm = [1, 0]) := by
    revert hm; simp
  obtain ⟨oc, od, dV, kV, doc, pm, an, cdv, ct, osl, rfl, _, _, hD, _⟩ := F.ex
  rcases hD with ⟨_, rfl⟩ | ⟨e, _⟩
  rotate_left
  · exact absurd rfl e
  obtain ⟨rfl, rfl, rfl⟩ := hm
  · intro s us ws hK h1 h2
    match us, ws, h1, h2 with
    | [], [_, _], _, _ => exact .of_eq rfl
theorem b_compared (F : FunD K e_compared.x e_compared.x (defArgs (e_compared.st bodyL)) (defBody (e_compared.st bodyL)) (defScope (e_compared.st bodyL)) [] [] a fd) : BindOk K kw 7 e_compared fd := by
  refine ⟨F.bindsN fun _ _ _ _ _ _ us hl => match us, hl with | [_, _], _ => rfl, fun n ks perm hm => ?_⟩
  simp only [kw, List.mem_cons, Prod.mk.injEq, List.not_mem_nil, or_false] at hm
  have hm : (n = 0 ∧ ks = (["other", "one"] : List Str) ∧ perm = [1, 0]) := by
    revert hm; simp
  obtain ⟨oc, od, dV, kV, doc, pm, an, cdv, ct, osl, rfl, _, _, hD, _⟩ := F.ex
  rcases hD with ⟨_, rfl⟩ | ⟨e, _⟩
  rotate_left
  · exact absurd rfl e
  obtain ⟨rfl, rfl, rfl⟩ := hm
  · intro s us ws hK h1 h2
    match us, ws, h1, h2 with
    | [], [_, _], _, _ => exact .of_eq rfl
theorem b_over (F : FunD K e_over.x e_over.x (defArgs (e_over.st bodyL)) (defBody (e_over.st bodyL)) (defScope (e_over.st bodyL)) [] [] a fd) : BindOk K kw 8 e_over fd := by
  refine ⟨F.bindsN fun _ _ _ _ _ _ us hl => match us, hl with | [_, _], _ => rfl, fun n ks perm hm => ?_⟩
  simp only [kw, List.mem_cons, Prod.mk.injEq, List.not_mem_nil, or_false] at hm
  have hm : (n = 0 ∧ ks = (["other", "one"] : List Str) ∧ perm = [1, 0]) := by
    revert hm; simp
  obtain ⟨oc, od, dV, kV, doc, pm, an, cdv, ct, osl, rfl, _, _, hD, _⟩ := F.ex
  rcases hD with ⟨_, rfl⟩ | ⟨e, _⟩
  rotate_left
  · exact absurd rfl e
  obtain ⟨rfl, rfl, rfl⟩ := hm
  · intro s us ws hK h1 h2
    match us, ws, h1, h2 with
    | [], [_, _], _, _ => exact .of_eq rfl
theorem b_is_share (F : FunD K e_is_share.x e_is_share.x (defArgs (e_is_share.st bodyL)) (defBody (e_is_share.st bodyL)) (defScope (e_is_share.st bodyL)) [] [] a fd) : BindOk K kw 9 e_is_share fd := by
  refine ⟨F.bindsN fun _ _ _ _ _ _ us hl => match us, hl with | [_], _ => rfl, fun n ks perm hm => ?_⟩
  simp only [kw, List.mem_cons, Prod.mk.injEq, List.not_mem_nil, or_false] at hm
  have hm : (n = 0 ∧ ks = (["value"] : List Str) ∧ perm = [0]) := by
    revert hm; simp
  obtain ⟨oc, od, dV, kV, doc, pm, an, cdv, ct, osl, rfl, _, _, hD, _⟩ := F.ex
  rcases hD with ⟨_, rfl⟩ | ⟨e, _⟩
  rotate_left
  · exact absurd rfl e
  obtain ⟨rfl, rfl, rfl⟩ := hm
  · intro s us ws hK h1 h2
    match us, ws, h1, h2 with
    | [], [_], _, _ => exact .of_eq rfl
theorem b__law_hash (F : FunD K e__law_hash.x e__law_hash.x (defArgs (e__law_hash.st bodyL)) (defBody (e__law_hash.st bodyL)) (defScope (e__law_hash.st bodyL)) [] [] a fd) : BindOk K kw 10 e__law_hash fd := by
  refine ⟨F.bindsN fun _ _ _ _ _ _ us hl => match us, hl with | [_, _], _ => rfl, fun n ks perm hm => ?_⟩
  simp [kw] at hm
theorem b__law_random (F : FunD K e__law_random.x e__law_random.x (defArgs (e__law_random.st bodyL)) (defBody (e__law_random.st bodyL)) (defScope (e__law_random.st bodyL)) [] [] a fd) : BindOk K kw 11 e__law_random fd := by
  refine ⟨F.bindsN fun _ _ _ _ _ _ us hl => match us, hl with | [_, _], _ => rfl, fun n ks perm hm => ?_⟩
  simp [kw] at hm
theorem b__law_cell (F : FunD K e__law_cell.x e__law_cell.x (defArgs (e__law_cell.st bodyL)) (defBody (e__law_cell.st bodyL)) (defScope (e__law_cell.st bodyL)) [] [] a fd) : BindOk K kw 12 e__law_cell fd := by
  refine ⟨F.bindsN fun _ _ _ _ _ _ us hl => match us, hl with | [_, _], _ => rfl, fun n ks perm hm => ?_⟩
  simp [kw] at hm
theorem b__law_generator (F : FunD K e__law_generator.x e__law_generator.x (defArgs (e__law_generator.st bodyL)) (defBody (e__law_generator.st bodyL)) (defScope (e__law_generator.st bodyL)) [] [] a fd) : BindOk K kw 13 e__law_generator fd := by
  refine ⟨F.bindsN fun _ _ _ _ _ _ us hl => match us, hl with | [_, _], _ => rfl, fun n ks perm hm => ?_⟩
  simp [kw] at hm
theorem b__law_pick (F : FunD K e__law_pick.x e__law_pick.x (defArgs (e__law_pick.st bodyL)) (defBody (e__law_pick.st bodyL)) (defScope (e__law_pick.st bodyL)) [] [] a fd) : BindOk K kw 14 e__law_pick fd := by
  refine ⟨F.bindsN fun _ _ _ _ _ _ us hl => match us, hl with | [_, _], _ => rfl, fun n ks perm hm => ?_⟩
  simp [kw] at hm
theorem b__law_same (F : FunD K e__law_same.x e__law_same.x (defArgs (e__law_same.st bodyL)) (defBody (e__law_same.st bodyL)) (defScope (e__law_same.st bodyL)) [] [] a fd) : BindOk K kw 15 e__law_same fd := by
  refine ⟨F.bindsN fun _ _ _ _ _ _ us hl => match us, hl with | [_, _], _ => rfl, fun n ks perm hm => ?_⟩
  simp [kw] at hm
theorem b__law_is_whole (F : FunD K e__law_is_whole.x e__law_is_whole.x (defArgs (e__law_is_whole.st bodyL)) (defBody (e__law_is_whole.st bodyL)) (defScope (e__law_is_whole.st bodyL)) [] [] a fd) : BindOk K kw 16 e__law_is_whole fd := by
  refine ⟨F.bindsN fun _ _ _ _ _ _ us hl => match us, hl with | [_], _ => rfl, fun n ks perm hm => ?_⟩
  simp [kw] at hm
theorem b__law_call (F : FunD K e__law_call.x e__law_call.x (defArgs (e__law_call.st bodyL)) (defBody (e__law_call.st bodyL)) (defScope (e__law_call.st bodyL)) [] [] a fd) : BindOk K kw 17 e__law_call fd := by
  refine ⟨F.bindsN fun _ _ _ _ _ _ us hl => match us, hl with | [_, _], _ => rfl, fun n ks perm hm => ?_⟩
  simp [kw] at hm
theorem b__law_judged (F : FunD K e__law_judged.x e__law_judged.x (defArgs (e__law_judged.st bodyL)) (defBody (e__law_judged.st bodyL)) (defScope (e__law_judged.st bodyL)) [] [] a fd) : BindOk K kw 18 e__law_judged fd := by
  refine ⟨F.bindsN fun _ _ _ _ _ _ us hl => match us, hl with | [_, _, _, _], _ => rfl, fun n ks perm hm => ?_⟩
  simp [kw] at hm
theorem b__law_common (F : FunD K e__law_common.x e__law_common.x (defArgs (e__law_common.st bodyL)) (defBody (e__law_common.st bodyL)) (defScope (e__law_common.st bodyL)) [] [] a fd) : BindOk K kw 19 e__law_common fd := by
  refine ⟨F.bindsN fun _ _ _ _ _ _ us hl => match us, hl with | [_, _], _ => rfl, fun n ks perm hm => ?_⟩
  simp [kw] at hm
theorem b__law_lowest (F : FunD K e__law_lowest.x e__law_lowest.x (defArgs (e__law_lowest.st bodyL)) (defBody (e__law_lowest.st bodyL)) (defScope (e__law_lowest.st bodyL)) [] [] a fd) : BindOk K kw 20 e__law_lowest fd := by
  refine ⟨F.bindsN fun _ _ _ _ _ _ us hl => match us, hl with | [_, _], _ => rfl, fun n ks perm hm => ?_⟩
  simp [kw] at hm
theorem b__law_is_fraction (F : FunD K e__law_is_fraction.x e__law_is_fraction.x (defArgs (e__law_is_fraction.st bodyL)) (defBody (e__law_is_fraction.st bodyL)) (defScope (e__law_is_fraction.st bodyL)) [] [] a fd) : BindOk K kw 21 e__law_is_fraction fd := by
  refine ⟨F.bindsN fun _ _ _ _ _ _ us hl => match us, hl with | [_], _ => rfl, fun n ks perm hm => ?_⟩
  simp [kw] at hm
theorem b__law_plus (F : FunD K e__law_plus.x e__law_plus.x (defArgs (e__law_plus.st bodyL)) (defBody (e__law_plus.st bodyL)) (defScope (e__law_plus.st bodyL)) [] [] a fd) : BindOk K kw 22 e__law_plus fd := by
  refine ⟨F.bindsN fun _ _ _ _ _ _ us hl => match us, hl with | [_, _], _ => rfl, fun n ks perm hm => ?_⟩
  simp [kw] at hm
theorem b__law_minus (F : FunD K e__law_minus.x e__law_minus.x (defArgs (e__law_minus.st bodyL)) (defBody (e__law_minus.st bodyL)) (defScope (e__law_minus.st bodyL)) [] [] a fd) : BindOk K kw 23 e__law_minus fd := by
  refine ⟨F.bindsN fun _ _ _ _ _ _ us hl => match us, hl with | [_, _], _ => rfl, fun n ks perm hm => ?_⟩
  simp [kw] at hm
theorem b__law_times (F : FunD K e__law_times.x e__law_times.x (defArgs (e__law_times.st bodyL)) (defBody (e__law_times.st bodyL)) (defScope (e__law_times.st bodyL)) [] [] a fd) : BindOk K kw 24 e__law_times fd := by
  refine ⟨F.bindsN fun _ _ _ _ _ _ us hl => match us, hl with | [_, _], _ => rfl, fun n ks perm hm => ?_⟩
  simp [kw] at hm
theorem b__law_less (F : FunD K e__law_less.x e__law_less.x (defArgs (e__law_less.st bodyL)) (defBody (e__law_less.st bodyL)) (defScope (e__law_less.st bodyL)) [] [] a fd) : BindOk K kw 25 e__law_less fd := by
  refine ⟨F.bindsN fun _ _ _ _ _ _ us hl => match us, hl with | [_, _], _ => rfl, fun n ks perm hm => ?_⟩
  simp [kw] at hm
theorem b__law_drawn_fraction (F : FunD K e__law_drawn_fraction.x e__law_drawn_fraction.x (defArgs (e__law_drawn_fraction.st bodyL)) (defBody (e__law_drawn_fraction.st bodyL)) (defScope (e__law_drawn_fraction.st bodyL)) [] [] a fd) : BindOk K kw 26 e__law_drawn_fraction fd := by
  refine ⟨F.bindsN fun _ _ _ _ _ _ us hl => match us, hl with | [_, _], _ => rfl, fun n ks perm hm => ?_⟩
  simp [kw] at hm
theorem b__law_pair_right (F : FunD K e__law_pair_right.x e__law_pair_right.x (defArgs (e__law_pair_right.st bodyL)) (defBody (e__law_pair_right.st bodyL)) (defScope (e__law_pair_right.st bodyL)) [] [] a fd) : BindOk K kw 27 e__law_pair_right fd := by
  refine ⟨F.bindsN fun _ _ _ _ _ _ us hl => match us, hl with | [_], _ => rfl, fun n ks perm hm => ?_⟩
  simp [kw] at hm
theorem b_all (f : Nat) (e : DD) (fd : FuncData) (h : ds[f]? = some e) (F : FunD K e.x e.x (defArgs (e.st bodyL)) (defBody (e.st bodyL)) (defScope (e.st bodyL)) [] [] (He.ga K e.x) fd) : BindOk K kw f e fd := by
  match f, h with
  | 0, h => obtain rfl := Option.some.inj h; exact b_is_whole F
  | 1, h => obtain rfl := Option.some.inj h; exact b_common_of F
  | 2, h => obtain rfl := Option.some.inj h; exact b_is_fraction F
  | 3, h => obtain rfl := Option.some.inj h; exact b_lowest F
  | 4, h => obtain rfl := Option.some.inj h; exact b_plus F
  | 5, h => obtain rfl := Option.some.inj h; exact b_minus F
  | 6, h => obtain rfl := Option.some.inj h; exact b_times F
  | 7, h => obtain rfl := Option.some.inj h; exact b_compared F
  | 8, h => obtain rfl := Option.some.inj h; exact b_over F
  | 9, h => obtain rfl := Option.some.inj h; exact b_is_share F
  | 10, h => obtain rfl := Option.some.inj h; exact b__law_hash F
  | 11, h => obtain rfl := Option.some.inj h; exact b__law_random F
  | 12, h => obtain rfl := Option.some.inj h; exact b__law_cell F
  | 13, h => obtain rfl := Option.some.inj h; exact b__law_generator F
  | 14, h => obtain rfl := Option.some.inj h; exact b__law_pick F
  | 15, h => obtain rfl := Option.some.inj h; exact b__law_same F
  | 16, h => obtain rfl := Option.some.inj h; exact b__law_is_whole F
  | 17, h => obtain rfl := Option.some.inj h; exact b__law_call F
  | 18, h => obtain rfl := Option.some.inj h; exact b__law_judged F
  | 19, h => obtain rfl := Option.some.inj h; exact b__law_common F
  | 20, h => obtain rfl := Option.some.inj h; exact b__law_lowest F
  | 21, h => obtain rfl := Option.some.inj h; exact b__law_is_fraction F
  | 22, h => obtain rfl := Option.some.inj h; exact b__law_plus F
  | 23, h => obtain rfl := Option.some.inj h; exact b__law_minus F
  | 24, h => obtain rfl := Option.some.inj h; exact b__law_times F
  | 25, h => obtain rfl := Option.some.inj h; exact b__law_less F
  | 26, h => obtain rfl := Option.some.inj h; exact b__law_drawn_fraction F
  | 27, h => obtain rfl := Option.some.inj h; exact b__law_pair_right F
  | n + 28, h => exact absurd h (by simp [ds])
end
theorem ok_lam : LamOk nm T lamB := fun k L h => by
  unfold lamB at h
  split at h
  · have h1 := ands h
    have h2 := ands h1.1
    have h3 := h2.1
    split at h3
    · rename_i a0 hp
      obtain ⟨q, pa, bo, sc⟩ := L
      obtain rfl : pa = _ := hp
      obtain ⟨n0, t0, p0⟩ := a0
      obtain rfl : n0 = "value" := eq_of_beq h3
      exact ⟨["value"], ["value"], x_law_lam0, fun c pm ctv us hl => match us, hl with | [_], _ => rfl, rfl, fun i z => (by unfold x_law_lam0 at z; cases z), h2.2, h1.2⟩
    · cases h3
  · cases h
theorem ok_free {q : Str} {K : PySem.W.Frag} (k : Nat) (params : Arguments) (scope : Scope) (body : Expr) (h : lamB k params scope body = true) : (fnsOf K ds lamB).ml k ⟨q, params, body, scope⟩ ∧ (∀ y ∈ scope.names, y.2 ≠ .free) ∧ ∀ env, defaultsOf params env = ([], []) := by
  refine ⟨h, ?_⟩
  unfold lamB at h
  split at h
  · have h1 := ands h
    have h2 := ands h1.1
    have h3 := h2.1
    refine ⟨fun y m z => (nomatch (NdefX.nscope_by h2.2).free y m z), ?_⟩
    split at h3
    · exact fun env => rfl
    · cases h3
  · cases h
def stL : Stmt := bodyL.getD 31 (.Pass ⟨0, 0, 0, 0⟩)
def nL : List Str := ["script", "index", "generator", "turn", "one", "other", "values"]
theorem ok_sc : FnScope nL ["script"] (defScope stL) := scB_ok (by decide +kernel)
theorem ok_law : isSs { nm with mks := true } nL [] (defScope stL) d_law.body (defBody stL) = true := by decide +kernel
/-- what the law computes -/
def run (s : List Int) : CR := runF ⟨RF.G T 5000 40, sigT T⟩ 5000 d_law [.z (.scr s)]
def dL : He.DefD := ⟨("law", none), "law", "law", defArgs stL, defBody stL, defScope stL, [], []⟩
def fnL : List He.DefD := dL :: ds.map (DD.d bodyL)
def faL : List He.Fa := He.Fa.glo "law" :: (ds.map (fun e => He.Fa.glo e.x) ++ (bltNames.map He.Fa.free ++ ks.map fun q => He.Fa.int q.1 q.2))
abbrev R : PySem.W.OpenRow := PySem.W.OpenLaw.row PySem.Challenge.rw_risingfits_k01_fractions_of_fits
abbrev tf : List He.Defn := [("law", none)]
abbrev ex : PySem.W.Frag → Bool := fun _ => true
abbrev hk : PySem.W.Hook := He.hookX 4 faL fnL [] tf ex
def ob (s : PySem.W.SharedT) : He.AlX := He.obsX 4 faL fnL [] tf ex (HandSHeadRun.getT s)
theorem ob_eq (s : PySem.W.SharedT) : ob s = hk.obs s.abs := He.obsX_eq (HandSHeadRun.getT_eq s)
def names : List Str := ["is_whole", "common_of", "is_fraction", "lowest", "plus", "minus", "times", "compared", "over", "is_share", "_law_hash", "_law_random", "_law_cell", "_law_generator", "_law_pick", "_law_same", "_law_is_whole", "_law_call", "_law_judged", "_law_common", "_law_lowest", "_law_is_fraction", "_law_plus", "_law_minus", "_law_times", "_law_less", "_law_drawn_fraction", "_law_pair_right"]
end K01
/-! K01m: what the law of fractions computes. -/
namespace K01
open RF
abbrev Wf : Nat := 5000
def g (n f : Nat) (os : List O) : CR := RF.G T Wf n f os
def cc (n : Nat) : Cfg := ⟨RF.G T Wf n, sigT T⟩
abbrev zi (i : Int) : O := .z (.int i)
abbrev fr (a b : Int) : O := .z (.tup [.int a, .int b])
abbrev ret (o : O) : CR := .rt o []
theorem cc_call (n f : Nat) (os : List O) : (cc n).call f os = g n f os := rfl
theorem at_is_whole (n : Nat) (os : List O) : g (n + 1) f_is_whole os = runF (cc n) Wf d_is_whole os := rfl
theorem sg_is_whole (n : Nat) : (cc n).sig f_is_whole = [false] := rfl
theorem at_common_of (n : Nat) (os : List O) : g (n + 1) f_common_of os = runF (cc n) Wf d_common_of os := rfl
theorem sg_common_of (n : Nat) : (cc n).sig f_common_of = [false, false] := rfl
theorem at_is_fraction (n : Nat) (os : List O) : g (n + 1) f_is_fraction os = runF (cc n) Wf d_is_fraction os := rfl
theorem sg_is_fraction (n : Nat) : (cc n).sig f_is_fraction = [false] := rfl
theorem at_lowest (n : Nat) (os : List O) : g (n + 1) f_lowest os = runF (cc n) Wf d_lowest os := rfl
theorem sg_lowest (n : Nat) : (cc n).sig f_lowest = [false, false] := rfl
theorem at_plus (n : Nat) (os : List O) : g (n + 1) f_plus os = runF (cc n) Wf d_plus os := rfl
theorem sg_plus (n : Nat) : (cc n).sig f_plus = [false, false] := rfl
theorem at_minus (n : Nat) (os : List O) : g (n + 1) f_minus os = runF (cc n) Wf d_minus os := rfl
theorem sg_minus (n : Nat) : (cc n).sig f_minus = [false, false] := rfl
theorem at_times (n : Nat) (os : List O) : g (n + 1) f_times os = runF (cc n) Wf d_times os := rfl
theorem sg_times (n : Nat) : (cc n).sig f_times = [false, false] := rfl
theorem at_compared (n : Nat) (os : List O) : g (n + 1) f_compared os = runF (cc n) Wf d_compared os := rfl
theorem sg_compared (n : Nat) : (cc n).sig f_compared = [false, false] := rfl
theorem at_over (n : Nat) (os : List O) : g (n + 1) f_over os = runF (cc n) Wf d_over os := rfl
theorem sg_over (n : Nat) : (cc n).sig f_over = [false, false] := rfl
theorem at_is_share (n : Nat) (os : List O) : g (n + 1) f_is_share os = runF (cc n) Wf d_is_share os := rfl
theorem sg_is_share (n : Nat) : (cc n).sig f_is_share = [false] := rfl
theorem at__law_hash (n : Nat) (os : List O) : g (n + 1) f__law_hash os = runF (cc n) Wf d__law_hash os := rfl
theorem sg__law_hash (n : Nat) : (cc n).sig f__law_hash = [false, false] := rfl
theorem at__law_random (n : Nat) (os : List O) : g (n + 1) f__law_random os = runF (cc n) Wf d__law_random os := rfl
theorem sg__law_random (n : Nat) : (cc n).sig f__law_random = [true, false] := rfl
theorem at__law_cell (n : Nat) (os : List O) : g (n + 1) f__law_cell os = runF (cc n) Wf d__law_cell os := rfl
theorem sg__law_cell (n : Nat) : (cc n).sig f__law_cell = [false, false] := rfl
theorem at__law_generator (n : Nat) (os : List O) : g (n + 1) f__law_generator os = runF (cc n) Wf d__law_generator os := rfl
theorem sg__law_generator (n : Nat) : (cc n).sig f__law_generator = [false, false] := rfl
theorem at__law_pick (n : Nat) (os : List O) : g (n + 1) f__law_pick os = runF (cc n) Wf d__law_pick os := rfl
theorem sg__law_pick (n : Nat) : (cc n).sig f__law_pick = [true, false] := rfl
theorem at__law_same (n : Nat) (os : List O) : g (n + 1) f__law_same os = runF (cc n) Wf d__law_same os := rfl
theorem sg__law_same (n : Nat) : (cc n).sig f__law_same = [false, false] := rfl
theorem at__law_is_whole (n : Nat) (os : List O) : g (n + 1) f__law_is_whole os = runF (cc n) Wf d__law_is_whole os := rfl
theorem sg__law_is_whole (n : Nat) : (cc n).sig f__law_is_whole = [false] := rfl
theorem at__law_call (n : Nat) (os : List O) : g (n + 1) f__law_call os = runF (cc n) Wf d__law_call os := rfl
theorem sg__law_call (n : Nat) : (cc n).sig f__law_call = [false, false] := rfl
theorem at__law_judged (n : Nat) (os : List O) : g (n + 1) f__law_judged os = runF (cc n) Wf d__law_judged os := rfl
theorem sg__law_judged (n : Nat) : (cc n).sig f__law_judged = [false, false, false, false] := rfl
theorem at__law_common (n : Nat) (os : List O) : g (n + 1) f__law_common os = runF (cc n) Wf d__law_common os := rfl
theorem sg__law_common (n : Nat) : (cc n).sig f__law_common = [false, false] := rfl
theorem at__law_lowest (n : Nat) (os : List O) : g (n + 1) f__law_lowest os = runF (cc n) Wf d__law_lowest os := rfl
theorem sg__law_lowest (n : Nat) : (cc n).sig f__law_lowest = [false, false] := rfl
theorem at__law_is_fraction (n : Nat) (os : List O) : g (n + 1) f__law_is_fraction os = runF (cc n) Wf d__law_is_fraction os := rfl
theorem sg__law_is_fraction (n : Nat) : (cc n).sig f__law_is_fraction = [false] := rfl
theorem at__law_plus (n : Nat) (os : List O) : g (n + 1) f__law_plus os = runF (cc n) Wf d__law_plus os := rfl
theorem sg__law_plus (n : Nat) : (cc n).sig f__law_plus = [false, false] := rfl
theorem at__law_minus (n : Nat) (os : List O) : g (n + 1) f__law_minus os = runF (cc n) Wf d__law_minus os := rfl
theorem sg__law_minus (n : Nat) : (cc n).sig f__law_minus = [false, false] := rfl
theorem at__law_times (n : Nat) (os : List O) : g (n + 1) f__law_times os = runF (cc n) Wf d__law_times os := rfl
theorem sg__law_times (n : Nat) : (cc n).sig f__law_times = [false, false] := rfl
theorem at__law_less (n : Nat) (os : List O) : g (n + 1) f__law_less os = runF (cc n) Wf d__law_less os := rfl
theorem sg__law_less (n : Nat) : (cc n).sig f__law_less = [false, false] := rfl
theorem at__law_drawn_fraction (n : Nat) (os : List O) : g (n + 1) f__law_drawn_fraction os = runF (cc n) Wf d__law_drawn_fraction os := rfl
theorem sg__law_drawn_fraction (n : Nat) : (cc n).sig f__law_drawn_fraction = [true, false] := rfl
theorem at__law_pair_right (n : Nat) (os : List O) : g (n + 1) f__law_pair_right os = runF (cc n) Wf d__law_pair_right os := rfl
theorem sg__law_pair_right (n : Nat) : (cc n).sig f__law_pair_right = [true] := rfl
theorem at_law (n : Nat) (os : List O) : g (n + 1) f_law os = runF (cc n) Wf d_law os := rfl
theorem sg_law (n : Nat) : (cc n).sig f_law = [false] := rfl
theorem at_law_lam0 (n : Nat) (os : List O) : g (n + 1) f_law_lam0 os = runF (cc n) Wf d_law_lam0 os := rfl
theorem sg_law_lam0 (n : Nat) : (cc n).sig f_law_lam0 = List.replicate 1 false := rfl
theorem t_whole (n : Nat) (i : Int) : g (n + 1) f_is_whole [zi i] = ret (.z (.bl true)) := rfl
theorem t_whole2 (n : Nat) (i : Int) : g (n + 1) f__law_is_whole [zi i] = ret (.z (.bl true)) := rfl
/-! ### sizes -/
def Sm (k : Nat) (x : Int) : Prop := x.natAbs < 2 ^ k
theorem Sm.mono {j k : Nat} {x : Int} (h : Sm j x) (l : j ≤ k) : Sm k x := Nat.lt_of_lt_of_le h (Nat.pow_le_pow_right (by decide) l)
theorem Sm.log {k : Nat} {x : Int} (h : Sm k x) : x.natAbs.log2 ≤ k := by
  by_cases z : x.natAbs = 0
  · rw [z]; exact Nat.zero_le _
  · exact Nat.le_of_lt ((Nat.log2_lt z).mpr h)
theorem mulOk_of {j k : Nat} {x y : Int} (h1 : Sm j x) (h2 : Sm k y) (l : j + k < 1000000) : mulOk x y = true := by
  unfold mulOk
  have a := h1.log
  have b := h2.log
  exact decide_eq_true (by omega)
theorem divOk_of {k : Nat} {y : Int} (h : Sm k y) (l : k < 9000) (n : y ≠ 0) : divOk y = true := by
  unfold divOk
  have b := h.log
  rw [decide_eq_true n, decide_eq_true (show y.natAbs.log2 < 9000 by omega)]; rfl
theorem Sm.mul {j k : Nat} {x y : Int} (h1 : Sm j x) (h2 : Sm k y) : Sm (j + k) (x * y) := by
  unfold Sm at *
  rw [Int.natAbs_mul, Nat.pow_add]
  exact Nat.mul_lt_mul'' h1 h2
theorem Sm.add {k : Nat} {x y : Int} (h1 : Sm k x) (h2 : Sm k y) : Sm (k + 1) (x + y) := by
  unfold Sm at *
  rw [Nat.pow_succ]
  omega
theorem Sm.sub {k : Nat} {x y : Int} (h1 : Sm k x) (h2 : Sm k y) : Sm (k + 1) (x - y) := by
  unfold Sm at *
  rw [Nat.pow_succ]
  omega
theorem Sm.neg {k : Nat} {x : Int} (h1 : Sm k x) : Sm k (-x) := by
  unfold Sm at *
  omega
theorem fmod_lt (a : Int) {b : Int} (h : b ≠ 0) : (a.fmod b).natAbs < b.natAbs := by
  rcases Int.lt_or_gt_of_ne h with z | z
  · have h1 := @Int.fmod_eq_emod a b
    have e1 := Int.emod_nonneg a h
    have e2 := Int.emod_lt_of_neg a z
    rw [h1]
    split <;> rename_i q
    · rcases q with q | q
      · omega
      · have := Int.emod_eq_zero_of_dvd q
        omega
    · have : a % b ≠ 0 := fun y => q (.inr (Int.dvd_of_emod_eq_zero y))
      omega
  · have e1 := Int.emod_nonneg a h
    have e2 := Int.emod_lt_of_pos a z
    rw [Int.fmod_eq_emod_of_nonneg a (by omega)]
    omega
theorem fmod_sign (a b : Int) : (0 < b → 0 ≤ a.fmod b) ∧ (b < 0 → a.fmod b ≤ 0) := by
  refine ⟨fun z => ?_, fun z => ?_⟩
  · have e1 := Int.emod_nonneg a (show b ≠ 0 by omega)
    rw [Int.fmod_eq_emod_of_nonneg a (by omega)]
    exact e1
  · have h1 := @Int.fmod_eq_emod a b
    have e2 := Int.emod_lt_of_neg a z
    rw [h1]
    split <;> rename_i q
    · rcases q with q | q
      · omega
      · have := Int.emod_eq_zero_of_dvd q
        omega
    · omega
theorem gcd_fmod (a b : Int) : Int.gcd b (a.fmod b) = Int.gcd a b := by
  have e : a.fmod b = a - b * a.fdiv b := Int.fmod_def a b
  rw [e, Int.gcd_comm a b]
  have : a - b * a.fdiv b = a + b * (-(a.fdiv b)) := by rw [Int.mul_neg]; omega
  rw [this]
  exact Int.gcd_add_mul_left_right ..
/-- Euclid's way -/
def euc : Nat → Int → Int → Int
  | 0, a, _ => a
  | n + 1, a, b => if b = 0 then a else euc n b (a.fmod b)
def Fin' : Nat → Int → Int → Prop
  | 0, _, b => b = 0
  | n + 1, a, b => b = 0 ∨ Fin' n b (a.fmod b)
theorem euc_gcd : ∀ (k n : Nat) (a b : Int), b.natAbs < 2 ^ k → 2 * k ≤ n → (euc n a b).natAbs = Int.gcd a b ∧ Fin' n a b
  | 0, n, a, b, h, _ => by
    have hb : b = 0 := by simp at h; exact h
    subst hb
    cases n with
    | zero => exact ⟨by simp [euc], rfl⟩
    | succ n => exact ⟨by simp [euc], .inl rfl⟩
  | k + 1, 0, _, _, _, l => by omega
  | k + 1, 1, _, _, _, l => by omega
  | k + 1, n + 2, a, b, h, l => by
    unfold euc
    by_cases hb : b = 0
    · rw [if_pos hb, hb]; exact ⟨by simp, .inl rfl⟩
    · rw [if_neg hb]
      unfold euc
      by_cases hr : a.fmod b = 0
      · rw [if_pos hr, ← gcd_fmod, hr]; exact ⟨by simp, .inr (.inl hr)⟩
      · rw [if_neg hr]
        have h1 := fmod_lt a hb
        have h2 := fmod_lt b hr
        suffices hh : (b.fmod (a.fmod b)).natAbs < 2 ^ k by
          obtain ⟨i1, i2⟩ := euc_gcd k n (a.fmod b) (b.fmod (a.fmod b)) hh (by omega)
          exact ⟨by rw [i1, gcd_fmod, gcd_fmod], .inr (.inr i2)⟩
        -- half
        have e : a.fmod b * b.fdiv (a.fmod b) + b.fmod (a.fmod b) = b := Int.mul_fdiv_add_fmod b (a.fmod b)
        have s1 := fmod_sign a b
        have s2 := fmod_sign b (a.fmod b)
        generalize b.fmod (a.fmod b) = r2 at *
        generalize b.fdiv (a.fmod b) = q at *
        generalize a.fmod b = r at *
        have dv : r ∣ b - r2 := ⟨q, by omega⟩
        have ge := Nat.le_of_dvd (by omega) (Int.natAbs_dvd_natAbs.mpr dv)
        rw [Nat.pow_succ] at h
        omega
theorem ne0 (b : Int) : cmpop .ne (.int b) (.int 0) = some (!decide (b = 0)) := by
  have : D.eqv (.int b) (.int 0) = decide (b = 0) := by
    unfold D.eqv D.py PySem.PyData.eqv
    by_cases h : b = 0 <;> simp [h]
  simp [cmpop, D.ok, this]
def tst (n : Nat) : RF.Env → RF.R O := fun z => evalE (cc n) (.cmp .ne (.v 1) (.n 0)) z
def bd1 (n : Nat) : RF.Env → Out := fun z => evalSs (cc n) Wf (.cons (.par [0, 1] (.cons (.v 1) (.cons (.bin .mod (.v 0) (.v 1)) .nil))) .nil) z
def bd2 (n : Nat) : RF.Env → Out := fun z => evalSs (cc n) Wf (.cons (.par [0, 1] (.cons (.v 1) (.cons (.bin .sub (.v 0) (.bin .mul (.v 1) (.bin .fdiv (.v 0) (.v 1)))) .nil))) .nil) z
theorem tst_eq (n : Nat) (a b : Int) : tst n [some (zi a), some (zi b)] = .ok (.z (.bl (!decide (b = 0)))) [some (zi a), some (zi b)] := by
  simp [tst, evalE, viewE, getE, RF.R.bind, ne0, ofOpt, O.toD]
theorem bd1_eq (n : Nat) (a b : Int) (hb : b ≠ 0) : bd1 n [some (zi a), some (zi b)] = .nx [some (zi b), some (zi (a.fmod b))] := by
  simp [bd1, evalSs, evalS, evalEs, evalE, viewE, getE, RF.R.bind, ofOpt, binop, hb, setAll, Out.ofO, O.toD]
theorem fdiv_sm {j : Nat} {a b : Int} (h : Sm j a) : Sm (j + 1) (a.fdiv b) := by
  unfold Sm at *
  have : (a.fdiv b).natAbs ≤ a.natAbs + 1 := by
    by_cases hb : b = 0
    · subst hb; simp
    · have e : b * a.fdiv b + a.fmod b = a := Int.mul_fdiv_add_fmod a b
      have l := fmod_lt a hb
      have e2 : (b * a.fdiv b).natAbs = b.natAbs * (a.fdiv b).natAbs := Int.natAbs_mul ..
      have e3 : (b * a.fdiv b).natAbs < a.natAbs + b.natAbs := by omega
      rw [e2] at e3
      apply Classical.byContradiction
      intro hn
      have h1 : a.natAbs + 1 ≤ (a.fdiv b).natAbs := by omega
      have h2 := Nat.mul_le_mul_left b.natAbs h1
      have h3 : a.natAbs * 1 ≤ a.natAbs * b.natAbs := Nat.mul_le_mul_left _ (by omega)
      rw [Nat.mul_add, Nat.mul_one, Nat.mul_comm b.natAbs a.natAbs] at h2
      omega
  rw [Nat.pow_succ]
  omega
theorem bd2_eq (n j : Nat) (hj : j < 4000) (a b : Int) (h1 : Sm j a) (h2 : Sm j b) (hb : b ≠ 0) : bd2 n [some (zi a), some (zi b)] = .nx [some (zi b), some (zi (a.fmod b))] := by
  have e : a - b * a.fdiv b = a.fmod b := (Int.fmod_def a b).symm
  have d1 := divOk_of h2 (by omega) hb
  have d2 := mulOk_of h2 (fdiv_sm (b := b) h1) (by omega)
  simp [bd2, evalSs, evalS, evalEs, evalE, viewE, getE, RF.R.bind, ofOpt, binop, d1, d2, setAll, Out.ofO, O.toD, e]
theorem loop1 (n : Nat) : ∀ (N : Nat) (a b : Int), Fin' N a b → evalWhile (tst n) (bd1 n) (N + 1) [some (zi a), some (zi b)] = .nx [some (zi (euc N a b)), some (zi 0)]
  | N, a, b, hf => by
    rw [evalWhile, tst_eq]
    by_cases hb : b = 0
    · subst hb
      cases N <;> simp [Out.ofR, euc]
    · cases N with
      | zero => exact absurd hf hb
      | succ N =>
        have ih := loop1 n N b (a.fmod b) (hf.resolve_left hb)
        simp only [Out.ofR, hb, decide_false, Bool.not_false, bd1_eq n a b hb, ih, euc, if_false]
theorem loop2 (n j : Nat) (hj : j < 4000) : ∀ (N : Nat) (a b : Int), Sm j a → Sm j b → Fin' N a b → evalWhile (tst n) (bd2 n) (N + 1) [some (zi a), some (zi b)] = .nx [some (zi (euc N a b)), some (zi 0)]
  | N, a, b, h1, h2, hf => by
    rw [evalWhile, tst_eq]
    by_cases hb : b = 0
    · subst hb
      cases N <;> simp [Out.ofR, euc]
    · cases N with
      | zero => exact absurd hf hb
      | succ N =>
        have ih := loop2 n j hj N b (a.fmod b) h2 (Nat.lt_trans (fmod_lt a hb) h2) (hf.resolve_left hb)
        simp only [Out.ofR, hb, decide_false, Bool.not_false, bd2_eq n j hj a b h1 h2 hb, ih, euc, if_false]
theorem abs_eq (i : Int) : (if i < 0 then -i else i) = (i.natAbs : Int) := by split <;> omega
theorem run_eq {C : Cfg} {W : Nat} {F : Fd} {os : List O} (h : os.length = F.modes.length) : runF C W F os = RF.finish F.modes (evalSs C W F.body (os.map some ++ List.replicate (F.slots - os.length) none)) := if_pos h
theorem common_eq (n j : Nat) (hj : j < 2000) (a b : Int) (h1 : Sm j a) (h2 : Sm j b) : g (n + 1) f_common_of [zi a, zi b] = ret (zi (Int.gcd a b)) := by
  rw [at_common_of]
  have hs : ((b.natAbs : Int)).natAbs < 2 ^ j := by rw [Int.natAbs_natCast]; exact h2
  obtain ⟨e1, e2⟩ := euc_gcd j 4999 (a.natAbs) (b.natAbs) hs (by omega)
  have lp := loop1 n 4999 a.natAbs b.natAbs e2
  have nn : euc 4999 (a.natAbs : Int) (b.natAbs : Int) = (Int.gcd a b : Int) := by
    have : Int.gcd (a.natAbs : Int) (b.natAbs : Int) = Int.gcd a b := by simp [Int.gcd]
    rw [this] at e1
    have pos : ∀ n (x y : Int), 0 ≤ x → 0 ≤ y → 0 ≤ euc n x y := fun n => by
      induction n with
      | zero => intro x y hx hy; exact hx
      | succ n ih =>
        intro x y hx hy
        unfold euc
        split
        · exact hx
        · exact ih _ _ hy (by rw [Int.fmod_eq_emod_of_nonneg x hy]; exact Int.emod_nonneg x (by assumption))
    have := pos 4999 (a.natAbs : Int) (b.natAbs : Int) (by omega) (by omega)
    omega
  have lp : evalWhile (fun z => evalE (cc n) (.cmp .ne (.v 1) (.n 0)) z) (fun z => evalSs (cc n) Wf (.cons (.par [0, 1] (.cons (.v 1) (.cons (.bin .mod (.v 0) (.v 1)) .nil))) .nil) z) Wf [some (zi a.natAbs), some (zi b.natAbs)] = .nx [some (zi (euc 4999 a.natAbs b.natAbs)), some (zi 0)] := lp
  rw [nn] at lp
  have st : evalS (cc n) Wf (.par [0, 1] (.cons (.blt .abs (.cons (.v 0) .nil)) (.cons (.blt .abs (.cons (.v 1) .nil)) .nil))) [some (zi a), some (zi b)] = .nx [some (zi a.natAbs), some (zi b.natAbs)] := by
    simp [evalS, evalEs, evalE, evalVs, viewE, getE, RF.R.bind, ofOpt, bltV, setAll, Out.ofO, abs_eq]
  rw [run_eq (h := rfl)]
  show RF.finish [false, false] (evalSs (cc n) Wf (.cons _ (.cons (.whl _ _) (.cons (.ret (.v 0)) .nil))) [some (zi a), some (zi b)]) = _
  rw [evalSs, st]
  show RF.finish [false, false] (evalSs (cc n) Wf (.cons (.whl _ _) (.cons (.ret (.v 0)) .nil)) [some (zi a.natAbs), some (zi b.natAbs)]) = _
  rw [evalSs, evalS, lp]
  simp [evalSs, evalS, getE, RF.finish, outs?]
theorem common2_eq (n j : Nat) (hj : j < 2000) (a b : Int) (h1 : Sm j a) (h2 : Sm j b) : g (n + 1) f__law_common [zi a, zi b] = ret (zi (Int.gcd a b)) := by
  rw [at__law_common]
  obtain ⟨e1, e2⟩ := euc_gcd j 4999 a b h2 (by omega)
  have lp := loop2 n j (by omega) 4999 a b h1 h2 e2
  have lp : evalWhile (fun z => evalE (cc n) (.cmp .ne (.v 1) (.n 0)) z) (fun z => evalSs (cc n) Wf (.cons (.par [0, 1] (.cons (.v 1) (.cons (.bin .sub (.v 0) (.bin .mul (.v 1) (.bin .fdiv (.v 0) (.v 1)))) .nil))) .nil) z) Wf [some (zi a), some (zi b)] = .nx [some (zi (euc 4999 a b)), some (zi 0)] := lp
  rw [run_eq (h := rfl)]
  show RF.finish [false, false] (evalSs (cc n) Wf (.cons (.whl _ _) (.cons (.ret (.blt .abs (.cons (.v 0) .nil))) .nil)) [some (zi a), some (zi b)]) = _
  rw [evalSs, evalS, lp]
  simp [evalSs, evalS, evalE, evalVs, viewE, RF.R.bind, ofOpt, bltV, Out.ofR, getE, RF.finish, outs?, abs_eq, e1]
/-! ### fractions -/
def low (a b : Int) : Int × Int := (a.fdiv (if b < 0 then -(Int.gcd a b : Int) else Int.gcd a b), b.fdiv (if b < 0 then -(Int.gcd a b : Int) else Int.gcd a b))
theorem gcd_sm {j : Nat} {a b : Int} (hb : b ≠ 0) (h2 : Sm j b) : Sm j (if b < 0 then -(Int.gcd a b : Int) else Int.gcd a b) ∧ (if b < 0 then -(Int.gcd a b : Int) else (Int.gcd a b : Int)) ≠ 0 := by
  have h := Int.gcd_le_natAbs_right a hb
  have p : 0 < Int.gcd a b := Int.gcd_pos_of_ne_zero_right a hb
  unfold Sm at *
  split <;> omega
theorem lowest_eq (n j : Nat) (hj : j < 2000) (a b : Int) (hb : b ≠ 0) (h1 : Sm j a) (h2 : Sm j b) : g (n + 2) f_lowest [zi a, zi b] = ret (fr (low a b).1 (low a b).2) := by
  have c := common_eq n j hj a b h1 h2
  obtain ⟨q1, q2⟩ := gcd_sm (a := a) hb h2
  have d := divOk_of q1 (by omega) q2
  rw [at_lowest]
  by_cases hn : b < 0
  · simp only [hn, if_true] at d
    simp [runF, d_lowest, evalSs, evalS, evalE, evalEs, RF.evalArgs, Out.ofR, viewE, getE, binop, cmpop, RF.R.bind, doCall, sg_common_of, cc_call, c, Ar.fetch, Ar.slots, Ar.isRef, back0, O.toD, RF.finish, outs?, ofOpt, O.clean, D.lf, D.lfs, hn, d, low, O.isZ, O.toDs]
  · simp only [hn, if_false] at d
    simp [runF, d_lowest, evalSs, evalS, evalE, evalEs, RF.evalArgs, Out.ofR, viewE, getE, binop, cmpop, RF.R.bind, doCall, sg_common_of, cc_call, c, Ar.fetch, Ar.slots, Ar.isRef, back0, O.toD, RF.finish, outs?, ofOpt, O.clean, D.lf, D.lfs, hn, d, low, O.isZ, O.toDs]
theorem lowest2_eq (n j : Nat) (hj : j < 2000) (a b : Int) (hb : b ≠ 0) (h1 : Sm j a) (h2 : Sm j b) : g (n + 2) f__law_lowest [zi a, zi b] = ret (fr (low a b).1 (low a b).2) := by
  have c := common2_eq n j hj a b h1 h2
  obtain ⟨q1, q2⟩ := gcd_sm (a := a) hb h2
  have d := divOk_of q1 (by omega) q2
  rw [at__law_lowest]
  by_cases hn : b < 0
  · simp only [hn, if_true] at d
    simp [runF, d__law_lowest, evalSs, evalS, evalE, evalEs, RF.evalArgs, Out.ofR, viewE, getE, binop, cmpop, RF.R.bind, doCall, sg__law_common, cc_call, c, Ar.fetch, Ar.slots, Ar.isRef, back0, O.toD, RF.finish, outs?, ofOpt, O.clean, D.lf, D.lfs, hn, d, low, O.isZ, O.toDs]
  · simp only [hn, if_false] at d
    simp [runF, d__law_lowest, evalSs, evalS, evalE, evalEs, RF.evalArgs, Out.ofR, viewE, getE, binop, cmpop, RF.R.bind, doCall, sg__law_common, cc_call, c, Ar.fetch, Ar.slots, Ar.isRef, back0, O.toD, RF.finish, outs?, ofOpt, O.clean, D.lf, D.lfs, hn, d, low, O.isZ, O.toDs]
/-! ### drawn numbers -/
theorem fmod_range {a b : Int} (hb : 0 < b) : 0 ≤ a.fmod b ∧ a.fmod b < b := by
  rw [Int.fmod_eq_emod_of_nonneg a (by omega)]
  exact ⟨Int.emod_nonneg a (by omega), Int.emod_lt_of_pos a hb⟩
theorem hash_eq (n : Nat) (a m : Int) (h1 : Sm 31 a) (h2 : Sm 40 m) : ∃ h, g (n + 1) f__law_hash [zi a, zi m] = ret (zi h) ∧ 0 ≤ h ∧ h < 2147483647 := by
  have l1 : Sm 21 1140671 := by unfold Sm; decide
  have l2 : Sm 25 27644437 := by unfold Sm; decide
  have l3 : Sm 8 131 := by unfold Sm; decide
  have l4 : Sm 16 62089 := by unfold Sm; decide
  have l5 : Sm 16 48271 := by unfold Sm; decide
  have m1 := mulOk_of h1 l1 (by decide)
  have m2 := mulOk_of l2 h2 (by decide)
  have m3 := mulOk_of (l2.mul h2) h2 (by decide)
  have m4 := mulOk_of l3 h2 (by decide)
  have r1 := fmod_range (a := a * 1140671 + 27644437 * m * m + 131 * m + 19) (b := 2147483629) (by decide)
  generalize ex : (a * 1140671 + 27644437 * m * m + 131 * m + 19).fmod 2147483629 = x at r1
  have sx : Sm 31 x := by unfold Sm; omega
  have m5 := mulOk_of sx sx (by decide)
  have m6 := mulOk_of l4 h2 (by decide)
  have r2 := fmod_range (a := x * x + 62089 * m + 32416187) (b := 2147483587) (by decide)
  generalize ey : (x * x + 62089 * m + 32416187).fmod 2147483587 = y at r2
  have sy : Sm 31 y := by unfold Sm; omega
  have m7 := mulOk_of sy l5 (by decide)
  have r3 := fmod_range (a := y * 48271) (b := 2147483647) (by decide)
  refine ⟨_, ?_, r3⟩
  rw [at__law_hash]
  simp [runF, d__law_hash, evalSs, evalS, evalE, evalVs, Out.ofR, viewE, getE, binop, bltV, RF.R.bind, O.toD, RF.finish, outs?, ofOpt, m1, m2, m3, m4, m5, m6, m7, ex, ey]
/-- a generator -/
structure Gn (k : Nat) (o : O) : Prop where
  ex : ∃ a b c : Int, o = .l [zi a, zi b, zi c] ∧ 0 ≤ b ∧ b < 2147483647 ∧ 0 ≤ c ∧ c ≤ k
def bdR (n : Nat) : RF.Env → Out := fun z => evalSs (cc n) Wf (.cons (.sto 0 (.n 2) (.bin .add (.ix (.v 0) (.n 2)) (.n 1)))
    (.cons (.set 2 (.bin .add (.bin .mul (.v 2) (.n 2147483587)) (.call true f__law_hash (.cons (.ix (.v 0) (.n 1)) (.cons (.ix (.v 0) (.n 2)) .nil))))) .nil)) z
theorem bdR_eq (n e : Nat) (a b c x d : Int) (w : Option O) (h1 : 0 ≤ b) (h2 : b < 2147483647) (h3 : 0 ≤ c) (h4 : c + 1 < 1000000) (h5 : Sm e d) (h6 : 32 ≤ e) (h7 : e < 900) : ∃ d', bdR (n + 1) [some (.l [zi a, zi b, zi c]), some (zi x), some (zi d), w] = .nx [some (.l [zi a, zi b, zi (c + 1)]), some (zi x), some (zi d'), w] ∧ Sm (e + 33) d' := by
  obtain ⟨h, hh, q1, q2⟩ := hash_eq n b (c + 1) (by unfold Sm; omega) (by unfold Sm; omega)
  have l : Sm 32 2147483587 := by unfold Sm; decide
  have m := mulOk_of h5 l (by omega)
  refine ⟨d * 2147483587 + h, ?_, ?_⟩
  · simp [bdR, evalSs, evalS, evalE, RF.evalArgs, viewE, getE, RF.R.bind, O.toD, O.toDs, O.flat, O.isZ, pureX, L2.atI, L2.ixN, ofOpt, binop, Out.ofR, doCall, sg__law_hash, cc_call, hh, Ar.fetch, Ar.slots, Ar.isRef, back0, O.clean, D.lf, m]
  · have : Sm (e + 32) h := (show Sm 32 h by unfold Sm; omega).mono (by omega)
    exact (h5.mul l).add this
theorem forR (n : Nat) (a b x : Int) (h1 : 0 ≤ b) (h2 : b < 2147483647) : ∀ (k e : Nat) (lo c d : Int) (w : Option O), 0 ≤ c → c + k < 1000000 → Sm e d → 32 ≤ e → e + 33 * k < 900 →
    ∃ d' w', evalFor (.nm 3) (bdR (n + 1)) (rangeL lo 1 k) [some (.l [zi a, zi b, zi c]), some (zi x), some (zi d), w] = .nx [some (.l [zi a, zi b, zi (c + k)]), some (zi x), some (zi d'), w']
  | 0, e, lo, c, d, w, _, _, _, _, _ => ⟨d, w, by simp [rangeL, evalFor]⟩
  | k + 1, e, lo, c, d, w, h3, h4, h5, h6, h7 => by
    obtain ⟨d1, e1, s1⟩ := bdR_eq n e a b c x d (some (zi lo)) h1 h2 h3 (by omega) h5 h6 (by omega)
    obtain ⟨d2, w2, e2⟩ := forR n a b x h1 h2 k (e + 33) (lo + 1) (c + 1) d1 (some (zi lo)) (by omega) (by omega) s1 (by omega) (by omega)
    refine ⟨d2, w2, ?_⟩
    rw [rangeL, evalFor]
    show (match bdR (n + 1) [some (.l [zi a, zi b, zi c]), some (zi x), some (zi d), some (zi lo)] with | .nx env2 => evalFor (.nm 3) (bdR (n + 1)) (rangeL (lo + 1) 1 k) env2 | r => r) = _
    rw [e1]
    show evalFor (.nm 3) (bdR (n + 1)) (rangeL (lo + 1) 1 k) [some (.l [zi a, zi b, zi (c + 1)]), some (zi x), some (zi d1), some (zi lo)] = _
    rw [e2, show c + 1 + (k : Int) = c + ((k + 1 : Nat) : Int) by omega]
theorem bits_le {k : Nat} {x : Int} (h : Sm k x) : 0 ≤ PySem.Builtin.Int.intBits x ∧ PySem.Builtin.Int.intBits x ≤ k + 1 := by
  have := h.log
  unfold PySem.Builtin.Int.intBits
  split <;> omega
theorem rnd (n k : Nat) (o : O) (x : Int) (ho : Gn k o) (hk : k < 900000) (h0 : 0 < x) (hx : Sm 200 x) : ∃ r o', g (n + 2) f__law_random [o, zi x] = .rt (zi r) [o'] ∧ 0 ≤ r ∧ r < x ∧ Gn (k + 10) o' := by
  obtain ⟨a, b, c, rfl, h1, h2, h3, h4⟩ := ho.ex
  have hne : x ≠ 0 := by omega
  rw [at__law_random]
  by_cases ha : 0 < a
  · obtain ⟨r1, r2⟩ := fmod_range (a := a) h0
    have d := divOk_of hx (by omega) hne
    refine ⟨a.fmod x, .l [zi (a.fdiv x), zi b, zi c], ?_, r1, r2, ⟨_, _, _, rfl, h1, h2, h3, by omega⟩⟩
    simp [runF, d__law_random, evalSs, evalS, evalE, evalVs, Out.ofR, viewE, getE, binop, cmpop, bltV, RF.R.bind, O.toD, O.toDs, O.flat, O.isZ, pureX, pureXs, L2.atI, L2.ixN, RF.finish, outs?, ofOpt, ha, hne, d]
  · obtain ⟨q1, q2⟩ := bits_le hx
    have fd : ((PySem.Builtin.Int.intBits x : Nat) : Int).fdiv 30 = ((PySem.Builtin.Int.intBits x : Nat) : Int) / 30 := Int.fdiv_eq_ediv_of_nonneg _ (by decide)
    have d30 : divOk 30 = true := by decide +kernel
    obtain ⟨t, ht⟩ : ∃ t : Nat, 1 + ((PySem.Builtin.Int.intBits x : Nat) : Int).fdiv 30 = (t : Int) ∧ t ≤ 8 := ⟨(1 + ((PySem.Builtin.Int.intBits x : Nat) : Int).fdiv 30).toNat, by rw [fd]; omega, by rw [fd]; omega⟩
    have rg : rngOk (t : Int) = true := by unfold rngOk; rw [decide_eq_true (show -(2 ^ 40) < (t : Int) by omega), decide_eq_true (show (t : Int) < 2 ^ 40 by omega)]; rfl
    obtain ⟨d', w', lp⟩ := forR n a b x h1 h2 t 32 0 c 0 none h3 (by omega) (by unfold Sm; decide) (by omega) (by omega)
    have lp : evalFor (.nm 3) (fun e => evalSs (cc (n + 1)) Wf (.cons (.sto 0 (.n 2) (.bin .add (.ix (.v 0) (.n 2)) (.n 1)))
      (.cons (.set 2 (.bin .add (.bin .mul (.v 2) (.n 2147483587)) (.call true f__law_hash (.cons (.ix (.v 0) (.n 1)) (.cons (.ix (.v 0) (.n 2)) .nil))))) .nil)) e) (rangeL 0 1 t) [some (.l [zi a, zi b, zi c]), some (zi x), some (zi 0), none] = .nx [some (.l [zi a, zi b, zi (c + t)]), some (zi x), some (zi d'), w'] := lp
    obtain ⟨r1, r2⟩ := fmod_range (a := d') h0
    refine ⟨d'.fmod x, .l [zi a, zi b, zi (c + t)], ?_, r1, r2, ⟨_, _, _, rfl, h1, h2, by omega, by omega⟩⟩
    have it : evalIt (cc (n + 1)) (.rng1 (.bin .add (.n 1) (.bin .fdiv (.bits (.v 1)) (.n 30)))) [some (.l [zi a, zi b, zi c]), some (zi x), some (zi 0), none] = .ok (rangeL 0 1 t) [some (.l [zi a, zi b, zi c]), some (zi x), some (zi 0), none] := by
      simp [evalIt, evalE, viewE, getE, RF.R.bind, binop, ofOpt, O.toD, d30, ht.1, rg]
    rw [run_eq (h := rfl)]
    have t1 : evalS (cc (n + 1)) Wf (.ite (.cmp .gt (.ix (.v 0) (.n 0)) (.n 0)) (.cons (.set 2 (.bin .mod (.blt .int (.cons (.ix (.v 0) (.n 0)) .nil)) (.v 1))) (.cons (.sto 0 (.n 0) (.bin .fdiv (.ix (.v 0) (.n 0)) (.v 1))) (.cons (.ret (.v 2)) .nil))) .nil) [some (.l [zi a, zi b, zi c]), some (zi x), none, none] = .nx [some (.l [zi a, zi b, zi c]), some (zi x), none, none] := by
      simp [evalS, evalSs, evalE, Out.ofR, viewE, getE, cmpop, RF.R.bind, O.toD, O.toDs, O.flat, O.isZ, pureX, L2.atI, L2.ixN, ofOpt, ha]
    show RF.finish [true, false] (evalSs (cc (n + 1)) Wf (.cons _ (.cons (.set 2 (.n 0)) (.cons (.for (.nm 3) _ _) (.cons (.ret (.bin .mod (.blt .int (.cons (.v 2) .nil)) (.v 1))) .nil)))) [some (.l [zi a, zi b, zi c]), some (zi x), none, none]) = _
    rw [evalSs, t1]
    show RF.finish [true, false] (evalSs (cc (n + 1)) Wf (.cons (.for (.nm 3) _ _) (.cons (.ret (.bin .mod (.blt .int (.cons (.v 2) .nil)) (.v 1))) .nil)) [some (.l [zi a, zi b, zi c]), some (zi x), some (zi 0), none]) = _
    rw [evalSs, evalS, it]
    simp only []
    rw [lp]
    simp [evalSs, evalS, evalE, evalVs, Out.ofR, viewE, getE, binop, bltV, RF.R.bind, O.toD, RF.finish, outs?, ofOpt, hne]
theorem pick (n k : Nat) (o : O) (ds : List D) (ho : Gn k o) (hk : k < 900000) (h0 : 0 < ds.length) (h1 : ds.length < 1000) : ∃ d o', d ∈ ds ∧ (d.lf = true → g (n + 3) f__law_pick [o, .z (.lst ds)] = .rt (.z d) [o']) ∧ Gn (k + 10) o' := by
  obtain ⟨r, o', e, r1, r2, ho'⟩ := rnd n k o ds.length ho hk (by omega) (by unfold Sm; have : (2:Nat)^10 ≤ 2 ^ 200 := Nat.pow_le_pow_right (by decide) (by decide); omega)
  obtain ⟨a, b, c, rfl, _⟩ := ho.ex
  obtain ⟨a', b', c', rfl, _⟩ := ho'.ex
  have hr : r.toNat < ds.length := by omega
  refine ⟨ds[r.toNat], _, List.getElem_mem hr, fun hl => ?_, ho'⟩
  rw [at__law_pick]
  have at_ : L2.atI ds r = some ds[r.toNat] := by
    unfold L2.atI L2.ixN
    rw [if_pos r1, if_pos r2]
    simp [List.getElem?_eq_getElem hr]
  simp [runF, d__law_pick, evalSs, evalS, evalE, RF.evalArgs, evalVs, bltV, Out.ofR, viewE, getE, RF.R.bind, doCall, sg__law_random, cc_call, e, Ar.fetch, Ar.slots, Ar.isRef, back1, O.toD, RF.finish, outs?, ofOpt, O.isZ, pureX, pureXs, at_]
/-- a fraction -/
structure Fr (k : Nat) (p : Int × Int) : Prop where
  pos : 0 < p.2
  s1 : Sm k p.1
  s2 : Sm k p.2
  gcd : Int.gcd p.1 p.2 = 1
theorem low_ok {j : Nat} {a b : Int} (hb : b ≠ 0) (h1 : Sm j a) (h2 : Sm j b) : Fr j (low a b) ∧ ∃ c : Int, c ≠ 0 ∧ a = c * (low a b).1 ∧ b = c * (low a b).2 := by
  have p : 0 < Int.gcd a b := Int.gcd_pos_of_ne_zero_right a hb
  obtain ⟨a', ea⟩ : ((Int.gcd a b : Nat) : Int) ∣ a := Int.gcd_dvd_left ..
  obtain ⟨b', eb⟩ : ((Int.gcd a b : Nat) : Int) ∣ b := Int.gcd_dvd_right ..
  have hg : Int.gcd a' b' = 1 := by
    have : Int.gcd a b = Int.gcd a b * Int.gcd a' b' := by
      have := Int.gcd_mul_left (Int.gcd a b : Int) a' b'
      rw [← ea, ← eb] at this
      simpa using this
    exact Nat.eq_of_mul_eq_mul_left p (by omega)
  unfold low
  generalize Int.gcd a b = d at *
  have sm : ∀ {x y : Int}, x = (d : Int) * y → Sm j x → Sm j y := fun {x y} e h => by
    unfold Sm at *
    rw [e, Int.natAbs_mul, Int.natAbs_natCast] at h
    exact Nat.lt_of_le_of_lt (Nat.le_mul_of_pos_left _ p) h
  have s1 := sm ea h1
  have s2 := sm eb h2
  by_cases hn : b < 0
  · rw [if_pos hn]
    have f1 : a.fdiv (-(d : Int)) = -a' := by
      rw [ea, show (d : Int) * a' = -(d : Int) * -a' by rw [Int.neg_mul_neg]]
      exact Int.mul_fdiv_cancel_left _ (by omega)
    have f2 : b.fdiv (-(d : Int)) = -b' := by
      rw [eb, show (d : Int) * b' = -(d : Int) * -b' by rw [Int.neg_mul_neg]]
      exact Int.mul_fdiv_cancel_left _ (by omega)
    rw [f1, f2]
    refine ⟨⟨?_, s1.neg, s2.neg, by rw [Int.gcd_neg, Int.neg_gcd]; exact hg⟩, -(d : Int), by omega, by rw [Int.neg_mul_neg]; exact ea, by rw [Int.neg_mul_neg]; exact eb⟩
    apply Classical.byContradiction
    intro q
    have : 0 ≤ (d : Int) * b' := Int.mul_nonneg (by omega) (by simp at q; omega)
    omega
  · rw [if_neg hn]
    have f1 : a.fdiv (d : Int) = a' := by rw [ea]; exact Int.mul_fdiv_cancel_left _ (by omega)
    have f2 : b.fdiv (d : Int) = b' := by rw [eb]; exact Int.mul_fdiv_cancel_left _ (by omega)
    rw [f1, f2]
    refine ⟨⟨?_, s1, s2, hg⟩, (d : Int), by omega, ea, eb⟩
    apply Classical.byContradiction
    intro q
    have : (d : Int) * b' ≤ 0 := Int.mul_nonpos_of_nonneg_of_nonpos (by omega) (by simp at q; omega)
    omega
abbrev fp (p : Int × Int) : O := .z (.tup [.int p.1, .int p.2])
theorem drawn (n k : Nat) (o : O) (x : Int) (ho : Gn k o) (hk : k < 800000) (h0 : 0 < x) (hx : Sm 140 x) : ∃ p o', g (n + 4) f__law_drawn_fraction [o, zi x] = .rt (fp p) [o'] ∧ Fr 142 p ∧ Gn (k + 30) o' := by
  obtain ⟨r, o1, e1, r1, r2, ho1⟩ := rnd (n + 1) k o (2 * x + 1) ho (by omega) (by omega) (by
    have := (show Sm 2 2 by unfold Sm; decide).mul hx
    have h2 := this.add ((show Sm 142 1 by unfold Sm; exact Nat.one_lt_two_pow (by decide)))
    exact h2.mono (by decide))
  obtain ⟨d, o2, hd, e2, ho2⟩ := pick n (k + 10) o1 [.int 1, .int 1, .int 3, .int 12] ho1 (by omega) (by decide) (by decide)
  obtain ⟨y, rfl, y1, y2⟩ : ∃ y : Int, d = .int y ∧ 0 < y ∧ y ≤ 12 := by
    simp only [List.mem_cons, List.not_mem_nil, or_false] at hd
    rcases hd with rfl | rfl | rfl | rfl <;> exact ⟨_, rfl, by decide, by decide⟩
  obtain ⟨q, o3, e3, q1, q2, ho3⟩ := rnd (n + 1) (k + 10 + 10) o2 y ho2 (by omega) y1 (by unfold Sm; have : (2:Nat)^10 ≤ 2 ^ 200 := Nat.pow_le_pow_right (by decide) (by decide); omega)
  have e2 := e2 rfl
  have s1 : Sm 142 (r - x) := by
    have : Sm 142 (r - x) := by
      unfold Sm at *
      rw [show (142 : Nat) = 140 + 2 from rfl, Nat.pow_add]
      omega
    exact this
  have s2 : Sm 142 (1 + q) := by unfold Sm; have : (2:Nat)^10 ≤ 2 ^ 142 := Nat.pow_le_pow_right (by decide) (by decide); omega
  have lw := lowest2_eq (n + 1) 142 (by decide) (r - x) (1 + q) (by omega) s1 s2
  obtain ⟨f, _⟩ := low_ok (show 1 + q ≠ 0 by omega) s1 s2
  refine ⟨low (r - x) (1 + q), o3, ?_, f, by simpa using ho3⟩
  obtain ⟨a0, b0, c0, rfl, _⟩ := ho.ex
  obtain ⟨a1, b1, c1, rfl, _⟩ := ho1.ex
  obtain ⟨a2, b2, c2, rfl, _⟩ := ho2.ex
  obtain ⟨a3, b3, c3, rfl, _⟩ := ho3.ex
  have m := mulOk_of (show Sm 2 2 by unfold Sm; decide) hx (by decide)
  rw [at__law_drawn_fraction]
  simp [runF, d__law_drawn_fraction, evalSs, evalS, evalE, evalEs, RF.evalArgs, Out.ofR, viewE, getE, RF.R.bind, doCall, sg__law_random, sg__law_pick, sg__law_lowest, cc_call, e1, e2, e3, lw, Ar.fetch, Ar.slots, Ar.isRef, back0, back1, O.toD, O.toDs, RF.finish, outs?, ofOpt, O.isZ, pureX, pureXs, binop, m, O.clean, D.lf, D.lfs]
end K01
/-! K01n: told and due. -/
namespace K01
open RF
/-! ### the same -/
theorem mem_range : ∀ {k : Nat} {lo : Int} {x : D}, x ∈ rangeL lo 1 k → ∃ j : Nat, j < k ∧ x = .int (lo + j)
  | 0, _, _, h => nomatch h
  | k + 1, lo, x, h => by
    rcases List.mem_cons.mp h with e | h
    · exact ⟨0, by omega, by rw [e]; simp⟩
    · obtain ⟨j, h1, h2⟩ := mem_range h
      exact ⟨j + 1, by omega, by rw [h2]; congr 1; omega⟩
theorem comp_none {elt cond : RF.Env → RF.R O} {u v : Option O} : ∀ {xs : List D} {acc : List O}, (∀ x ∈ xs, cond [u, v, some (.z x)] = .ok (.z (.bl false)) [u, v, some (.z x)]) → evalComp elt (.nm 2) cond [2] xs [u, v, none] acc = .ok acc [u, v, none]
  | [], acc, _ => rfl
  | x :: xs, acc, h => by
    have e := h x List.mem_cons_self
    rw [evalComp]
    show ((cond [u, v, some (.z x)]).nox.bind _) = _
    rw [e]
    exact comp_none fun y m => h y (List.mem_cons_of_mem _ m)
def condS (n : Nat) : RF.Env → RF.R O := fun e => evalCond (cc n) (.some (.not (.call true f__law_same (.cons (.ix (.v 0) (.v 2)) (.cons (.ix (.v 1) (.v 2)) .nil))))) e
theorem at_nat {α : Type} {xs : List α} {j : Nat} (h : j < xs.length) : L2.atI xs (j : Int) = some xs[j] := by
  unfold L2.atI L2.ixN
  rw [if_pos (by omega), if_pos (by omega)]
  simp [List.getElem?_eq_getElem h]
theorem condS_lst (n : Nat) (xs : List D) (j : Nat) (h : j < xs.length) (hs : g n f__law_same [.z xs[j], .z xs[j]] = ret (.z (.bl true))) :
    condS n [some (.z (.lst xs)), some (.z (.lst xs)), some (zi j)] = .ok (.z (.bl false)) [some (.z (.lst xs)), some (.z (.lst xs)), some (zi j)] := by
  simp [condS, evalCond, evalE, RF.evalArgs, viewE, getE, RF.R.bind, O.toD, at_nat h, ofOpt, doCall, sg__law_same, cc_call, hs, Ar.fetch, Ar.slots, Ar.isRef, back0]
theorem condS_tup (n : Nat) (xs : List D) (j : Nat) (h : j < xs.length) (hs : g n f__law_same [.z xs[j], .z xs[j]] = ret (.z (.bl true))) :
    condS n [some (.z (.tup xs)), some (.z (.tup xs)), some (zi j)] = .ok (.z (.bl false)) [some (.z (.tup xs)), some (.z (.tup xs)), some (zi j)] := by
  simp [condS, evalCond, evalE, RF.evalArgs, viewE, getE, RF.R.bind, O.toD, at_nat h, ofOpt, doCall, sg__law_same, cc_call, hs, Ar.fetch, Ar.slots, Ar.isRef, back0]
theorem eq_nil : cmpop .eq (.lst []) (.lst []) = some true := by simp [cmpop, D.ok, D.eqv, D.py, D.pys, PySem.PyData.eqv, PySem.PyData.eqvAll]
theorem eq_int (a b : Int) : cmpop .eq (.int a) (.int b) = some (decide (a = b)) := by
  have : D.eqv (.int a) (.int b) = decide (a = b) := by
    unfold D.eqv D.py PySem.PyData.eqv
    by_cases h : a = b <;> simp [h]
  simp [cmpop, D.ok, this]
theorem rg_nat {k : Nat} (h : k < 1000) : rngOk (k : Int) = true := by unfold rngOk; rw [decide_eq_true (show -(2 ^ 40) < (k : Int) by omega), decide_eq_true (show (k : Int) < 2 ^ 40 by omega)]; rfl
abbrev compX : RF.X := .comp (.v 2) (.nm 2) (.rng1 (.blt .len (.cons (.v 1) .nil))) (.some (.not (.call true f__law_same (.cons (.ix (.v 0) (.v 2)) (.cons (.ix (.v 1) (.v 2)) .nil))))) [2]
theorem comp_eq (n : Nat) (d : D) (k : Nat) (hk : k < 1000) (hlen : bltV .len [d] = some (zi k)) (hc : ∀ j : Nat, j < k → condS n [some (.z d), some (.z d), some (zi j)] = .ok (.z (.bl false)) [some (.z d), some (.z d), some (zi j)]) :
    evalE (cc n) compX [some (.z d), some (.z d), none] = .ok (.l []) [some (.z d), some (.z d), none] := by
  have c1 := comp_none (elt := fun e => evalE (cc n) (.v 2) e) (cond := condS n) (u := some (.z d)) (v := some (.z d)) (xs := rangeL 0 1 k) (acc := []) (fun x m => by
    obtain ⟨j, h1, rfl⟩ := mem_range m
    rw [Int.zero_add]
    exact hc j h1)
  have it : evalIt (cc n) (.rng1 (.blt .len (.cons (.v 1) .nil))) [some (.z d), some (.z d), none] = .ok (rangeL 0 1 k) [some (.z d), some (.z d), none] := by
    simp [evalIt, evalE, evalVs, viewE, getE, RF.R.bind, hlen, ofOpt, rg_nat hk]
  rw [evalE, it]
  show (evalComp _ _ _ _ _ [some (.z d), some (.z d), none] []).bind _ = _
  rw [show (fun e => evalCond (cc n) (.some (.not (.call true f__law_same (.cons (.ix (.v 0) (.v 2)) (.cons (.ix (.v 1) (.v 2)) .nil))))) e) = condS n from rfl, c1]
  rfl
theorem ands_eq (n : Nat) (d : D) (k : Nat) (hlen : bltV .len [d] = some (zi k)) (hc : evalE (cc n) compX [some (.z d), some (.z d), none] = .ok (.l []) [some (.z d), some (.z d), none]) :
    evalE (cc n) (.and (.cons (.cmp .eq (.blt .len (.cons (.v 0) .nil)) (.blt .len (.cons (.v 1) .nil))) (.cons (.cmp .eq compX (.lst .nil)) .nil))) [some (.z d), some (.z d), none] = .ok (.z (.bl true)) [some (.z d), some (.z d), none] := by
  have e1 : evalE (cc n) (.cmp .eq (.blt .len (.cons (.v 0) .nil)) (.blt .len (.cons (.v 1) .nil))) [some (.z d), some (.z d), none] = .ok (.z (.bl true)) [some (.z d), some (.z d), none] := by
    simp [evalE, evalVs, viewE, getE, RF.R.bind, hlen, ofOpt, O.toD, eq_int]
  have e2 : evalE (cc n) (.cmp .eq compX (.lst .nil)) [some (.z d), some (.z d), none] = .ok (.z (.bl true)) [some (.z d), some (.z d), none] := by
    rw [evalE]
    show ((evalE (cc n) compX [some (.z d), some (.z d), none]).bind fun o env1 => .ok o.toD env1).bind _ = _
    rw [hc]
    simp [evalE, evalEs, viewE, RF.R.bind, O.toD, O.toDs, eq_nil, ofOpt]
  rw [evalE, evalAnd]
  · rw [e1]
    show evalAnd (cc n) (.cons (.cmp .eq compX (.lst .nil)) .nil) [some (.z d), some (.z d), none] = _
    rw [evalAnd, e2]
  · intro z; cases z
theorem ss1 (n : Nat) (d : D) : g (n + 1) f__law_same [.z d, .z d] = RF.finish [false, false] (evalSs (cc n) Wf d__law_same.body [some (.z d), some (.z d), none]) := by
  rw [at__law_same, run_eq (h := rfl)]
  rfl
abbrev orX : RF.X := .or (.cons (.cmp .is (.v 1) .non) (.cons (.cmp .is (.v 1) (.tt true)) (.cons (.cmp .is (.v 1) (.tt false)) .nil)))
theorem or_lst (n : Nat) (xs : List D) (e : RF.Env) (he : getE e 1 = some (.z (.lst xs))) : evalE (cc n) orX e = .ok (.z (.bl false)) e := by
  simp [evalE, evalOr, viewE, he, RF.R.bind, O.toD, cmpop, D.isNon, D.isBl, ofOpt]
theorem or_tup (n : Nat) (xs : List D) (e : RF.Env) (he : getE e 1 = some (.z (.tup xs))) : evalE (cc n) orX e = .ok (.z (.bl false)) e := by
  simp [evalE, evalOr, viewE, he, RF.R.bind, O.toD, cmpop, D.isNon, D.isBl, ofOpt]
abbrev noX : RF.X := .or (.cons (.and (.cons (.not (.isi .list (.v 0))) (.cons (.isi .list (.v 1)) .nil))) (.cons (.and (.cons (.not (.isi .tuple (.v 0))) (.cons (.isi .tuple (.v 1)) .nil))) .nil))
theorem no_lst (n : Nat) (xs : List D) (e : RF.Env) (h0 : getE e 0 = some (.z (.lst xs))) (he : getE e 1 = some (.z (.lst xs))) : evalE (cc n) noX e = .ok (.z (.bl false)) e := by
  simp [evalE, evalOr, evalAnd, viewE, h0, he, RF.R.bind, O.toD, isiV, ofOpt]
theorem no_tup (n : Nat) (xs : List D) (e : RF.Env) (h0 : getE e 0 = some (.z (.tup xs))) (he : getE e 1 = some (.z (.tup xs))) : evalE (cc n) noX e = .ok (.z (.bl false)) e := by
  simp [evalE, evalOr, evalAnd, viewE, h0, he, RF.R.bind, O.toD, isiV, ofOpt]
theorem lt_lst (n : Nat) (xs : List D) (e : RF.Env) (he : getE e 1 = some (.z (.lst xs))) : evalE (cc n) (.isi .lt (.v 1)) e = .ok (.z (.bl true)) e := by
  simp [evalE, viewE, he, RF.R.bind, O.toD, isiV, ofOpt]
theorem lt_tup (n : Nat) (xs : List D) (e : RF.Env) (he : getE e 1 = some (.z (.tup xs))) : evalE (cc n) (.isi .lt (.v 1)) e = .ok (.z (.bl true)) e := by
  simp [evalE, viewE, he, RF.R.bind, O.toD, isiV, ofOpt]
abbrev andX : RF.X := .and (.cons (.cmp .eq (.blt .len (.cons (.v 0) .nil)) (.blt .len (.cons (.v 1) .nil))) (.cons (.cmp .eq compX (.lst .nil)) .nil))
theorem st_ite {C : Cfg} {c : RF.X} {a b : Ss} {e : RF.Env} {k : Bool} (h : evalE C c e = .ok (.z (.bl k)) e) : evalS C Wf (.ite c a b) e = if k then evalSs C Wf a e else evalSs C Wf b e := by
  rw [evalS, h]
  cases k <;> rfl
theorem walk (n : Nat) (d : D) (e : RF.Env) (A B D1 : Ss) (h1 : evalE (cc n) orX e = .ok (.z (.bl false)) e) (h2 : evalE (cc n) (.isi .lt (.v 1)) e = .ok (.z (.bl true)) e) (h3 : evalE (cc n) noX e = .ok (.z (.bl false)) e) (h4 : evalE (cc n) andX e = .ok (.z (.bl true)) e) :
    evalSs (cc n) Wf (.cons (.ite orX A .nil) (.cons (.ite (.isi .lt (.v 1)) (.cons (.ite noX B .nil) (.cons (.ret andX) .nil)) .nil) D1)) e = .rt (.z (.bl true)) e := by
  have r : evalS (cc n) Wf (.ret andX) e = .rt (.z (.bl true)) e := by
    rw [evalS_ret (by intro i z; cases z), h4]; rfl
  rw [evalSs, st_ite h1]
  show (match evalSs (cc n) Wf .nil e with | .nx e1 => evalSs (cc n) Wf _ e1 | o => o) = _
  rw [evalSs]
  show evalSs (cc n) Wf _ e = _
  rw [evalSs, st_ite h2]
  show (match evalSs (cc n) Wf (.cons (.ite noX B .nil) (.cons (.ret andX) .nil)) e with | .nx e1 => evalSs (cc n) Wf D1 e1 | o => o) = _
  rw [evalSs, st_ite h3]
  show (match (match evalSs (cc n) Wf .nil e with | .nx e1 => evalSs (cc n) Wf (.cons (.ret andX) .nil) e1 | o => o) with | .nx e1 => evalSs (cc n) Wf D1 e1 | o => o) = _
  rw [evalSs]
  show (match evalSs (cc n) Wf (.cons (.ret andX) .nil) e with | .nx e1 => evalSs (cc n) Wf D1 e1 | o => o) = _
  rw [evalSs, r]
theorem same_seq (n : Nat) (xs : List D) (hl : xs.length < 1000) (h : ∀ d ∈ xs, g n f__law_same [.z d, .z d] = ret (.z (.bl true))) :
    g (n + 1) f__law_same [.z (.lst xs), .z (.lst xs)] = ret (.z (.bl true)) ∧ g (n + 1) f__law_same [.z (.tup xs), .z (.tup xs)] = ret (.z (.bl true)) := by
  have a1 := ands_eq n (.lst xs) xs.length rfl (comp_eq n (.lst xs) xs.length hl rfl fun j hj => condS_lst n xs j hj (h _ (List.getElem_mem hj)))
  have a2 := ands_eq n (.tup xs) xs.length rfl (comp_eq n (.tup xs) xs.length hl rfl fun j hj => condS_tup n xs j hj (h _ (List.getElem_mem hj)))
  constructor
  · rw [ss1]
    have w : evalSs (cc n) Wf d__law_same.body [some (.z (.lst xs)), some (.z (.lst xs)), none] = .rt (.z (.bl true)) [some (.z (.lst xs)), some (.z (.lst xs)), none] := walk n (.lst xs) _ _ _ _ (or_lst n xs _ rfl) (lt_lst n xs _ rfl) (no_lst n xs _ rfl rfl) a1
    exact (congrArg (RF.finish [false, false]) w).trans rfl
  · rw [ss1]
    have w : evalSs (cc n) Wf d__law_same.body [some (.z (.tup xs)), some (.z (.tup xs)), none] = .rt (.z (.bl true)) [some (.z (.tup xs)), some (.z (.tup xs)), none] := walk n (.tup xs) _ _ _ _ (or_tup n xs _ rfl) (lt_tup n xs _ rfl) (no_tup n xs _ rfl rfl) a2
    exact (congrArg (RF.finish [false, false]) w).trans rfl
theorem same_int (n : Nat) (i : Int) : g (n + 1) f__law_same [zi i, zi i] = ret (.z (.bl true)) := by
  rw [ss1]
  simp [d__law_same, evalSs, evalS, evalE, evalOr, evalAnd, viewE, getE, RF.R.bind, cmpop, D.isNon, D.isBl, D.ok, ofOpt, Out.ofR, isiV, eq_int, RF.finish, outs?, O.toD]
  simp [D.eqv, D.py, PySem.PyData.eqv]
theorem same_bl (n : Nat) (b : Bool) : g (n + 1) f__law_same [.z (.bl b), .z (.bl b)] = ret (.z (.bl true)) := by
  cases b <;> rfl
theorem same_fr (n : Nat) (a b : Int) : g (n + 2) f__law_same [fr a b, fr a b] = ret (.z (.bl true)) :=
  (same_seq (n + 1) [.int a, .int b] (by simp) fun d m => by
    simp only [List.mem_cons, List.not_mem_nil, or_false] at m
    rcases m with rfl | rfl <;> exact same_int n _).2
theorem same_frs (n : Nat) (xs : List D) (hl : xs.length < 1000) (h : ∀ d ∈ xs, ∃ a b : Int, d = .tup [.int a, .int b]) : g (n + 3) f__law_same [.z (.lst xs), .z (.lst xs)] = ret (.z (.bl true)) :=
  (same_seq (n + 2) xs hl fun d m => by
    obtain ⟨a, b, rfl⟩ := h d m
    exact same_fr n a b).1
theorem same_ints (n : Nat) (xs : List D) (hl : xs.length < 1000) (h : ∀ d ∈ xs, ∃ a : Int, d = .int a) : g (n + 2) f__law_same [.z (.lst xs), .z (.lst xs)] = ret (.z (.bl true)) :=
  (same_seq (n + 1) xs hl fun d m => by
    obtain ⟨a, rfl⟩ := h d m
    exact same_int n a).1
/-! ### sums, differences, products, quotients -/
theorem Fr.mulS {k : Nat} {p q : Int × Int} (h1 : Fr k p) (h2 : Fr k q) : Sm (k + k + 1) (p.1 * q.2 + q.1 * p.2) ∧ Sm (k + k + 1) (p.1 * q.2 - q.1 * p.2) ∧ Sm (k + k + 1) (p.2 * q.2) ∧ p.2 * q.2 ≠ 0 ∧ Sm (k + k + 1) (p.1 * q.1) ∧ Sm (k + k + 1) (p.1 * q.2) ∧ Sm (k + k + 1) (p.2 * q.1) :=
  ⟨(h1.s1.mul h2.s2).add (h2.s1.mul h1.s2), (h1.s1.mul h2.s2).sub (h2.s1.mul h1.s2), (h1.s2.mul h2.s2).mono (by omega), Int.ne_of_gt (Int.mul_pos h1.pos h2.pos), (h1.s1.mul h2.s1).mono (by omega), (h1.s1.mul h2.s2).mono (by omega), (h1.s2.mul h2.s1).mono (by omega)⟩
def Pl (p q : Int × Int) := low (p.1 * q.2 + q.1 * p.2) (p.2 * q.2)
def Mi (p q : Int × Int) := low (p.1 * q.2 - q.1 * p.2) (p.2 * q.2)
def Ti (p q : Int × Int) := low (p.1 * q.1) (p.2 * q.2)
def Ov (p q : Int × Int) := low (p.1 * q.2) (p.2 * q.1)
section
variable {p q : Int × Int} (n : Nat) (h1 : Fr 142 p) (h2 : Fr 142 q)
include h1 h2
theorem mu : mulOk p.1 q.2 = true ∧ mulOk q.1 p.2 = true ∧ mulOk p.2 q.2 = true ∧ mulOk p.1 q.1 = true ∧ mulOk p.2 q.1 = true :=
  ⟨mulOk_of h1.s1 h2.s2 (by decide), mulOk_of h2.s1 h1.s2 (by decide), mulOk_of h1.s2 h2.s2 (by decide), mulOk_of h1.s1 h2.s1 (by decide), mulOk_of h1.s2 h2.s1 (by decide)⟩
theorem pl1 : g (n + 3) f_plus [fp p, fp q] = ret (fp (Pl p q)) := by
  obtain ⟨s1, _, s3, s4, _⟩ := h1.mulS h2
  obtain ⟨m1, m2, m3, m4, m5⟩ := mu h1 h2
  have l := lowest_eq n 285 (by decide) _ _ s4 s1 s3
  rw [at_plus]
  simp [runF, d_plus, evalSs, evalS, evalE, RF.evalArgs, Out.ofR, viewE, getE, L2.atI, L2.ixN, binop, RF.R.bind, doCall, sg_lowest, cc_call, Ar.fetch, Ar.slots, Ar.isRef, back0, O.toD, RF.finish, outs?, ofOpt, m1, m2, m3, m4, m5, l, O.clean, D.lf, D.lfs, Pl]
theorem pl2 : g (n + 3) f__law_plus [fp p, fp q] = ret (fp (Pl p q)) := by
  obtain ⟨s1, _, s3, s4, _⟩ := h1.mulS h2
  obtain ⟨m1, m2, m3, m4, m5⟩ := mu h1 h2
  have l := lowest2_eq n 285 (by decide) _ _ s4 s1 s3
  rw [at__law_plus]
  simp [runF, d__law_plus, evalSs, evalS, evalE, RF.evalArgs, Out.ofR, viewE, getE, L2.atI, L2.ixN, binop, RF.R.bind, doCall, sg__law_lowest, cc_call, Ar.fetch, Ar.slots, Ar.isRef, back0, O.toD, RF.finish, outs?, ofOpt, m1, m2, m3, m4, m5, l, O.clean, D.lf, D.lfs, Pl]
theorem mi1 : g (n + 3) f_minus [fp p, fp q] = ret (fp (Mi p q)) := by
  obtain ⟨_, s1, s3, s4, _⟩ := h1.mulS h2
  obtain ⟨m1, m2, m3, m4, m5⟩ := mu h1 h2
  have l := lowest_eq n 285 (by decide) _ _ s4 s1 s3
  rw [at_minus]
  simp [runF, d_minus, evalSs, evalS, evalE, RF.evalArgs, Out.ofR, viewE, getE, L2.atI, L2.ixN, binop, RF.R.bind, doCall, sg_lowest, cc_call, Ar.fetch, Ar.slots, Ar.isRef, back0, O.toD, RF.finish, outs?, ofOpt, m1, m2, m3, m4, m5, l, O.clean, D.lf, D.lfs, Mi]
theorem mi2 : g (n + 3) f__law_minus [fp p, fp q] = ret (fp (Mi p q)) := by
  obtain ⟨_, s1, s3, s4, _⟩ := h1.mulS h2
  obtain ⟨m1, m2, m3, m4, m5⟩ := mu h1 h2
  have l := lowest2_eq n 285 (by decide) _ _ s4 s1 s3
  rw [at__law_minus]
  simp [runF, d__law_minus, evalSs, evalS, evalE, RF.evalArgs, Out.ofR, viewE, getE, L2.atI, L2.ixN, binop, RF.R.bind, doCall, sg__law_lowest, cc_call, Ar.fetch, Ar.slots, Ar.isRef, back0, O.toD, RF.finish, outs?, ofOpt, m1, m2, m3, m4, m5, l, O.clean, D.lf, D.lfs, Mi]
theorem ti1 : g (n + 3) f_times [fp p, fp q] = ret (fp (Ti p q)) := by
  obtain ⟨_, _, s3, s4, s1, _⟩ := h1.mulS h2
  obtain ⟨m1, m2, m3, m4, m5⟩ := mu h1 h2
  have l := lowest_eq n 285 (by decide) _ _ s4 s1 s3
  rw [at_times]
  simp [runF, d_times, evalSs, evalS, evalE, RF.evalArgs, Out.ofR, viewE, getE, L2.atI, L2.ixN, binop, RF.R.bind, doCall, sg_lowest, cc_call, Ar.fetch, Ar.slots, Ar.isRef, back0, O.toD, RF.finish, outs?, ofOpt, m1, m2, m3, m4, m5, l, O.clean, D.lf, D.lfs, Ti]
theorem ti2 : g (n + 3) f__law_times [fp p, fp q] = ret (fp (Ti p q)) := by
  obtain ⟨_, _, s3, s4, s1, _⟩ := h1.mulS h2
  obtain ⟨m1, m2, m3, m4, m5⟩ := mu h1 h2
  have l := lowest2_eq n 285 (by decide) _ _ s4 s1 s3
  rw [at__law_times]
  simp [runF, d__law_times, evalSs, evalS, evalE, RF.evalArgs, Out.ofR, viewE, getE, L2.atI, L2.ixN, binop, RF.R.bind, doCall, sg__law_lowest, cc_call, Ar.fetch, Ar.slots, Ar.isRef, back0, O.toD, RF.finish, outs?, ofOpt, m1, m2, m3, m4, m5, l, O.clean, D.lf, D.lfs, Ti]
theorem ov1 (hz : q.1 ≠ 0) : g (n + 3) f_over [fp p, fp q] = ret (fp (Ov p q)) := by
  obtain ⟨_, _, _, _, _, s1, s2⟩ := h1.mulS h2
  obtain ⟨m1, m2, m3, m4, m5⟩ := mu h1 h2
  have l := lowest_eq n 285 (by decide) _ _ (Int.mul_ne_zero (Int.ne_of_gt h1.pos) hz) s1 s2
  rw [at_over]
  simp [runF, d_over, evalSs, evalS, evalE, RF.evalArgs, Out.ofR, viewE, getE, L2.atI, L2.ixN, binop, RF.R.bind, doCall, sg_lowest, cc_call, Ar.fetch, Ar.slots, Ar.isRef, back0, O.toD, RF.finish, outs?, ofOpt, m1, m2, m3, m4, m5, l, O.clean, D.lf, D.lfs, Ov]
theorem less : g (n + 1) f__law_less [fp p, fp q] = ret (.z (.bl (decide (p.1 * q.2 < q.1 * p.2)))) := by
  obtain ⟨m1, m2, m3, m4, m5⟩ := mu h1 h2
  rw [at__law_less]
  simp [runF, d__law_less, evalSs, evalS, evalE, Out.ofR, viewE, getE, L2.atI, L2.ixN, binop, cmpop, RF.R.bind, O.toD, RF.finish, outs?, ofOpt, m1, m2]
omit h1 h2 in
theorem lt_int (a b : Int) : cmpop .lt (.int a) (.int b) = some (decide (a < b)) := rfl
def Sg (p q : Int × Int) : Int := if p.1 * q.2 = q.1 * p.2 then 0 else if p.1 * q.2 < q.1 * p.2 then -1 else 1
theorem cmp1 : g (n + 1) f_compared [fp p, fp q] = ret (zi (Sg p q)) := by
  obtain ⟨m1, m2, m3, m4, m5⟩ := mu h1 h2
  rw [at_compared]
  by_cases e : p.1 * q.2 = q.1 * p.2
  · simp [runF, d_compared, evalSs, evalS, evalE, Out.ofR, viewE, getE, L2.atI, L2.ixN, binop, RF.R.bind, O.toD, RF.finish, outs?, ofOpt, m1, m2, eq_int, e, Sg]
  · by_cases l : p.1 * q.2 < q.1 * p.2
    · simp [runF, d_compared, evalSs, evalS, evalE, Out.ofR, viewE, getE, L2.atI, L2.ixN, binop, RF.R.bind, O.toD, RF.finish, outs?, ofOpt, m1, m2, eq_int, e, Sg, lt_int, l]
    · simp [runF, d_compared, evalSs, evalS, evalE, Out.ofR, viewE, getE, L2.atI, L2.ixN, binop, RF.R.bind, O.toD, RF.finish, outs?, ofOpt, m1, m2, eq_int, e, Sg, lt_int, l]
end
theorem frac_eq {p q : Int × Int} (h1 : Fr 142 p) (h2 : Fr 142 q) (e : p.1 * q.2 = q.1 * p.2) : p = q := by
  obtain ⟨a, b⟩ := p
  obtain ⟨c, d⟩ := q
  have e : a * d = c * b := e
  have pb : 0 < b := h1.pos
  have pd : 0 < d := h2.pos
  have g1 : Int.gcd a b = 1 := h1.gcd
  have g2 : Int.gcd c d = 1 := h2.gcd
  have x1 : b.natAbs ∣ a.natAbs * d.natAbs := by
    rw [← Int.natAbs_mul, e, Int.natAbs_mul]
    exact Nat.dvd_mul_left ..
  have x2 : d.natAbs ∣ c.natAbs * b.natAbs := by
    rw [← Int.natAbs_mul, ← e, Int.natAbs_mul]
    exact Nat.dvd_mul_left ..
  have y1 : b.natAbs ∣ d.natAbs := Nat.Coprime.dvd_of_dvd_mul_left (Nat.Coprime.symm (show Nat.gcd a.natAbs b.natAbs = 1 from g1)) x1
  have y2 : d.natAbs ∣ b.natAbs := Nat.Coprime.dvd_of_dvd_mul_left (Nat.Coprime.symm (show Nat.gcd c.natAbs d.natAbs = 1 from g2)) x2
  have eq := Nat.dvd_antisymm y1 y2
  have ebd : b = d := by omega
  subst ebd
  have : a = c := Int.eq_of_mul_eq_mul_right (by omega) e
  rw [this]
theorem eq_tup (a b c d : Int) : cmpop .eq (.tup [.int a, .int b]) (.tup [.int c, .int d]) = some (decide (a = c) && decide (b = d)) := by
  have h1 : D.eqv (.tup [.int a, .int b]) (.tup [.int c, .int d]) = (decide (a = c) && decide (b = d)) := by
    simp only [D.eqv, D.py, D.pys, PySem.PyData.eqv, PySem.PyData.eqvAll, Bool.and_true]
    by_cases x : a = c <;> by_cases y : b = d <;> simp [x, y]
  simp [cmpop, D.ok, h1]
theorem sg_anti (p q : Int × Int) : Sg q p = 0 - Sg p q := by
  unfold Sg
  by_cases e : p.1 * q.2 = q.1 * p.2
  · rw [if_pos e, if_pos e.symm]; rfl
  · rw [if_neg e, if_neg (fun z => e z.symm)]
    by_cases l : p.1 * q.2 < q.1 * p.2
    · rw [if_pos l, if_neg (by omega)]; rfl
    · rw [if_neg l, if_pos (by omega)]; rfl
end K01
/-! K01o: a pair of fractions. -/
namespace K01
open RF
theorem nxt {C : Cfg} {s : RF.S} {r : Ss} {e e' : RF.Env} (h : evalS C Wf s e = .nx e') : evalSs C Wf (.cons s r) e = evalSs C Wf r e' := by
  rw [evalSs, h]
abbrev S1 : RF.S := (.set 1 (.call false f__law_pick (.cons (.v 0) (.cons (.lst (.cons (.n 3) (.cons (.n 40) (.cons (.bin .pow (.n 10) (.n 9)) (.cons (.bin .pow (.n 10) (.n 40)) .nil))))) .nil))))
abbrev S2 : RF.S := (.par [2, 3] (.cons (.call false f__law_drawn_fraction (.cons (.v 0) (.cons (.v 1) .nil))) (.cons (.call false f__law_drawn_fraction (.cons (.v 0) (.cons (.v 1) .nil))) .nil)))
abbrev S3 : RF.S := (.set 4 (.lst (.cons (.call true f__law_plus (.cons (.v 2) (.cons (.v 3) .nil))) (.cons (.call true f__law_minus (.cons (.v 2) (.cons (.v 3) .nil))) (.cons (.call true f__law_times (.cons (.v 2) (.cons (.v 3) .nil))) .nil)))))
abbrev S4 : RF.S := (.set 5 (.lst (.cons (.call true f_plus (.cons (.v 2) (.cons (.v 3) .nil))) (.cons (.call true f_minus (.cons (.v 2) (.cons (.v 3) .nil))) (.cons (.call true f_times (.cons (.v 2) (.cons (.v 3) .nil))) (.cons (.callk f_plus .nil (.cons (.v 3) (.cons (.v 2) .nil)) [1, 0]) (.cons (.callk f_minus .nil (.cons (.v 3) (.cons (.v 2) .nil)) [1, 0]) (.cons (.callk f_times .nil (.cons (.v 3) (.cons (.v 2) .nil)) [1, 0]) .nil))))))))
abbrev S5 : RF.S := (.set 6 (.ite (.call true f__law_less (.cons (.v 2) (.cons (.v 3) .nil))) (.bin .sub (.n 0) (.n 1)) (.ite (.cmp .eq (.v 2) (.v 3)) (.n 0) (.n 1))))
abbrev S6 : RF.S := (.ite (.or (.cons (.not (.call true f__law_same (.cons (.v 5) (.cons (.bin .add (.v 4) (.v 4)) .nil)))) (.cons (.not (.call true f__law_same (.cons (.lst (.cons (.call true f_compared (.cons (.v 2) (.cons (.v 3) .nil))) (.cons (.callk f_compared .nil (.cons (.v 3) (.cons (.v 2) .nil)) [1, 0]) (.cons (.call true f_compared (.cons (.v 3) (.cons (.v 2) .nil))) .nil)))) (.cons (.lst (.cons (.v 6) (.cons (.v 6) (.cons (.bin .sub (.n 0) (.v 6)) .nil)))) .nil)))) .nil))) (.cons (.ret (.tt false)) .nil) .nil)
abbrev S7 : RF.S := (.ite (.and (.cons (.cmp .ne (.ix (.v 3) (.n 0)) (.n 0)) (.cons (.not (.call true f__law_same (.cons (.lst (.cons (.call true f_over (.cons (.v 2) (.cons (.v 3) .nil))) (.cons (.callk f_over .nil (.cons (.v 3) (.cons (.v 2) .nil)) [1, 0]) .nil))) (.cons (.bin .mul (.lst (.cons (.call true f__law_lowest (.cons (.bin .mul (.ix (.v 2) (.n 0)) (.ix (.v 3) (.n 1))) (.cons (.bin .mul (.ix (.v 2) (.n 1)) (.ix (.v 3) (.n 0))) .nil))) .nil)) (.n 2)) .nil)))) .nil))) (.cons (.ret (.tt false)) .nil) .nil)
abbrev S8 : RF.S := (.par [7, 8] (.cons (.bin .sub (.call false f__law_random (.cons (.v 0) (.cons (.bin .add (.bin .mul (.n 2) (.v 1)) (.n 1)) .nil))) (.v 1)) (.cons (.bin .add (.n 1) (.call false f__law_random (.cons (.v 0) (.cons (.v 1) .nil)))) .nil)))
abbrev S9 : RF.S := (.ret (.call true f__law_same (.cons (.lst (.cons (.call true f_lowest (.cons (.v 7) (.cons (.v 8) .nil))) (.cons (.callk f_lowest .nil (.cons (.bin .sub (.n 0) (.v 8)) (.cons (.v 7) .nil)) [1, 0]) .nil))) (.cons (.lst (.cons (.call true f__law_lowest (.cons (.v 7) (.cons (.v 8) .nil))) (.cons (.call true f__law_lowest (.cons (.v 7) (.cons (.bin .sub (.n 0) (.v 8)) .nil))) .nil))) .nil))))
theorem powB : powOk 10 9 = true ∧ powOk 10 40 = true := by decide +kernel
theorem most_ok {d : D} (h : d ∈ [D.int 3, .int 40, .int (10 ^ (9 : Int).toNat), .int (10 ^ (40 : Int).toNat)]) : ∃ x : Int, d = .int x ∧ 0 < x ∧ Sm 140 x := by
  simp only [List.mem_cons, List.not_mem_nil, or_false] at h
  rcases h with rfl | rfl | rfl | rfl <;> exact ⟨_, rfl, by decide +kernel, by unfold Sm; decide +kernel⟩
theorem s1 (n k : Nat) (o : O) (ho : Gn k o) (hk : k < 700000) : ∃ x o1, 0 < x ∧ Sm 140 x ∧ Gn (k + 10) o1 ∧ evalS (cc (n + 5)) Wf S1 [some o, none, none, none, none, none, none, none, none] = .nx [some o1, some (zi x), none, none, none, none, none, none, none] := by
  obtain ⟨d, o1, hd, e, ho1⟩ := pick (n + 2) k o [.int 3, .int 40, .int (10 ^ (9 : Int).toNat), .int (10 ^ (40 : Int).toNat)] ho (by omega) (by decide) (by decide)
  obtain ⟨x, rfl, x0, x1⟩ := most_ok hd
  have e := e rfl
  obtain ⟨a, b, c, rfl, _⟩ := ho.ex
  obtain ⟨a1, b1, c1, rfl, _⟩ := ho1.ex
  obtain ⟨p1, p2⟩ := powB
  refine ⟨x, _, x0, x1, ho1, ?_⟩
  simp only [Int.reduceToNat, Int.reducePow] at e
  simp [evalSs, evalS, evalE, evalEs, frz, RF.evalArgs, evalVs, evalAnd, evalOr, bltV, Out.ofR, Out.ofO, setAll, viewE, getE, RF.R.bind, doCall, cc_call, Ar.fetch, Ar.slots, Ar.isRef, back0, back1, permA, O.toD, O.toDs, outs?, ofOpt, O.isZ, O.flat, O.clean, O.cleans, D.lf, D.lfs, pureX, pureXs, binop, L2.atI, L2.ixN, sg__law_random, sg__law_pick, sg__law_lowest, sg_lowest, sg__law_drawn_fraction, sg_plus, sg_minus, sg_times, sg__law_plus, sg__law_minus, sg__law_times, sg__law_less, sg_compared, sg_over, sg__law_same, p1, p2, e]
theorem s2 (n k : Nat) (o : O) (x : Int) (ho : Gn k o) (hk : k < 700000) (h0 : 0 < x) (h1 : Sm 140 x) : ∃ p q o1, Fr 142 p ∧ Fr 142 q ∧ Gn (k + 60) o1 ∧ evalS (cc (n + 5)) Wf S2 [some o, some (zi x), none, none, none, none, none, none, none] = .nx [some o1, some (zi x), some (fp p), some (fp q), none, none, none, none, none] := by
  obtain ⟨p, o1, e1, f1, ho1⟩ := drawn (n + 1) k o x ho (by omega) h0 h1
  obtain ⟨q, o2, e2, f2, ho2⟩ := drawn (n + 1) (k + 30) o1 x ho1 (by omega) h0 h1
  obtain ⟨a, b, c, rfl, _⟩ := ho.ex
  obtain ⟨a1, b1, c1, rfl, _⟩ := ho1.ex
  obtain ⟨a2, b2, c2, rfl, _⟩ := ho2.ex
  refine ⟨p, q, _, f1, f2, ho2, ?_⟩
  simp [evalSs, evalS, evalE, evalEs, frz, RF.evalArgs, evalVs, evalAnd, evalOr, bltV, Out.ofR, Out.ofO, setAll, viewE, getE, RF.R.bind, doCall, cc_call, Ar.fetch, Ar.slots, Ar.isRef, back0, back1, permA, O.toD, O.toDs, outs?, ofOpt, O.isZ, O.flat, O.clean, O.cleans, D.lf, D.lfs, pureX, pureXs, binop, L2.atI, L2.ixN, sg__law_random, sg__law_pick, sg__law_lowest, sg_lowest, sg__law_drawn_fraction, sg_plus, sg_minus, sg_times, sg__law_plus, sg__law_minus, sg__law_times, sg__law_less, sg_compared, sg_over, sg__law_same, e1, e2]
section
variable {p q : Int × Int} (n : Nat) (f1 : Fr 142 p) (f2 : Fr 142 q) (o u : Option O)
include f1 f2
theorem s3 : evalS (cc (n + 5)) Wf S3 [o, u, some (fp p), some (fp q), none, none, none, none, none] = .nx [o, u, some (fp p), some (fp q), some (.l [fp (Pl p q), fp (Mi p q), fp (Ti p q)]), none, none, none, none] := by
  have e1 := pl2 (n + 2) f1 f2
  have e2 := mi2 (n + 2) f1 f2
  have e3 := ti2 (n + 2) f1 f2
  simp [evalSs, evalS, evalE, evalEs, frz, RF.evalArgs, evalVs, evalAnd, evalOr, bltV, Out.ofR, Out.ofO, setAll, viewE, getE, RF.R.bind, doCall, cc_call, Ar.fetch, Ar.slots, Ar.isRef, back0, back1, permA, O.toD, O.toDs, outs?, ofOpt, O.isZ, O.flat, O.clean, O.cleans, D.lf, D.lfs, pureX, pureXs, binop, L2.atI, L2.ixN, sg__law_random, sg__law_pick, sg__law_lowest, sg_lowest, sg__law_drawn_fraction, sg_plus, sg_minus, sg_times, sg__law_plus, sg__law_minus, sg__law_times, sg__law_less, sg_compared, sg_over, sg__law_same, e1, e2, e3]
theorem s4 (v : Option O) : evalS (cc (n + 5)) Wf S4 [o, u, some (fp p), some (fp q), v, none, none, none, none] = .nx [o, u, some (fp p), some (fp q), v, some (.l [fp (Pl p q), fp (Mi p q), fp (Ti p q), fp (Pl p q), fp (Mi p q), fp (Ti p q)]), none, none, none] := by
  have e1 := pl1 (n + 2) f1 f2
  have e2 := mi1 (n + 2) f1 f2
  have e3 := ti1 (n + 2) f1 f2
  simp [evalSs, evalS, evalE, evalEs, frz, RF.evalArgs, evalVs, evalAnd, evalOr, bltV, Out.ofR, Out.ofO, setAll, viewE, getE, RF.R.bind, doCall, cc_call, Ar.fetch, Ar.slots, Ar.isRef, back0, back1, permA, O.toD, O.toDs, outs?, ofOpt, O.isZ, O.flat, O.clean, O.cleans, D.lf, D.lfs, pureX, pureXs, binop, L2.atI, L2.ixN, sg__law_random, sg__law_pick, sg__law_lowest, sg_lowest, sg__law_drawn_fraction, sg_plus, sg_minus, sg_times, sg__law_plus, sg__law_minus, sg__law_times, sg__law_less, sg_compared, sg_over, sg__law_same, e1, e2, e3]
theorem s5 (v w : Option O) : evalS (cc (n + 5)) Wf S5 [o, u, some (fp p), some (fp q), v, w, none, none, none] = .nx [o, u, some (fp p), some (fp q), v, w, some (zi (Sg p q)), none, none] := by
  have e1 := less (n + 4) f1 f2
  have e2 := eq_tup p.1 p.2 q.1 q.2
  by_cases l : p.1 * q.2 < q.1 * p.2
  · have ne : ¬ p.1 * q.2 = q.1 * p.2 := by omega
    simp [evalSs, evalS, evalE, evalEs, frz, RF.evalArgs, evalVs, evalAnd, evalOr, bltV, Out.ofR, Out.ofO, setAll, viewE, getE, RF.R.bind, doCall, cc_call, Ar.fetch, Ar.slots, Ar.isRef, back0, back1, permA, O.toD, O.toDs, outs?, ofOpt, O.isZ, O.flat, O.clean, O.cleans, D.lf, D.lfs, pureX, pureXs, binop, L2.atI, L2.ixN, sg__law_random, sg__law_pick, sg__law_lowest, sg_lowest, sg__law_drawn_fraction, sg_plus, sg_minus, sg_times, sg__law_plus, sg__law_minus, sg__law_times, sg__law_less, sg_compared, sg_over, sg__law_same, e1, l, Sg, ne]
  · by_cases z : p.1 * q.2 = q.1 * p.2
    · have pq := frac_eq f1 f2 z
      subst pq
      simp [evalSs, evalS, evalE, evalEs, frz, RF.evalArgs, evalVs, evalAnd, evalOr, bltV, Out.ofR, Out.ofO, setAll, viewE, getE, RF.R.bind, doCall, cc_call, Ar.fetch, Ar.slots, Ar.isRef, back0, back1, permA, O.toD, O.toDs, outs?, ofOpt, O.isZ, O.flat, O.clean, O.cleans, D.lf, D.lfs, pureX, pureXs, binop, L2.atI, L2.ixN, sg__law_random, sg__law_pick, sg__law_lowest, sg_lowest, sg__law_drawn_fraction, sg_plus, sg_minus, sg_times, sg__law_plus, sg__law_minus, sg__law_times, sg__law_less, sg_compared, sg_over, sg__law_same, e1, e2, Sg]
    · have pq : ¬ (p.1 = q.1 ∧ p.2 = q.2) := fun y => z (by rw [y.1, y.2])
      have pq2 : (decide (p.1 = q.1) && decide (p.2 = q.2)) = false := by
        rw [Bool.eq_false_iff]; intro y; exact pq (by simpa using y)
      simp [evalSs, evalS, evalE, evalEs, frz, RF.evalArgs, evalVs, evalAnd, evalOr, bltV, Out.ofR, Out.ofO, setAll, viewE, getE, RF.R.bind, doCall, cc_call, Ar.fetch, Ar.slots, Ar.isRef, back0, back1, permA, O.toD, O.toDs, outs?, ofOpt, O.isZ, O.flat, O.clean, O.cleans, D.lf, D.lfs, pureX, pureXs, binop, L2.atI, L2.ixN, sg__law_random, sg__law_pick, sg__law_lowest, sg_lowest, sg__law_drawn_fraction, sg_plus, sg_minus, sg_times, sg__law_plus, sg__law_minus, sg__law_times, sg__law_less, sg_compared, sg_over, sg__law_same, e1, l, e2, pq2, z, Sg]
end
theorem sg_neg (p q : Int × Int) : Sg q p = -Sg p q := by rw [sg_anti]; omega
section
variable {p q : Int × Int} (n : Nat) (f1 : Fr 142 p) (f2 : Fr 142 q) (o u : Option O)
include f1 f2
abbrev fd (p : Int × Int) : D := .tup [.int p.1, .int p.2]
theorem s6 : evalS (cc (n + 5)) Wf S6 [o, u, some (fp p), some (fp q), some (.l [fp (Pl p q), fp (Mi p q), fp (Ti p q)]), some (.l [fp (Pl p q), fp (Mi p q), fp (Ti p q), fp (Pl p q), fp (Mi p q), fp (Ti p q)]), some (zi (Sg p q)), none, none] =
    .nx [o, u, some (fp p), some (fp q), some (.l [fp (Pl p q), fp (Mi p q), fp (Ti p q)]), some (.l [fp (Pl p q), fp (Mi p q), fp (Ti p q), fp (Pl p q), fp (Mi p q), fp (Ti p q)]), some (zi (Sg p q)), none, none] := by
  have e1 := same_frs (n + 2) [fd (Pl p q), fd (Mi p q), fd (Ti p q), fd (Pl p q), fd (Mi p q), fd (Ti p q)] (by simp) (fun d m => by
    simp only [List.mem_cons, List.not_mem_nil, or_false] at m
    rcases m with rfl | rfl | rfl | rfl | rfl | rfl <;> exact ⟨_, _, rfl⟩)
  have e2 := cmp1 (n + 4) f1 f2
  have e3 := cmp1 (n + 4) f2 f1
  rw [sg_neg] at e3
  have e4 := same_ints (n + 3) [.int (Sg p q), .int (Sg p q), .int (-Sg p q)] (by simp) (fun d m => by
    simp only [List.mem_cons, List.not_mem_nil, or_false] at m
    rcases m with rfl | rfl | rfl <;> exact ⟨_, rfl⟩)
  simp [evalSs, evalS, evalE, evalEs, frz, RF.evalArgs, evalVs, evalAnd, evalOr, bltV, Out.ofR, Out.ofO, setAll, viewE, getE, RF.R.bind, doCall, cc_call, Ar.fetch, Ar.slots, Ar.isRef, back0, back1, permA, O.toD, O.toDs, outs?, ofOpt, O.isZ, O.flat, O.clean, O.cleans, D.lf, D.lfs, pureX, pureXs, binop, L2.atI, L2.ixN, sg__law_random, sg__law_pick, sg__law_lowest, sg_lowest, sg__law_drawn_fraction, sg_plus, sg_minus, sg_times, sg__law_plus, sg__law_minus, sg__law_times, sg__law_less, sg_compared, sg_over, sg__law_same, lenOk, e1, e2, e3, e4]
theorem s7 (v w y : Option O) : evalS (cc (n + 5)) Wf S7 [o, u, some (fp p), some (fp q), v, w, y, none, none] = .nx [o, u, some (fp p), some (fp q), v, w, y, none, none] := by
  by_cases hz : q.1 = 0
  · simp [evalSs, evalS, evalE, evalEs, frz, RF.evalArgs, evalVs, evalAnd, evalOr, bltV, Out.ofR, Out.ofO, setAll, viewE, getE, RF.R.bind, doCall, cc_call, Ar.fetch, Ar.slots, Ar.isRef, back0, back1, permA, O.toD, O.toDs, outs?, ofOpt, O.isZ, O.flat, O.clean, O.cleans, D.lf, D.lfs, pureX, pureXs, binop, L2.atI, L2.ixN, sg__law_random, sg__law_pick, sg__law_lowest, sg_lowest, sg__law_drawn_fraction, sg_plus, sg_minus, sg_times, sg__law_plus, sg__law_minus, sg__law_times, sg__law_less, sg_compared, sg_over, sg__law_same, ne0, hz]
  · have e1 := ov1 (n + 2) f1 f2 hz
    obtain ⟨_, _, _, _, _, t1, t2⟩ := f1.mulS f2
    obtain ⟨m1, m2, m3, m4, m5⟩ := mu f1 f2
    have e2 := lowest2_eq (n + 3) 285 (by decide) _ _ (Int.mul_ne_zero (Int.ne_of_gt f1.pos) hz) t1 t2
    have e3 := same_frs (n + 2) [fd (Ov p q), fd (Ov p q)] (by simp) (fun d m => by
      simp only [List.mem_cons, List.not_mem_nil, or_false] at m
      rcases m with rfl | rfl <;> exact ⟨_, _, rfl⟩)
    have e2 : g (n + 5) f__law_lowest [zi (p.1 * q.2), zi (p.2 * q.1)] = ret (fp (Ov p q)) := e2
    simp [evalSs, evalS, evalE, evalEs, frz, RF.evalArgs, evalVs, evalAnd, evalOr, bltV, Out.ofR, Out.ofO, setAll, viewE, getE, RF.R.bind, doCall, cc_call, Ar.fetch, Ar.slots, Ar.isRef, back0, back1, permA, O.toD, O.toDs, outs?, ofOpt, O.isZ, O.flat, O.clean, O.cleans, D.lf, D.lfs, pureX, pureXs, binop, L2.atI, L2.ixN, sg__law_random, sg__law_pick, sg__law_lowest, sg_lowest, sg__law_drawn_fraction, sg_plus, sg_minus, sg_times, sg__law_plus, sg__law_minus, sg__law_times, sg__law_less, sg_compared, sg_over, sg__law_same, ne0, hz, e1, e2, e3, m1, m5, List.replicate]
end
theorem s8 (n k : Nat) (o : O) (x : Int) (ho : Gn k o) (hk : k < 700000) (h0 : 0 < x) (h1 : Sm 140 x) (a1 a2 a3 a4 a5 : Option O) : ∃ y z o1, 0 < z ∧ Sm 142 y ∧ Sm 142 z ∧ Gn (k + 20) o1 ∧ evalS (cc (n + 5)) Wf S8 [some o, some (zi x), a1, a2, a3, a4, a5, none, none] = .nx [some o1, some (zi x), a1, a2, a3, a4, a5, some (zi y), some (zi z)] := by
  obtain ⟨r, o1, e1, r1, r2, ho1⟩ := rnd (n + 3) k o (2 * x + 1) ho (by omega) (by omega) (by
    have := (show Sm 2 2 by unfold Sm; decide).mul h1
    exact (this.add ((show Sm 142 1 by unfold Sm; exact Nat.one_lt_two_pow (by decide)))).mono (by decide))
  obtain ⟨q, o2, e2, q1, q2, ho2⟩ := rnd (n + 3) (k + 10) o1 x ho1 (by omega) h0 (h1.mono (by decide))
  have m := mulOk_of (show Sm 2 2 by unfold Sm; decide) h1 (by decide)
  obtain ⟨a, b, c, rfl, _⟩ := ho.ex
  obtain ⟨a1', b1, c1, rfl, _⟩ := ho1.ex
  obtain ⟨a2', b2, c2, rfl, _⟩ := ho2.ex
  refine ⟨r - x, 1 + q, _, by omega, ?_, ?_, ho2, ?_⟩
  · unfold Sm at *
    rw [show (142 : Nat) = 140 + 2 from rfl, Nat.pow_add]
    omega
  · unfold Sm at *
    rw [show (142 : Nat) = 140 + 2 from rfl, Nat.pow_add]
    omega
  · simp [evalSs, evalS, evalE, evalEs, frz, RF.evalArgs, evalVs, evalAnd, evalOr, bltV, Out.ofR, Out.ofO, setAll, viewE, getE, RF.R.bind, doCall, cc_call, Ar.fetch, Ar.slots, Ar.isRef, back0, back1, permA, O.toD, O.toDs, outs?, ofOpt, O.isZ, O.flat, O.clean, O.cleans, D.lf, D.lfs, pureX, pureXs, binop, L2.atI, L2.ixN, sg__law_random, sg__law_pick, sg__law_lowest, sg_lowest, sg__law_drawn_fraction, sg_plus, sg_minus, sg_times, sg__law_plus, sg__law_minus, sg__law_times, sg__law_less, sg_compared, sg_over, sg__law_same, e1, e2, m]
theorem s9 (n : Nat) (y z : Int) (hz : 0 < z) (h1 : Sm 142 y) (h2 : Sm 142 z) (o a0 a1 a2 a3 a4 a5 : Option O) : ∃ e, evalS (cc (n + 5)) Wf S9 [o, a0, a1, a2, a3, a4, a5, some (zi y), some (zi z)] = .rt (.z (.bl true)) e ∧ getE e 0 = o := by
  have e1 := lowest_eq (n + 3) 142 (by decide) y z (by omega) h1 h2
  have e2 := lowest2_eq (n + 3) 142 (by decide) y z (by omega) h1 h2
  have e3 := lowest_eq (n + 3) 142 (by decide) y (-z) (by omega) h1 h2.neg
  have e4 := lowest2_eq (n + 3) 142 (by decide) y (-z) (by omega) h1 h2.neg
  have e5 := same_frs (n + 2) [fd (low y z), fd (low y (-z))] (by simp) (fun d m => by
    simp only [List.mem_cons, List.not_mem_nil, or_false] at m
    rcases m with rfl | rfl <;> exact ⟨_, _, rfl⟩)
  refine ⟨[o, a0, a1, a2, a3, a4, a5, some (zi y), some (zi z)], ?_, by simp [getE]⟩
  simp [evalSs, evalS, evalE, evalEs, frz, RF.evalArgs, evalVs, evalAnd, evalOr, bltV, Out.ofR, Out.ofO, setAll, viewE, getE, RF.R.bind, doCall, cc_call, Ar.fetch, Ar.slots, Ar.isRef, back0, back1, permA, O.toD, O.toDs, outs?, ofOpt, O.isZ, O.flat, O.clean, O.cleans, D.lf, D.lfs, pureX, pureXs, binop, L2.atI, L2.ixN, sg__law_random, sg__law_pick, sg__law_lowest, sg_lowest, sg__law_drawn_fraction, sg_plus, sg_minus, sg_times, sg__law_plus, sg__law_minus, sg__law_times, sg__law_less, sg_compared, sg_over, sg__law_same, e1, e2, e3, e4, e5]
theorem pair (n k : Nat) (o : O) (ho : Gn k o) (hk : k < 600000) : ∃ o', g (n + 6) f__law_pair_right [o] = .rt (.z (.bl true)) [o'] ∧ Gn (k + 100) o' := by
  obtain ⟨x, o1, x0, x1, h1, e1⟩ := s1 n k o ho (by omega)
  obtain ⟨p, q, o2, f1, f2, h2, e2⟩ := s2 n (k + 10) o1 x h1 (by omega) x0 x1
  have e3 := s3 n f1 f2 (some o2) (some (zi x))
  have e4 := s4 n f1 f2 (some o2) (some (zi x)) (some (.l [fp (Pl p q), fp (Mi p q), fp (Ti p q)]))
  have e5 := s5 n f1 f2 (some o2) (some (zi x)) (some (.l [fp (Pl p q), fp (Mi p q), fp (Ti p q)])) (some (.l [fp (Pl p q), fp (Mi p q), fp (Ti p q), fp (Pl p q), fp (Mi p q), fp (Ti p q)]))
  have e6 := s6 n f1 f2 (some o2) (some (zi x))
  have e7 := s7 n f1 f2 (some o2) (some (zi x)) (some (.l [fp (Pl p q), fp (Mi p q), fp (Ti p q)])) (some (.l [fp (Pl p q), fp (Mi p q), fp (Ti p q), fp (Pl p q), fp (Mi p q), fp (Ti p q)])) (some (zi (Sg p q)))
  obtain ⟨y, z, o3, z0, y1, z1, h3, e8⟩ := s8 n (k + 10 + 60) o2 x h2 (by omega) x0 x1 (some (fp p)) (some (fp q)) (some (.l [fp (Pl p q), fp (Mi p q), fp (Ti p q)])) (some (.l [fp (Pl p q), fp (Mi p q), fp (Ti p q), fp (Pl p q), fp (Mi p q), fp (Ti p q)])) (some (zi (Sg p q)))
  obtain ⟨e, e9, e10⟩ := s9 n y z z0 y1 z1 (some o3) (some (zi x)) (some (fp p)) (some (fp q)) (some (.l [fp (Pl p q), fp (Mi p q), fp (Ti p q)])) (some (.l [fp (Pl p q), fp (Mi p q), fp (Ti p q), fp (Pl p q), fp (Mi p q), fp (Ti p q)])) (some (zi (Sg p q)))
  obtain ⟨a, b, c, rfl, w1, w2, w3, w4⟩ := h3.ex
  refine ⟨_, ?_, ⟨a, b, c, rfl, w1, w2, w3, by omega⟩⟩
  rw [at__law_pair_right, run_eq (h := rfl)]
  show RF.finish [true] (evalSs (cc (n + 5)) Wf (.cons S1 (.cons S2 (.cons S3 (.cons S4 (.cons S5 (.cons S6 (.cons S7 (.cons S8 (.cons S9 .nil))))))))) [some o, none, none, none, none, none, none, none, none]) = _
  rw [nxt e1, nxt e2, nxt e3, nxt e4, nxt e5, nxt e6, nxt e7, nxt e8, evalSs, e9]
  simp [RF.finish, outs?, e10]
end K01
/-! K01q: generators; values judged. -/
namespace K01
open RF
theorem ints_map : ∀ ns : List Int, ints? (O.toDs (ns.map fun n => O.z (.int n))) = some ns
  | [] => rfl
  | n :: ns => by
    show (ints? (O.toDs (ns.map fun n => O.z (.int n)))).map (n :: ·) = _
    rw [ints_map ns]; rfl
theorem cell_eq (n : Nat) (s : List Int) (i : Nat) : ∃ z, g (n + 1) f__law_cell [.z (.scr s), zi i] = ret (zi z) := by
  rw [at__law_cell]
  by_cases h : i < s.length
  · refine ⟨s[i], ?_⟩
    simp [runF, d__law_cell, RF.finish, evalSs, evalS, evalE, evalEs, frz, RF.evalArgs, evalVs, evalAnd, evalOr, bltV, Out.ofR, Out.ofO, setAll, viewE, getE, RF.R.bind, doCall, cc_call, Ar.fetch, Ar.slots, Ar.isRef, back0, back1, permA, O.toD, O.toDs, outs?, ofOpt, O.isZ, O.flat, O.clean, O.cleans, D.lf, D.lfs, pureX, pureXs, binop, L2.atI, L2.ixN, sg__law_random, sg__law_pick, sg__law_lowest, sg_lowest, sg__law_drawn_fraction, sg_plus, sg_minus, sg_times, sg__law_plus, sg__law_minus, sg__law_times, sg__law_less, sg_compared, sg_over, sg__law_same, cmpop, h, L2.atI, L2.ixN]
  · refine ⟨(cutL s none (some 1)).sum.fmod 1000003, ?_⟩
    have im := ints_map (cutL s none (some 1))
    simp only [O.toDs_map, List.map_map] at im
    simp [runF, d__law_cell, RF.finish, evalSs, evalS, evalE, evalEs, frz, RF.evalArgs, evalVs, evalAnd, evalOr, bltV, Out.ofR, Out.ofO, setAll, viewE, getE, RF.R.bind, doCall, cc_call, Ar.fetch, Ar.slots, Ar.isRef, back0, back1, permA, O.toD, O.toDs, outs?, ofOpt, O.isZ, O.flat, O.clean, O.cleans, D.lf, D.lfs, pureX, pureXs, binop, L2.atI, L2.ixN, sg__law_random, sg__law_pick, sg__law_lowest, sg_lowest, sg__law_drawn_fraction, sg_plus, sg_minus, sg_times, sg__law_plus, sg__law_minus, sg__law_times, sg__law_less, sg_compared, sg_over, sg__law_same, cmpop, h, evalPart, O.toDs_map, im]
theorem powC : powOk 10 18 = true ∧ powOk 10 60 = true ∧ powOk (10 ^ (60 : Int).toNat) 10 = true := by decide +kernel
theorem gen_eq (n : Nat) (s : List Int) (i : Nat) (hi : i < 2) : ∃ o, g (n + 2) f__law_generator [.z (.scr s), zi i] = ret o ∧ Gn 1000 o := by
  obtain ⟨z, e⟩ := cell_eq n s i
  obtain ⟨p1, p2, p3⟩ := powC
  obtain ⟨r1, r2⟩ := fmod_range (a := z) (b := 2147483647) (by decide)
  rw [at__law_generator]
  have l : Sm 10 1000 := by unfold Sm; decide
  have m : mulOk 1000 (i : Int) = true := mulOk_of l (show Sm 2 (i : Int) by unfold Sm; omega) (by decide)
  simp only [Int.reduceToNat, Int.reducePow] at p3
  refine ⟨.l [zi ((if (0 : Int) > z - 10 ^ (18 : Int).toNat then 0 else z - 10 ^ (18 : Int).toNat).fmod ((10 ^ (60 : Int).toNat) ^ (10 : Int).toNat)), zi (z.fmod 2147483647), zi (1000 * i)], ?_, ⟨_, _, _, rfl, r1, r2, by omega, by omega⟩⟩
  simp [runF, d__law_generator, RF.finish, evalSs, evalS, evalE, evalEs, frz, RF.evalArgs, evalVs, evalAnd, evalOr, bltV, Out.ofR, Out.ofO, setAll, viewE, getE, RF.R.bind, doCall, cc_call, Ar.fetch, Ar.slots, Ar.isRef, back0, back1, permA, O.toD, O.toDs, outs?, ofOpt, O.isZ, O.flat, O.clean, O.cleans, D.lf, D.lfs, pureX, pureXs, binop, L2.atI, L2.ixN, sg__law_random, sg__law_pick, sg__law_lowest, sg_lowest, sg__law_drawn_fraction, sg_plus, sg_minus, sg_times, sg__law_plus, sg__law_minus, sg__law_times, sg__law_less, sg_compared, sg_over, sg__law_same, sg__law_cell, e, p1, p2, p3, m]
/-! ### judged -/
def Jd (f f' : Nat) (v : D) : Prop := ∃ b, ∀ n, g (n + 5) f [.z v] = ret (.z (.bl b)) ∧ g (n + 5) f' [.z v] = ret (.z (.bl b))
theorem pair_f (a b : Int) (h1 : Sm 200 a) (h2 : Sm 200 b) : ∀ n, g (n + 3) f_is_fraction [fr a b] = ret (.z (.bl (decide (1 ≤ b) && decide (Int.gcd a b = 1)))) ∧ g (n + 3) f__law_is_fraction [fr a b] = ret (.z (.bl (decide (1 ≤ b) && decide (Int.gcd a b = 1)))) := by
  intro n
  have c1 := common_eq (n + 1) 200 (by decide) a b h1 h2
  have c2 := common2_eq (n + 1) 200 (by decide) a b h1 h2
  have w1 := t_whole (n + 1) a
  have w2 := t_whole (n + 1) b
  have w3 := t_whole2 (n + 1) a
  have w4 := t_whole2 (n + 1) b
  have le : ∀ x y : Int, cmpop .ge (.int x) (.int y) = some (decide (y ≤ x)) := fun _ _ => rfl
  have gt : ∀ x y : Int, cmpop .gt (.int x) (.int y) = some (decide (y < x)) := fun _ _ => rfl
  have ne2 : cmpop .ne (.int 2) (.int 2) = some false := by decide +kernel
  have gi : ((Int.gcd a b : Nat) : Int) = 1 ↔ Int.gcd a b = 1 := by omega
  have pb : (0 < b) ↔ (1 ≤ b) := by omega
  rw [at_is_fraction, at__law_is_fraction]
  constructor
  · by_cases hb : 1 ≤ b
    · simp [runF, d_is_fraction, RF.finish, evalSs, evalS, evalE, evalEs, frz, RF.evalArgs, evalVs, evalAnd, evalOr, bltV, Out.ofR, Out.ofO, setAll, viewE, getE, RF.R.bind, doCall, cc_call, Ar.fetch, Ar.slots, Ar.isRef, back0, back1, permA, O.toD, O.toDs, outs?, ofOpt, O.isZ, O.flat, O.clean, O.cleans, D.lf, D.lfs, pureX, pureXs, binop, L2.atI, L2.ixN, sg__law_random, sg__law_pick, sg__law_lowest, sg_lowest, sg__law_drawn_fraction, sg_plus, sg_minus, sg_times, sg__law_plus, sg__law_minus, sg__law_times, sg__law_less, sg_compared, sg_over, sg__law_same, sg_is_whole, sg_common_of, w1, w2, c1, isiV, le, ne2, eq_int, hb, gi]
    · simp [runF, d_is_fraction, RF.finish, evalSs, evalS, evalE, evalEs, frz, RF.evalArgs, evalVs, evalAnd, evalOr, bltV, Out.ofR, Out.ofO, setAll, viewE, getE, RF.R.bind, doCall, cc_call, Ar.fetch, Ar.slots, Ar.isRef, back0, back1, permA, O.toD, O.toDs, outs?, ofOpt, O.isZ, O.flat, O.clean, O.cleans, D.lf, D.lfs, pureX, pureXs, binop, L2.atI, L2.ixN, sg__law_random, sg__law_pick, sg__law_lowest, sg_lowest, sg__law_drawn_fraction, sg_plus, sg_minus, sg_times, sg__law_plus, sg__law_minus, sg__law_times, sg__law_less, sg_compared, sg_over, sg__law_same, sg_is_whole, sg_common_of, w1, w2, c1, isiV, le, ne2, eq_int, hb, gi]
  · by_cases hb : 1 ≤ b
    · simp [runF, d__law_is_fraction, RF.finish, evalSs, evalS, evalE, evalEs, frz, RF.evalArgs, evalVs, evalAnd, evalOr, bltV, Out.ofR, Out.ofO, setAll, viewE, getE, RF.R.bind, doCall, cc_call, Ar.fetch, Ar.slots, Ar.isRef, back0, back1, permA, O.toD, O.toDs, outs?, ofOpt, O.isZ, O.flat, O.clean, O.cleans, D.lf, D.lfs, pureX, pureXs, binop, L2.atI, L2.ixN, sg__law_random, sg__law_pick, sg__law_lowest, sg_lowest, sg__law_drawn_fraction, sg_plus, sg_minus, sg_times, sg__law_plus, sg__law_minus, sg__law_times, sg__law_less, sg_compared, sg_over, sg__law_same, sg__law_is_whole, sg__law_common, w3, w4, c2, isiV, gt, ne2, eq_int, pb, hb, gi]
    · simp [runF, d__law_is_fraction, RF.finish, evalSs, evalS, evalE, evalEs, frz, RF.evalArgs, evalVs, evalAnd, evalOr, bltV, Out.ofR, Out.ofO, setAll, viewE, getE, RF.R.bind, doCall, cc_call, Ar.fetch, Ar.slots, Ar.isRef, back0, back1, permA, O.toD, O.toDs, outs?, ofOpt, O.isZ, O.flat, O.clean, O.cleans, D.lf, D.lfs, pureX, pureXs, binop, L2.atI, L2.ixN, sg__law_random, sg__law_pick, sg__law_lowest, sg_lowest, sg__law_drawn_fraction, sg_plus, sg_minus, sg_times, sg__law_plus, sg__law_minus, sg__law_times, sg__law_less, sg_compared, sg_over, sg__law_same, sg__law_is_whole, sg__law_common, w3, w4, c2, isiV, gt, ne2, eq_int, pb, hb, gi]
end K01
/-! K01r: all values judged. -/
namespace K01
open RF
abbrev JJ (v : D) : Prop := Jd f_is_fraction f__law_is_fraction v ∧ Jd f_is_share f_law_lam0 v
theorem pairJ (a b : Int) (h1 : Sm 200 a) (h2 : Sm 200 b) : JJ (.tup [.int a, .int b]) := by
  refine ⟨⟨_, fun n => pair_f a b h1 h2 (n + 2)⟩, ⟨(decide (1 ≤ b) && decide (Int.gcd a b = 1)) && (decide (0 < a) && decide (a < b)), fun n => ?_⟩⟩
  obtain ⟨e1, e2⟩ := pair_f a b h1 h2 (n + 1)
  rw [at_is_share, at_law_lam0]
  generalize (decide (1 ≤ b) && decide (Int.gcd a b = 1)) = k at *
  cases k with
  | false =>
    constructor
    · simp [runF, d_is_share, RF.finish, evalSs, evalS, evalE, evalEs, frz, RF.evalArgs, evalVs, evalAnd, evalOr, bltV, Out.ofR, Out.ofO, setAll, viewE, getE, RF.R.bind, doCall, cc_call, Ar.fetch, Ar.slots, Ar.isRef, back0, back1, permA, O.toD, O.toDs, outs?, ofOpt, O.isZ, O.flat, O.clean, O.cleans, D.lf, D.lfs, pureX, pureXs, binop, L2.atI, L2.ixN, sg__law_random, sg__law_pick, sg__law_lowest, sg_lowest, sg__law_drawn_fraction, sg_plus, sg_minus, sg_times, sg__law_plus, sg__law_minus, sg__law_times, sg__law_less, sg_compared, sg_over, sg__law_same, sg_is_fraction, e1]
    · simp [runF, d_law_lam0, x_law_lam0, RF.finish, evalSs, evalS, evalE, evalEs, frz, RF.evalArgs, evalVs, evalAnd, evalOr, bltV, Out.ofR, Out.ofO, setAll, viewE, getE, RF.R.bind, doCall, cc_call, Ar.fetch, Ar.slots, Ar.isRef, back0, back1, permA, O.toD, O.toDs, outs?, ofOpt, O.isZ, O.flat, O.clean, O.cleans, D.lf, D.lfs, pureX, pureXs, binop, L2.atI, L2.ixN, sg__law_random, sg__law_pick, sg__law_lowest, sg_lowest, sg__law_drawn_fraction, sg_plus, sg_minus, sg_times, sg__law_plus, sg__law_minus, sg__law_times, sg__law_less, sg_compared, sg_over, sg__law_same, sg__law_is_fraction, e2]
  | true =>
    by_cases p : 0 < a
    · constructor
      · simp [runF, d_is_share, RF.finish, evalSs, evalS, evalE, evalEs, frz, RF.evalArgs, evalVs, evalAnd, evalOr, bltV, Out.ofR, Out.ofO, setAll, viewE, getE, RF.R.bind, doCall, cc_call, Ar.fetch, Ar.slots, Ar.isRef, back0, back1, permA, O.toD, O.toDs, outs?, ofOpt, O.isZ, O.flat, O.clean, O.cleans, D.lf, D.lfs, pureX, pureXs, binop, L2.atI, L2.ixN, sg__law_random, sg__law_pick, sg__law_lowest, sg_lowest, sg__law_drawn_fraction, sg_plus, sg_minus, sg_times, sg__law_plus, sg__law_minus, sg__law_times, sg__law_less, sg_compared, sg_over, sg__law_same, sg_is_fraction, e1, lt_int, p]
      · simp [runF, d_law_lam0, x_law_lam0, RF.finish, evalSs, evalS, evalE, evalEs, frz, RF.evalArgs, evalVs, evalAnd, evalOr, bltV, Out.ofR, Out.ofO, setAll, viewE, getE, RF.R.bind, doCall, cc_call, Ar.fetch, Ar.slots, Ar.isRef, back0, back1, permA, O.toD, O.toDs, outs?, ofOpt, O.isZ, O.flat, O.clean, O.cleans, D.lf, D.lfs, pureX, pureXs, binop, L2.atI, L2.ixN, sg__law_random, sg__law_pick, sg__law_lowest, sg_lowest, sg__law_drawn_fraction, sg_plus, sg_minus, sg_times, sg__law_plus, sg__law_minus, sg__law_times, sg__law_less, sg_compared, sg_over, sg__law_same, sg__law_is_fraction, e2, lt_int, p]
    · constructor
      · simp [runF, d_is_share, RF.finish, evalSs, evalS, evalE, evalEs, frz, RF.evalArgs, evalVs, evalAnd, evalOr, bltV, Out.ofR, Out.ofO, setAll, viewE, getE, RF.R.bind, doCall, cc_call, Ar.fetch, Ar.slots, Ar.isRef, back0, back1, permA, O.toD, O.toDs, outs?, ofOpt, O.isZ, O.flat, O.clean, O.cleans, D.lf, D.lfs, pureX, pureXs, binop, L2.atI, L2.ixN, sg__law_random, sg__law_pick, sg__law_lowest, sg_lowest, sg__law_drawn_fraction, sg_plus, sg_minus, sg_times, sg__law_plus, sg__law_minus, sg__law_times, sg__law_less, sg_compared, sg_over, sg__law_same, sg_is_fraction, e1, lt_int, p]
      · simp [runF, d_law_lam0, x_law_lam0, RF.finish, evalSs, evalS, evalE, evalEs, frz, RF.evalArgs, evalVs, evalAnd, evalOr, bltV, Out.ofR, Out.ofO, setAll, viewE, getE, RF.R.bind, doCall, cc_call, Ar.fetch, Ar.slots, Ar.isRef, back0, back1, permA, O.toD, O.toDs, outs?, ofOpt, O.isZ, O.flat, O.clean, O.cleans, D.lf, D.lfs, pureX, pureXs, binop, L2.atI, L2.ixN, sg__law_random, sg__law_pick, sg__law_lowest, sg_lowest, sg__law_drawn_fraction, sg_plus, sg_minus, sg_times, sg__law_plus, sg__law_minus, sg__law_times, sg__law_less, sg_compared, sg_over, sg__law_same, sg__law_is_fraction, e2, lt_int, p]
theorem noJ {v : D} (h : ∀ n, (g (n + 5) f_is_fraction [.z v] = ret (.z (.bl false)) ∧ g (n + 5) f__law_is_fraction [.z v] = ret (.z (.bl false))) ∧ (g (n + 5) f_is_share [.z v] = ret (.z (.bl false)) ∧ g (n + 5) f_law_lam0 [.z v] = ret (.z (.bl false)))) : JJ v :=
  ⟨⟨false, fun n => (h n).1⟩, ⟨false, fun n => (h n).2⟩⟩
def vals (a b : Int) : List D := [.tup [.int a, .int b], .tup [.int a, .int 1], .tup [.int 0, .int b], .tup [.int 0, .int 1], .tup [.int 0, .int 2], .tup [.int 2, .int 4], .tup [.int 3, .int (-1)], .tup [.int 3, .int 0], .lst [.int 1, .int 2], .tup [.int 1], .tup [.int 1, .int 2, .int 3],
  .tup [.bl true, .int 1], .tup [.int 1, .bl true], .tup [.str ⟨#[49]⟩, .int 1], .tup [.non, .int 1], .non, .int 0, .str ⟨#[49, 47, 50]⟩, .tup [.int 1, .int 2], .tup [.int 5, .int 9], .tup [.int 1, .int (10 ^ (30 : Int).toNat)]]
theorem all_J (a b : Int) (h1 : Sm 200 a) (h2 : Sm 200 b) : ∀ v ∈ vals a b, JJ v := by
  have k : ∀ x : Int, x.natAbs < 2 ^ 150 → Sm 200 x := fun x h => Nat.lt_of_lt_of_le h (Nat.pow_le_pow_right (by decide) (by decide))
  intro v m
  simp only [vals, List.mem_cons, List.not_mem_nil, or_false] at m
  rcases m with rfl | rfl | rfl | rfl | rfl | rfl | rfl | rfl | rfl | rfl | rfl | rfl | rfl | rfl | rfl | rfl | rfl | rfl | rfl | rfl | rfl
  · exact pairJ _ _ h1 h2
  · exact pairJ _ _ h1 (k _ (by decide +kernel))
  · exact pairJ _ _ (k _ (by decide +kernel)) h2
  · exact pairJ _ _ (k _ (by decide +kernel)) (k _ (by decide +kernel))
  · exact pairJ _ _ (k _ (by decide +kernel)) (k _ (by decide +kernel))
  · exact pairJ _ _ (k _ (by decide +kernel)) (k _ (by decide +kernel))
  · exact pairJ _ _ (k _ (by decide +kernel)) (k _ (by decide +kernel))
  · exact pairJ _ _ (k _ (by decide +kernel)) (k _ (by decide +kernel))
  · exact noJ fun n => ⟨⟨rfl, rfl⟩, ⟨rfl, rfl⟩⟩
  · exact noJ fun n => ⟨⟨rfl, rfl⟩, ⟨rfl, rfl⟩⟩
  · exact noJ fun n => ⟨⟨rfl, rfl⟩, ⟨rfl, rfl⟩⟩
  · exact noJ fun n => ⟨⟨rfl, rfl⟩, ⟨rfl, rfl⟩⟩
  · exact noJ fun n => ⟨⟨rfl, rfl⟩, ⟨rfl, rfl⟩⟩
  · exact noJ fun n => ⟨⟨rfl, rfl⟩, ⟨rfl, rfl⟩⟩
  · exact noJ fun n => ⟨⟨rfl, rfl⟩, ⟨rfl, rfl⟩⟩
  · exact noJ fun n => ⟨⟨rfl, rfl⟩, ⟨rfl, rfl⟩⟩
  · exact noJ fun n => ⟨⟨rfl, rfl⟩, ⟨rfl, rfl⟩⟩
  · exact noJ fun n => ⟨⟨rfl, rfl⟩, ⟨rfl, rfl⟩⟩
  · exact pairJ _ _ (k _ (by decide +kernel)) (k _ (by decide +kernel))
  · exact pairJ _ _ (k _ (by decide +kernel)) (k _ (by decide +kernel))
  · exact pairJ _ _ (k _ (by decide +kernel)) (k _ (by decide +kernel))
/-! ### the loop of the judge -/
def bdJ (n : Nat) : RF.Env → Out := fun z => evalSs (cc n) Wf (.cons (.ite (.not (.call true f__law_same (.cons (.call true f__law_call (.cons (.v 0) (.cons (.bin .add (.v 1) (.lst (.cons (.v 4) .nil))) .nil))) (.cons (.callv 3 (.cons (.v 4) .nil)) .nil)))) (.cons (.ret (.tt false)) .nil) .nil) .nil) z
theorem call1 (n f : Nat) (v : D) (b : Bool) (hs : ∀ m, (cc m).sig f = [false]) (h : g n f [.z v] = ret (.z (.bl b))) : g (n + 1) f__law_call [.z (.fn f), .z (.lst [v])] = ret (.z (.bl b)) := by
  rw [at__law_call]
  simp [runF, d__law_call, RF.finish, evalSs, evalS, evalE, evalEs, frz, RF.evalArgs, evalVs, evalAnd, evalOr, bltV, Out.ofR, Out.ofO, setAll, viewE, getE, RF.R.bind, doCall, cc_call, Ar.fetch, Ar.slots, Ar.isRef, back0, back1, permA, O.toD, O.toDs, outs?, ofOpt, O.isZ, O.flat, O.clean, O.cleans, D.lf, D.lfs, pureX, pureXs, binop, L2.atI, L2.ixN, sg__law_random, sg__law_pick, sg__law_lowest, sg_lowest, sg__law_drawn_fraction, sg_plus, sg_minus, sg_times, sg__law_plus, sg__law_minus, sg__law_times, sg__law_less, sg_compared, sg_over, sg__law_same, eq_int, hs, h]
theorem bdJ_fn (n f f' : Nat) (v : D) (l : List D) (w : Option O) (hs : ∀ m, (cc m).sig f = [false]) (hs' : ∀ m, (cc m).sig f' = [false]) (h : Jd f f' v) : bdJ (n + 8) [some (.z (.fn f)), some (.z (.lst [])), w, some (.z (.fn f')), some (.z v)] = .nx [some (.z (.fn f)), some (.z (.lst [])), w, some (.z (.fn f')), some (.z v)] := by
  obtain ⟨b, hb⟩ := h
  have c := call1 (n + 7) f v b hs (hb (n + 2)).1
  have d := (hb (n + 3)).2
  have e := same_bl (n + 7) b
  simp [bdJ, evalSs, evalS, evalE, evalEs, frz, RF.evalArgs, evalVs, evalAnd, evalOr, bltV, Out.ofR, Out.ofO, setAll, viewE, getE, RF.R.bind, doCall, cc_call, Ar.fetch, Ar.slots, Ar.isRef, back0, back1, permA, O.toD, O.toDs, outs?, ofOpt, O.isZ, O.flat, O.clean, O.cleans, D.lf, D.lfs, pureX, pureXs, binop, L2.atI, L2.ixN, sg__law_random, sg__law_pick, sg__law_lowest, sg_lowest, sg__law_drawn_fraction, sg_plus, sg_minus, sg_times, sg__law_plus, sg__law_minus, sg__law_times, sg__law_less, sg_compared, sg_over, sg__law_same, sg__law_call, c, hs', d, e, lenOk]
theorem bdJ_clo (n f f' : Nat) (v : D) (l : List D) (w : Option O) (hs : ∀ m, (cc m).sig f = [false]) (hs' : ∀ m, (cc m).sig f' = [false]) (h : Jd f f' v) : bdJ (n + 8) [some (.z (.fn f)), some (.z (.lst [])), w, some (.z (.clo f' [])), some (.z v)] = .nx [some (.z (.fn f)), some (.z (.lst [])), w, some (.z (.clo f' [])), some (.z v)] := by
  obtain ⟨b, hb⟩ := h
  have c := call1 (n + 7) f v b hs (hb (n + 2)).1
  have d := (hb (n + 3)).2
  have e := same_bl (n + 7) b
  simp [bdJ, evalSs, evalS, evalE, evalEs, frz, RF.evalArgs, evalVs, evalAnd, evalOr, bltV, Out.ofR, Out.ofO, setAll, viewE, getE, RF.R.bind, doCall, cc_call, Ar.fetch, Ar.slots, Ar.isRef, back0, back1, permA, O.toD, O.toDs, outs?, ofOpt, O.isZ, O.flat, O.clean, O.cleans, D.lf, D.lfs, pureX, pureXs, binop, L2.atI, L2.ixN, sg__law_random, sg__law_pick, sg__law_lowest, sg_lowest, sg__law_drawn_fraction, sg_plus, sg_minus, sg_times, sg__law_plus, sg__law_minus, sg__law_times, sg__law_less, sg_compared, sg_over, sg__law_same, sg__law_call, c, hs', d, e, lenOk]
theorem forJ (n : Nat) (a b c d : Option O) : ∀ (vs : List D) (w : Option O), (∀ v ∈ vs, bdJ n [a, b, c, d, some (.z v)] = .nx [a, b, c, d, some (.z v)]) → ∃ w', evalFor (.nm 4) (bdJ n) vs [a, b, c, d, w] = .nx [a, b, c, d, w']
  | [], w, _ => ⟨w, rfl⟩
  | v :: vs, w, h => by
    obtain ⟨w', e⟩ := forJ n a b c d vs (some (.z v)) fun u m => h u (List.mem_cons_of_mem _ m)
    refine ⟨w', ?_⟩
    rw [evalFor]
    show (match bdJ n [a, b, c, d, some (.z v)] with | .nx env2 => evalFor (.nm 4) (bdJ n) vs env2 | r => r) = _
    rw [h v List.mem_cons_self]
    exact e
theorem judged (n : Nat) (f : Nat) (u : D) (vs : List D) (h : ∀ v ∈ vs, bdJ (n + 8) [some (.z (.fn f)), some (.z (.lst [])), some (.z (.lst vs)), some (.z u), some (.z v)] = .nx [some (.z (.fn f)), some (.z (.lst [])), some (.z (.lst vs)), some (.z u), some (.z v)]) : g (n + 9) f__law_judged [.z (.fn f), .z (.lst []), .z (.lst vs), .z u] = ret (.z (.bl true)) := by
  obtain ⟨w', e⟩ := forJ (n + 8) (some (.z (.fn f))) (some (.z (.lst []))) (some (.z (.lst vs))) (some (.z u)) vs none h
  rw [at__law_judged, run_eq (h := rfl)]
  show RF.finish [false, false, false, false] (evalSs (cc (n + 8)) Wf (.cons (.for (.nm 4) (.seq (.v 2)) _) (.cons (.ret (.tt true)) .nil)) [some (.z (.fn f)), some (.z (.lst [])), some (.z (.lst vs)), some (.z u), none]) = _
  have st : evalS (cc (n + 8)) Wf (.for (.nm 4) (.seq (.v 2)) (.cons (.ite (.not (.call true f__law_same (.cons (.call true f__law_call (.cons (.v 0) (.cons (.bin .add (.v 1) (.lst (.cons (.v 4) .nil))) .nil))) (.cons (.callv 3 (.cons (.v 4) .nil)) .nil)))) (.cons (.ret (.tt false)) .nil) .nil) .nil)) [some (.z (.fn f)), some (.z (.lst [])), some (.z (.lst vs)), some (.z u), none] = .nx [some (.z (.fn f)), some (.z (.lst [])), some (.z (.lst vs)), some (.z u), w'] := by
    rw [evalS]
    have it : evalIt (cc (n + 8)) (.seq (.v 2)) [some (.z (.fn f)), some (.z (.lst [])), some (.z (.lst vs)), some (.z u), none] = .ok vs [some (.z (.fn f)), some (.z (.lst [])), some (.z (.lst vs)), some (.z u), none] := by
      simp [evalIt, evalE, getE, RF.R.bind, O.toD]
    rw [it]
    exact e
  rw [nxt st]
  rfl
end K01
/-! K01s: the law. -/
namespace K01
open RF
abbrev B1 : RF.S := (.set 2 (.call true f__law_generator (.cons (.v 0) (.cons (.v 1) .nil))))
abbrev B2 : RF.S := (.for (.nm 3) (.rng1 (.n 6)) (.cons (.ite (.not (.call false f__law_pair_right (.cons (.v 2) .nil))) (.cons (.ret (.tt false)) .nil) .nil) .nil))
abbrev B3 : RF.S := (.par [4, 5] (.cons (.bin .sub (.call false f__law_random (.cons (.v 2) (.cons (.n 30) .nil))) (.n 10)) (.cons (.bin .sub (.call false f__law_random (.cons (.v 2) (.cons (.n 12) .nil))) (.n 2)) .nil)))
abbrev B4 : RF.S := (.set 6 (.lst (.cons (.tup (.cons (.v 4) (.cons (.v 5) .nil))) (.cons (.tup (.cons (.v 4) (.cons (.n 1) .nil))) (.cons (.tup (.cons (.n 0) (.cons (.v 5) .nil))) (.cons (.tup (.cons (.n 0) (.cons (.n 1) .nil))) (.cons (.tup (.cons (.n 0) (.cons (.n 2) .nil))) (.cons (.tup (.cons (.n 2) (.cons (.n 4) .nil))) (.cons (.tup (.cons (.n 3) (.cons (.bin .sub (.n 0) (.n 1)) .nil))) (.cons (.tup (.cons (.n 3) (.cons (.n 0) .nil))) (.cons (.lst (.cons (.n 1) (.cons (.n 2) .nil))) (.cons (.tup (.cons (.n 1) .nil)) (.cons (.tup (.cons (.n 1) (.cons (.n 2) (.cons (.n 3) .nil)))) (.cons (.tup (.cons (.tt true) (.cons (.n 1) .nil))) (.cons (.tup (.cons (.n 1) (.cons (.tt true) .nil))) (.cons (.tup (.cons (.s ⟨#[49]⟩) (.cons (.n 1) .nil))) .nil))))))))))))))))
abbrev B5 : RF.S := (.set 6 (.bin .add (.v 6) (.lst (.cons (.tup (.cons .non (.cons (.n 1) .nil))) (.cons .non (.cons (.n 0) (.cons (.s ⟨#[49, 47, 50]⟩) (.cons (.tup (.cons (.n 1) (.cons (.n 2) .nil))) (.cons (.tup (.cons (.n 5) (.cons (.n 9) .nil))) (.cons (.tup (.cons (.n 1) (.cons (.bin .pow (.n 10) (.n 30)) .nil))) .nil))))))))))
abbrev B6 : RF.S := (.ite (.not (.call true f__law_judged (.cons (.g f_is_fraction) (.cons (.lst .nil) (.cons (.v 6) (.cons (.g f__law_is_fraction) .nil)))))) (.cons (.ret (.tt false)) .nil) .nil)
abbrev B7 : RF.S := (.ite (.not (.call false f__law_judged (.cons (.g f_is_share) (.cons (.lst .nil) (.cons (.v 6) (.cons (.lam f_law_lam0 []) .nil)))))) (.cons (.ret (.tt false)) .nil) .nil)
abbrev BP : Ss := (.cons (.ite (.not (.call false f__law_pair_right (.cons (.v 2) .nil))) (.cons (.ret (.tt false)) .nil) .nil) .nil)
abbrev BL : RF.S := (.ret (.call true f__law_same (.cons (.lst (.cons (.callk f_is_fraction .nil (.cons (.tup (.cons (.n 1) (.cons (.n 2) .nil))) .nil) [0]) (.cons (.callk f_is_share .nil (.cons (.tup (.cons (.n 1) (.cons (.n 2) .nil))) .nil) [0]) (.cons (.call true f_plus (.cons (.tup (.cons (.n 1) (.cons (.n 2) .nil))) (.cons (.tup (.cons (.n 1) (.cons (.n 3) .nil))) .nil))) (.cons (.call true f_over (.cons (.tup (.cons (.n 1) (.cons (.n 2) .nil))) (.cons (.tup (.cons (.bin .sub (.n 0) (.n 1)) (.cons (.n 4) .nil))) .nil))) (.cons (.call true f_lowest (.cons (.n 6) (.cons (.bin .sub (.n 0) (.n 4)) .nil))) .nil)))))) (.cons (.lst (.cons (.tt true) (.cons (.tt true) (.cons (.tup (.cons (.n 5) (.cons (.n 6) .nil))) (.cons (.tup (.cons (.bin .sub (.n 0) (.n 2)) (.cons (.n 1) .nil))) (.cons (.tup (.cons (.bin .sub (.n 0) (.n 3)) (.cons (.n 2) .nil))) .nil)))))) .nil))))
def bdP : RF.Env → Out := fun z => evalSs (cc 40) Wf BP z
theorem bdP_eq (k : Nat) (o : O) (ho : Gn k o) (hk : k < 600000) (a b t c d e : Option O) : ∃ o', bdP [a, b, some o, t, c, d, e] = .nx [a, b, some o', t, c, d, e] ∧ Gn (k + 100) o' := by
  obtain ⟨o', h, ho'⟩ := pair 34 k o ho hk
  obtain ⟨x, y, z, rfl, _⟩ := ho.ex
  obtain ⟨x', y', z', rfl, _⟩ := ho'.ex
  refine ⟨_, ?_, ho'⟩
  simp [bdP, evalSs, evalS, evalE, evalEs, frz, RF.evalArgs, evalVs, evalAnd, evalOr, bltV, Out.ofR, Out.ofO, setAll, viewE, getE, RF.R.bind, doCall, cc_call, Ar.fetch, Ar.slots, Ar.isRef, back0, back1, permA, O.toD, O.toDs, outs?, ofOpt, O.isZ, O.flat, O.clean, O.cleans, D.lf, D.lfs, pureX, pureXs, binop, L2.atI, L2.ixN, sg__law_random, sg__law_pick, sg__law_lowest, sg_lowest, sg__law_drawn_fraction, sg_plus, sg_minus, sg_times, sg__law_plus, sg__law_minus, sg__law_times, sg__law_less, sg_compared, sg_over, sg__law_same, sg__law_pair_right, h]
theorem forP (a b c d e : Option O) : ∀ (ds : List D) (k : Nat) (o : O) (t : Option O), Gn k o → k + 100 * ds.length < 500000 → ∃ o' t', evalFor (.nm 3) bdP ds [a, b, some o, t, c, d, e] = .nx [a, b, some o', t', c, d, e] ∧ Gn (k + 100 * ds.length) o'
  | [], k, o, t, ho, _ => ⟨o, t, rfl, ho⟩
  | x :: ds, k, o, t, ho, hk => by
    rw [List.length_cons] at hk
    obtain ⟨o1, e1, h1⟩ := bdP_eq k o ho (by omega) a b (some (.z x)) c d e
    obtain ⟨o2, t2, e2, h2⟩ := forP a b c d e ds (k + 100) o1 (some (.z x)) h1 (by omega)
    refine ⟨o2, t2, ?_, by rw [List.length_cons, show k + 100 * (ds.length + 1) = k + 100 + 100 * ds.length by omega]; exact h2⟩
    rw [evalFor]
    show (match bdP [a, b, some o, some (.z x), c, d, e] with | .nx env2 => evalFor (.nm 3) bdP ds env2 | r => r) = _
    rw [e1]
    exact e2
def bdO : RF.Env → Out := fun z => evalSs (cc 40) Wf (.cons B1 (.cons B2 (.cons B3 (.cons B4 (.cons B5 (.cons B6 (.cons B7 .nil))))))) z
theorem powD : powOk 10 30 = true := by decide +kernel
theorem sg0 (m : Nat) : (cc m).sig f_is_fraction = [false] ∧ (cc m).sig f__law_is_fraction = [false] ∧ (cc m).sig f_is_share = [false] ∧ (cc m).sig f_law_lam0 = [false] := ⟨rfl, rfl, rfl, rfl⟩
theorem bdO_eq (s : List Int) (i : Nat) (hi : i < 2) (c t x y v : Option O) : ∃ c' t' x' y' v', bdO [some (.z (.scr s)), some (zi i), c, t, x, y, v] = .nx [some (.z (.scr s)), some (zi i), c', t', x', y', v'] := by
  obtain ⟨o, e, ho⟩ := gen_eq 38 s i hi
  have b1 : evalS (cc 40) Wf B1 [some (.z (.scr s)), some (zi i), c, t, x, y, v] = .nx [some (.z (.scr s)), some (zi i), some o, t, x, y, v] := by
    obtain ⟨p, q, r, rfl, _⟩ := ho.ex
    simp [evalSs, evalS, evalE, evalEs, frz, RF.evalArgs, evalVs, evalAnd, evalOr, bltV, Out.ofR, Out.ofO, setAll, viewE, getE, RF.R.bind, doCall, cc_call, Ar.fetch, Ar.slots, Ar.isRef, back0, back1, permA, O.toD, O.toDs, outs?, ofOpt, O.isZ, O.flat, O.clean, O.cleans, D.lf, D.lfs, pureX, pureXs, binop, L2.atI, L2.ixN, sg__law_random, sg__law_pick, sg__law_lowest, sg_lowest, sg__law_drawn_fraction, sg_plus, sg_minus, sg_times, sg__law_plus, sg__law_minus, sg__law_times, sg__law_less, sg_compared, sg_over, sg__law_same, sg__law_generator, e]
  obtain ⟨o2, t2, e2, h2⟩ := forP (some (.z (.scr s))) (some (zi i)) x y v (rangeL 0 1 6) 1000 o t ho (by simp [rangeL])
  have b2 : evalS (cc 40) Wf B2 [some (.z (.scr s)), some (zi i), some o, t, x, y, v] = .nx [some (.z (.scr s)), some (zi i), some o2, t2, x, y, v] := by
    rw [evalS]
    have it : evalIt (cc 40) (.rng1 (.n 6)) [some (.z (.scr s)), some (zi i), some o, t, x, y, v] = .ok (rangeL 0 1 6) [some (.z (.scr s)), some (zi i), some o, t, x, y, v] := rfl
    rw [it]
    exact e2
  have h2 : Gn 1600 o2 := h2
  obtain ⟨r, o3, e3, r1, r2, h3⟩ := rnd 38 1600 o2 30 h2 (by decide) (by decide) (by unfold Sm; exact Nat.lt_of_lt_of_le (show (30 : Int).natAbs < 2 ^ 10 by decide) (Nat.pow_le_pow_right (by decide) (by decide)))
  obtain ⟨q, o4, e4, q1, q2, h4⟩ := rnd 38 1610 o3 12 h3 (by decide) (by decide) (by unfold Sm; exact Nat.lt_of_lt_of_le (show (12 : Int).natAbs < 2 ^ 10 by decide) (Nat.pow_le_pow_right (by decide) (by decide)))
  have b3 : evalS (cc 40) Wf B3 [some (.z (.scr s)), some (zi i), some o2, t2, x, y, v] = .nx [some (.z (.scr s)), some (zi i), some o4, t2, some (zi (r - 10)), some (zi (q - 2)), v] := by
    obtain ⟨p1, p2, p3, rfl, _⟩ := h2.ex
    obtain ⟨p1', p2', p3', rfl, _⟩ := h3.ex
    obtain ⟨p1', p2', p3', rfl, _⟩ := h4.ex
    simp [evalSs, evalS, evalE, evalEs, frz, RF.evalArgs, evalVs, evalAnd, evalOr, bltV, Out.ofR, Out.ofO, setAll, viewE, getE, RF.R.bind, doCall, cc_call, Ar.fetch, Ar.slots, Ar.isRef, back0, back1, permA, O.toD, O.toDs, outs?, ofOpt, O.isZ, O.flat, O.clean, O.cleans, D.lf, D.lfs, pureX, pureXs, binop, L2.atI, L2.ixN, sg__law_random, sg__law_pick, sg__law_lowest, sg_lowest, sg__law_drawn_fraction, sg_plus, sg_minus, sg_times, sg__law_plus, sg__law_minus, sg__law_times, sg__law_less, sg_compared, sg_over, sg__law_same, e3, e4]
  have big : ∀ z : Int, z.natAbs < 2 ^ 10 → Sm 200 z := fun z h => Nat.lt_of_lt_of_le h (Nat.pow_le_pow_right (by decide) (by decide))
  have J := all_J (r - 10) (q - 2) (big _ (by omega)) (big _ (by omega))
  obtain ⟨w1, b45⟩ : ∃ w, (evalS (cc 40) Wf B4 [some (.z (.scr s)), some (zi i), some o4, t2, some (zi (r - 10)), some (zi (q - 2)), v] = .nx [some (.z (.scr s)), some (zi i), some o4, t2, some (zi (r - 10)), some (zi (q - 2)), some w]) ∧
      evalS (cc 40) Wf B5 [some (.z (.scr s)), some (zi i), some o4, t2, some (zi (r - 10)), some (zi (q - 2)), some w] = .nx [some (.z (.scr s)), some (zi i), some o4, t2, some (zi (r - 10)), some (zi (q - 2)), some (.l ((vals (r - 10) (q - 2)).map .z))] := by
    refine ⟨.l ((((vals (r - 10) (q - 2)).take 8).map .z) ++ ([.l [zi 1, zi 2]] ++ (((vals (r - 10) (q - 2)).drop 9).take 5).map .z)), ?_, ?_⟩
    · simp [evalSs, evalS, evalE, evalEs, frz, RF.evalArgs, evalVs, evalAnd, evalOr, bltV, Out.ofR, Out.ofO, setAll, viewE, getE, RF.R.bind, doCall, cc_call, Ar.fetch, Ar.slots, Ar.isRef, back0, back1, permA, O.toD, O.toDs, outs?, ofOpt, O.isZ, O.flat, O.clean, O.cleans, D.lf, D.lfs, pureX, pureXs, binop, L2.atI, L2.ixN, sg__law_random, sg__law_pick, sg__law_lowest, sg_lowest, sg__law_drawn_fraction, sg_plus, sg_minus, sg_times, sg__law_plus, sg__law_minus, sg__law_times, sg__law_less, sg_compared, sg_over, sg__law_same, vals]
    · simp [evalSs, evalS, evalE, evalEs, frz, RF.evalArgs, evalVs, evalAnd, evalOr, bltV, Out.ofR, Out.ofO, setAll, viewE, getE, RF.R.bind, doCall, cc_call, Ar.fetch, Ar.slots, Ar.isRef, back0, back1, permA, O.toD, O.toDs, outs?, ofOpt, O.isZ, O.flat, O.clean, O.cleans, D.lf, D.lfs, pureX, pureXs, binop, L2.atI, L2.ixN, sg__law_random, sg__law_pick, sg__law_lowest, sg_lowest, sg__law_drawn_fraction, sg_plus, sg_minus, sg_times, sg__law_plus, sg__law_minus, sg__law_times, sg__law_less, sg_compared, sg_over, sg__law_same, vals, lenOk, powD]
  obtain ⟨b4, b5⟩ := b45
  have toD : (O.l ((vals (r - 10) (q - 2)).map .z)).toD = .lst (vals (r - 10) (q - 2)) := by
    simp [O.toD, O.toDs_map, Function.comp_def]
  have j1 := judged 31 f_is_fraction (.fn f__law_is_fraction) (vals (r - 10) (q - 2)) fun u m => bdJ_fn 31 _ _ u [] _ (fun m => rfl) (fun m => rfl) (J u m).1
  have j2 := judged 31 f_is_share (.clo f_law_lam0 []) (vals (r - 10) (q - 2)) fun u m => bdJ_clo 31 _ _ u [] _ (fun m => rfl) (fun m => rfl) (J u m).2
  generalize hvs : vals (r - 10) (q - 2) = vs at *
  have b6 : evalS (cc 40) Wf B6 [some (.z (.scr s)), some (zi i), some o4, t2, some (zi (r - 10)), some (zi (q - 2)), some (.l (vs.map .z))] = .nx [some (.z (.scr s)), some (zi i), some o4, t2, some (zi (r - 10)), some (zi (q - 2)), some (.l (vs.map .z))] := by
    simp only [O.toD] at toD
    simp [evalSs, evalS, evalE, evalEs, frz, RF.evalArgs, Out.ofR, getE, RF.R.bind, doCall, cc_call, Ar.fetch, Ar.slots, Ar.isRef, back0, O.toD, O.toDs, O.clean, D.lf, sg__law_judged, toD, j1]
  have b7 : ∃ v', evalS (cc 40) Wf B7 [some (.z (.scr s)), some (zi i), some o4, t2, some (zi (r - 10)), some (zi (q - 2)), some (.l (vs.map .z))] = .nx [some (.z (.scr s)), some (zi i), some o4, t2, some (zi (r - 10)), some (zi (q - 2)), v'] := by
    simp only [O.toD] at toD
    refine ⟨some (frz (.l (vs.map .z))), ?_⟩
    simp [evalSs, evalS, evalE, evalEs, frz, RF.evalArgs, Out.ofR, getE, RF.R.bind, doCall, cc_call, Ar.fetch, Ar.slots, Ar.isRef, back0, O.toD, O.toDs, O.clean, D.lf, sg__law_judged, toD, j2, caps?, ofOpt]
  obtain ⟨v', b7⟩ := b7
  refine ⟨some o4, t2, some (zi (r - 10)), some (zi (q - 2)), v', ?_⟩
  show evalSs (cc 40) Wf _ _ = _
  rw [nxt b1, nxt b2, nxt b3, nxt b4, nxt b5, nxt b6, nxt b7]
  rfl
end K01
/-! K01: the head (printed by genhead.py). -/
namespace K01
open L2 PySem RF PySem.Spec PyProof.Rows
theorem headrun (w : World) : HandSHeadRun.RunEq R (PySem.W.view R.prog [31]) hk ob 4000 names w := by
  intro os
  kernel_rfl
theorem fit {w : World} {K : PySem.W.Frag} {h : Heap} {mg : Str → Option Value} {fa : Addr} (KX : K.In h) (G : h.Ns mainGlobals mg) (c : He.SaysX faL fnL [] tf ex w h K) (hmg : mg ("law" : Str) = some (.ref fa))
    (math : ∀ s : List Int, s.length ≤ 63 → (∀ z ∈ s, Builtin.Int.intBits z ≤ 1048576) → run s = .rt (.z (.bl true)) []) : LamX.LawAtS PySem.Challenge.rw_risingfits_k01_fractions_of_fits w K (L2.CX PySem.Challenge.rw_risingfits_k01_fractions_of_fits.prog w) (40 + 1) 63 "script" mg fa h :=
  law_at (body := bodyL) (ds := ds) (kw := kw) (ks := ks) (lamB := lamB) (T := T) (stL := stL) (nL := nL) (F := d_law) (Wf := 5000) (n := 40) KX G c (List.mem_singleton.mpr rfl) (fun p hp => List.mem_singleton.mp hp) List.mem_cons_self List.mem_cons_self hmg
    (fun e m => List.mem_cons_of_mem _ (List.mem_map_of_mem m)) (fun e m => List.mem_cons_of_mem _ (List.mem_append_left _ (List.mem_map.mpr ⟨e, m, rfl⟩)))
    (fun x m => List.mem_cons_of_mem _ (List.mem_append_right _ (List.mem_append_left _ (List.mem_map_of_mem m)))) (fun q m => List.mem_cons_of_mem _ (List.mem_append_right _ (List.mem_append_right _ (List.mem_map.mpr ⟨q, m, rfl⟩))))
    ok_all ok_T (fun K f e fd => b_all f e fd) ok_lam (fun q k ps sc b h => ok_free k ps sc b h) ok_sc ok_law rfl rfl (fun _ _ _ _ _ _ us hl => match us, hl with | [_], _ => rfl) math
end K01
section
open PySem PySem.Calls PySem.W PyProof.Rows
theorem K01.holds_of (math : ∀ s : List Int, s.length ≤ 63 → (∀ z ∈ s, Builtin.Int.intBits z ≤ 1048576) → K01.run s = .rt (.z (.bl true)) []) : PySem.Challenge.rw_risingfits_k01_fractions_of_fits.Holds := by
  w_on; o_law
  refine HandSHeadRun.head_any (r := OpenLaw.row PySem.Challenge.rw_risingfits_k01_fractions_of_fits) (q := view (OpenLaw.row PySem.Challenge.rw_risingfits_k01_fractions_of_fits).prog [31]) (H := K01.hk) (ob := K01.ob) (M := 4000) (loose := K01.names) (d := HandSHeadRun.topDef (OpenLaw.row PySem.Challenge.rw_risingfits_k01_fractions_of_fits).prog 31) (kwd := []) K01.ob_eq
    (by kernel_rfl) (fun s => by kernel_rfl) K01.headrun (by kernel_rfl) (by kernel_rfl) (by kernel_rfl) (by rfl) (by first | assumption | decide +kernel) (by decide +kernel) ⟨rfl, rfl, rfl, rfl, rfl, by decide +kernel⟩ ?hw ?hc
  case hw => w_witness2
  case hc =>
    refine LamX.walk_ofTsE (l := PySem.Challenge.rw_risingfits_k01_fractions_of_fits) (n := 63) (k := 40 + 1) (x := "script") (CX := fun w => L2.CX PySem.Challenge.rw_risingfits_k01_fractions_of_fits.prog w) rfl (by decide) (by kernel_rfl) ⟨rfl, by decide, by decide⟩ ?F (fun _ _ _ _ _ z => RF.noCX z)
    intro w mg fa h Y G hmg0
    obtain ⟨K, KX, c⟩ := Y
    have hmg : mg ("law" : PySem.Str) = some (.ref fa) := by
      have e : (HandSHeadRun.topDef (OpenLaw.row PySem.Challenge.rw_risingfits_k01_fractions_of_fits).prog 31).name = ("law" : PySem.Str) := by kernel_rfl
      rw [← e]
      exact hmg0
    exact ⟨K, KX, K01.fit KX G c hmg math⟩
/-! K01v: the law holds. -/
end
namespace K01
open RF
theorem l1 : g 40 f_is_fraction [fr 1 2] = ret (.z (.bl true)) := (pair_f 1 2 (by unfold Sm; decide +kernel) (by unfold Sm; decide +kernel) 37).1
theorem l2 : g 40 f_is_share [fr 1 2] = ret (.z (.bl true)) := by kernel_rfl
theorem l3 : g 40 f_plus [fr 1 2, fr 1 3] = ret (fr 5 6) := by kernel_rfl
theorem l4 : g 40 f_over [fr 1 2, fr (-1) 4] = ret (fr (-2) 1) := by kernel_rfl
theorem l5 : g 40 f_lowest [zi 6, zi (-4)] = ret (fr (-3) 2) := by kernel_rfl
theorem l6 : g 40 f__law_same [.z (.lst [.bl true, .bl true, .tup [.int 5, .int 6], .tup [.int (-2), .int 1], .tup [.int (-3), .int 2]]), .z (.lst [.bl true, .bl true, .tup [.int 5, .int 6], .tup [.int (-2), .int 1], .tup [.int (-3), .int 2]])] = ret (.z (.bl true)) :=
  (same_seq 39 _ (by simp) fun d m => by
    simp only [List.mem_cons, List.not_mem_nil, or_false] at m
    rcases m with rfl | rfl | rfl | rfl | rfl
    · exact same_bl 38 true
    · exact same_bl 38 true
    · exact same_fr 37 5 6
    · exact same_fr 37 (-2) 1
    · exact same_fr 37 (-3) 2).1
theorem last (e : RF.Env) : evalS (cc 40) Wf BL e = .rt (.z (.bl true)) e := by
  simp [evalSs, evalS, evalE, evalEs, frz, RF.evalArgs, evalVs, evalAnd, evalOr, bltV, Out.ofR, Out.ofO, setAll, viewE, getE, RF.R.bind, doCall, cc_call, Ar.fetch, Ar.slots, Ar.isRef, back0, back1, permA, O.toD, O.toDs, outs?, ofOpt, O.isZ, O.flat, O.clean, O.cleans, D.lf, D.lfs, pureX, pureXs, binop, L2.atI, L2.ixN, sg__law_random, sg__law_pick, sg__law_lowest, sg_lowest, sg__law_drawn_fraction, sg_plus, sg_minus, sg_times, sg__law_plus, sg__law_minus, sg__law_times, sg__law_less, sg_compared, sg_over, sg__law_same, sg_is_fraction, sg_is_share, l1, l2, l3, l4, l5, l6]
theorem math (s : List Int) : run s = .rt (.z (.bl true)) [] := by
  show runF (cc 40) Wf d_law [.z (.scr s)] = _
  obtain ⟨c1, t1, x1, y1, v1, e1⟩ := bdO_eq s 0 (by decide) none none none none none
  obtain ⟨c2, t2, x2, y2, v2, e2⟩ := bdO_eq s 1 (by decide) c1 t1 x1 y1 v1
  have fo : evalFor (.nm 1) bdO [.int 0, .int 1] [some (.z (.scr s)), none, none, none, none, none, none] = .nx [some (.z (.scr s)), some (zi (1 : Nat)), c2, t2, x2, y2, v2] := by
    rw [evalFor]
    show (match bdO [some (.z (.scr s)), some (zi (0 : Nat)), none, none, none, none, none] with | .nx env2 => evalFor (.nm 1) bdO [.int 1] env2 | r => r) = _
    rw [e1]
    show evalFor (.nm 1) bdO [.int 1] [some (.z (.scr s)), some (zi (0 : Nat)), c1, t1, x1, y1, v1] = _
    rw [evalFor]
    show (match bdO [some (.z (.scr s)), some (zi (1 : Nat)), c1, t1, x1, y1, v1] with | .nx env2 => evalFor (.nm 1) bdO [] env2 | r => r) = _
    rw [e2]
    rfl
  have st : evalS (cc 40) Wf (.for (.nm 1) (.rng1 (.n 2)) (.cons B1 (.cons B2 (.cons B3 (.cons B4 (.cons B5 (.cons B6 (.cons B7 .nil)))))))) [some (.z (.scr s)), none, none, none, none, none, none] = .nx [some (.z (.scr s)), some (zi (1 : Nat)), c2, t2, x2, y2, v2] := by
    rw [evalS]
    have it : evalIt (cc 40) (.rng1 (.n 2)) [some (.z (.scr s)), none, none, none, none, none, none] = .ok [.int 0, .int 1] [some (.z (.scr s)), none, none, none, none, none, none] := rfl
    rw [it]
    exact fo
  rw [run_eq (h := rfl)]
  show RF.finish [false] (evalSs (cc 40) Wf (.cons (.for (.nm 1) (.rng1 (.n 2)) (.cons B1 (.cons B2 (.cons B3 (.cons B4 (.cons B5 (.cons B6 (.cons B7 .nil)))))))) (.cons BL .nil)) [some (.z (.scr s)), none, none, none, none, none, none]) = _
  rw [nxt st, evalSs, last]
  rfl
end K01
theorem PySem.Challenge.cw_risingfits_k01_fractions_of_fits_holds : PySem.Challenge.rw_risingfits_k01_fractions_of_fits.Holds := by
  exact K01.holds_of fun s _ _ => K01.math s
